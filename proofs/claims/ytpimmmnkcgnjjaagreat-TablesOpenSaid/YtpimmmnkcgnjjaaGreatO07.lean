/- A small verified interpreter over names, its proofs, and what was proved with it. No condition. -/
import Derived.Shelf.SlSortCmp.WholeK
import Derived.Shelf.SlSortCmp.Whole1
import Derived.ProofKit
import Derived.Deep.DeepHandedRow
import Derived.Test.YtpimmmnkcgnjjaaGreatO06
import Derived.Test.YtpimmmnkcgnjjaaGreatO05
import Derived.Test.YtpimmmnkcgnjjaaGreatO03
set_option linter.all false
set_option linter.deprecated false
section
namespace Go.Ai
open Go.RowKit (Below)
variable {B G n n0 m l l1 lo:Nat} {P:Program} {ρ0 ρ:Rn} {w0 w wb:World} {x r:Option Nat} {I:Inv} {fr fr0:Fr} {p:Option J} {H:Mem} {a:Act} {W:WF} {fid D:Nat} {tm:Array Value} {ps:Array Tmp} {asg body:Code} {plan:List (Nat×List It)}
def YN:YW:=fun _ _ _=>False
def RN:RWF:=fun _ _ _ _ _ _ _=>False
theorem YN_ok:b4d B G P r x l I YN:=fun _ _ _ h=>h.elim
theorem RN_ok:c0w B G n n0 P r x l I RN:=fun _ _ _ _ _ _ _ h=>h.elim
def rdW (K:Bool->Option J->Mem->Prop) : QR:=fun _ out=>match out with
 | .norm _ H=>K true none H
 | .exit id _ H=>K false (some (some id)) H
 | .ret _ H=>K false (some none) H
 | _=>False
def rd0 (k:Fr->Mem->Prop) : QR:=fun _ out=>match out with
 | .norm fr H=>k fr H
 | _=>False
noncomputable def rdX (G:Nat) (P:Program) (W:WF) (n:Nat) (plan:List (Nat×List It)) (c:Code) (fr:Fr) (H:Mem) (Q:QR) : Prop:=Cg P W YN RN (LXR G P n 0 YN RN) 0 [] plan c none fr H Q
noncomputable def YB (G:Nat) (P:Program) (W:WF) (n:Nat) (plan:List (Nat×List It)) (ps:Array Tmp) (asg body:Code) (fr0:Fr) : YW:=fun vs H K =>
 vs.length=ps.size/\rdX G P W n plan asg (putPs ps.toList vs fr0) H (rd0 fun fr1 H1=>rdX G P W n plan body fr1 H1 (rdW K))
theorem f6f (hW:WOK G P W) (hM:a6b W) (hG:G=P.globals.size) (hB:B<=l) (hps:∀ t∈ps.toList,t<n) (hda:Au n asg=true) (hdb:Au n body=true) (hca:a0o P plan asg=true) (hcb:a0o P plan body=true) :
  b4d B G P none (some l) l (II n fr0 fid tm ps asg body D l) (YB G P W n plan ps asg body fr0):=by
 intro vs H K hyf m ρ us ds w hs hv hI;obtain⟨rfl,hfr,hl⟩:=hI;obtain⟨hlen',hx⟩:=hyf;have hsz:us.size=ps.size:=by have:=hv.length;simp at this;omega
 refine⟨fid,_,asg,body,run_yield hl hsz,roundIn_of_wpIn trivial ?_⟩;generalize htm:((a0y fid tm ps asg body D (a6d none) (Option.map jcode none)).params.zip us).foldl (fun tmps (t,a)=>tmps.setIfInBounds t a) (a0y fid tm ps asg body D (a6d none) (Option.map jcode none)).tmps=tm1;have hfr1:a0v n ρ (putPs ps.toList vs fr0) { tmps:=tm1,defers:=[] }:=by
  have:=putPs_ok hps hv hfr;rw[<- htm];show a0v n ρ (putPs ps.toList vs fr0) { tmps:=(ps.zip us).foldl (fun tmps (t,a)=>tmps.setIfInBounds t a) tm,defers:=[] };rw[<- Array.foldl_toList,Array.toList_zip];exact this
 have s0:StE B G n H.next ρ w none 0 (IR fid tm ps asg body D l .ready) ρ (putPs ps.toList vs fr0) [] none H { tmps:=tm1,defers:=[] } w :=
  ⟨fun _ _=>rfl,KX.refl _ _,Below.refl _ _,hs,hfr1,Dm _,⟨rfl,hl⟩,by simp⟩
 have key:=b7j (r:=some l) (yr:=[]) hW hM hG (b0n (st:=.ready)) (YN_ok (r:=some l)) (RN_ok (n:=n) (n0:=H.next)) m asg none _ H _ ρ w ρ _ w hda hca hx s0;refine Code.wpIn_mono ?_ key;rintro e a1 w1 ⟨q1,out1,hq1,ho1⟩
 cases out1 with
 | norm fr1 H1 =>
  obtain⟨rfl,ρ1,s1⟩:=ho1;obtain⟨hds1,hl1⟩:=s1.inv;refine⟨_,run_beginRound hl1 rfl,?_⟩;have hl2:(w1.putObj l (.loop { a0y fid tm ps asg body D .ready none with state:=.busy })).heap[l]?=some (.loop (a0y fid tm ps asg body D .busy none)):=World.putObj_heap_same (g3x.1 hl1).1;generalize hw2:w1.putObj l (.loop { a0y fid tm ps asg body D .ready none with state:=.busy })=w2 at hl2 |-;have s2:StE B G n H1.next ρ1 w2 none 0 (IR fid tm ps asg body D l .busy) ρ1 fr1 [] none H1 a1 w2 :=
   ⟨fun _ _=>rfl,KX.refl _ _,Below.refl _ _,by rw[<- hw2];exact b2l s1.sim hl1 rfl,s1.frel,Dm _,⟨hds1,hl2⟩,by simp⟩
  have fin:∀ {H2:Mem} {ρ2:Rn} {fr2:Fr} {q:Option J} {a2:Act} {w3:World} (j:Option J),StE B G n H1.next ρ1 w2 none 0 (IR fid tm ps asg body D l .busy) ρ2 fr2 [] q H2 a2 w3->K j.isNone j H2 ->
    ∃ v w4,(Instr.endRound l (j.map jcode)).run P w3=.ok v w4/\∃ b p' H',K b p' H'/\Ending.returned v=.returned (.bool b)/\∃ ρ',(∀ a,a<H.next->ρ' a=ρ a)/\KX (some l) w w4/\Below B w w4/\Sim B G ρ' H' w4/\H.next<=H'.next/\II n fr0 fid tm ps asg body D l ρ' p' [] w4:=by
   intro H2 ρ2 fr2 q a2 w3 j s3 hk;obtain⟨_,hl3⟩:=s3.inv;have hne:((j.map jcode).isNone)=j.isNone:=by cases j<;>rfl
   refine⟨_,_,run_endRound _ hl3,_,_,_,hk,by rw[hne],ρ2,fun b hb=>?_,?_,?_,b2l s3.sim hl3 rfl,Dw s1.le s3.le,rfl,?_,?_⟩
   ·exact(s3.same b (Eh hb s1.le)).trans (s1.same b hb)
   ·have k1:KX (some l) w w1:=⟨fun k o hk ho hx=>s1.keeps.1 k o hk ho (by simp),s1.keeps.2⟩;have k2:KX (some l) w1 w2:=by rw[<- hw2];exact c0u
    have k3:KX (some l) w2 w3:=⟨fun k o hk ho hx=>s3.keeps.1 k o hk ho (by simp),s3.keeps.2⟩;exact((k1.trans k2).trans k3).trans c0u
   ·have k2:Below B w1 w2:=by rw[<- hw2];exact b2k hB
    exact((s1.below.trans k2).trans s3.below).trans (b2k hB)
   ·exact hfr.mono (c0v hs fun b hb=>(s3.same b (Eh hb s1.le)).trans (s1.same b hb))
   ·rw[World.putObj_heap_same (g3x.1 hl3).1];cases j<;>rfl
  have key2:=b7j (r:=some l) (yr:=[]) hW hM hG (b0n (st:=.busy)) (YN_ok (r:=some l)) (RN_ok (n:=n) (n0:=H1.next)) m body none fr1 H1 _ ρ1 w2 ρ1 a1 w2 hdb hcb hq1 s2;refine Code.wpIn_mono ?_ key2;rintro e a2 w3 ⟨q2,out2,hq2,ho2⟩
  cases out2 with
  | norm fr2 H2=>obtain⟨rfl,ρ2,s3⟩:=ho2;exact fin none s3 hq2
  | exit id fr2 H2=>obtain⟨rfl,ρ2,s3⟩:=ho2;exact fin (some (some id)) s3 hq2
  | ret fr2 H2=>obtain⟨rfl,ρ2,s3⟩:=ho2;exact fin (some none) s3 hq2
  | panic v fr2 H2=>exact hq2.elim
  | bad=>exact hq2.elim
 | exit id fr1 H1=>exact hq1.elim
 | ret fr1 H1=>exact hq1.elim
 | panic v fr1 H1=>exact hq1.elim
 | bad=>exact hq1.elim
def a8r (Q:QR) (fr:Fr) (H:Mem) : Option J->Prop
 | none=>Q none (.norm fr H)
 | some none=>Q none (.ret fr H)
 | some (some id)=>Q none (.exit id fr H)
def b4e (k:Mem->Prop) : Ar->Prop
 | .ret _ H=>k H
 | _=>False
noncomputable def itQ (P:Program) (it:Func) (K:Option J->Mem->Prop) : QR:=fun p out=>match out with
 | .norm fr2 H2=>a4l P noO it (b4e (K p)) (.norm fr2 H2)
 | .ret fr2 H2=>a4l P noO it (b4e (K p)) (.ret fr2 H2)
 | _=>False
noncomputable def itX (G:Nat) (P:Program) (W:WF) (Y:YW) (n l:Nat) (yr:List Nat) (plan:List (Nat×List It)) (c:Code) (fr:Fr) (H:Mem) (Q:QR) : Prop:=Cg P W Y RN (LXR G P n l Y RN) l yr plan c none fr H Q
noncomputable def RG (G:Nat) (P:Program) (W:WF) (n:Nat) (plan:List (Nat×List It)) : RWF:=fun g ps asg body fr H Q =>
 (ps.toList.all (fun t=>Nat.blt t n) && (Au n asg && Au n body && (a0o P plan asg && a0o P plan body)))=true /\
 ∃ (f:FuncId) (cap:List AV) (it:Func) (c:Code) (yr:List Nat) (planI:List (Nat×List It)),fr.ev g=some (.func (.func f) [] cap)/\P.funcs[f]?=some it/\it.body=some c/\Aq P f=true/\(Au it.ntmps c && a0o P planI c)=true/\cap.length+1<=it.ntmps /\
  ∀ l,itX G P W (YB G P W n plan ps asg body fr) it.ntmps l yr planI c (a4w (.lit (.func (.yield l) #[] #[]) :: cap)) H (itQ P it (fun p H'=>a8r Q fr H' p))
theorem d4w {fn:Func} {fr:Fr} {K:Ar->Prop} (hd:fr.defers=[]) (h:match De P noO (fun _ _ _=>.bad) fn fr fr.defers .returning H with|.bad=>False|r=>K r) : ∃ v,a2f P fn fr H=some v/\K (.ret v H):=by
 rw[hd] at h;unfold De at h;split at h
 ·exact h.elim
 ·rename_i r hr
  cases hv:a2f P fn fr H with
  | none=>rw[hv] at hr;exact absurd rfl hr
  | some v=>rw[hv] at h;exact⟨v,rfl,h⟩
theorem f6g (hW:WOK G P W) (hM:a6b W) (hG:G=P.globals.size) : c0w B G n n0 P none none l1 (Iv0 lo) (RG G P W n plan):=by
 intro g ps asg body fr H Q hrf m ρ0 w0 ρ a w s;obtain⟨hst,f,cap,it,c,yr,planI,hev,hit,hbd,hbody,hdst,hlen',hx⟩:=hrf;simp only[Dq] at hst hdst;obtain⟨hps,⟨hda,hdb⟩,hca,hcb⟩:=hst;have hps' : ∀ t∈ps.toList,t<n:=fun t ht=>Dp (Ec.1 hps t ht);obtain⟨f',c',hu,h1,h2⟩:=s.ev _ _ hev;have hf' : f'=#[]:=by cases f';simp[VRs] at h1;simp[h1]
 subst hf';refine wpIn_rangeFunc fun fn _=>?_;have hen:=run_enterLoop_outer (P:=P) (w:=w) fn a.tmps ps asg body;have hal:=World.alloc_heap_new (w.alloc (.deferred (some []))) (.loop { state:=.ready,pending:=none,fn:=fn,tmps:=a.tmps,params:=ps,assign:=asg,body:=body,defers:=w.heap.size });rw[World.size_alloc] at hal;generalize hl0:w.heap.size+1=l at hen hal;generalize hw1:(w.alloc (.deferred (some []))).alloc (.loop { state:=.ready,pending:=none,fn:=fn,tmps:=a.tmps,params:=ps,assign:=asg,body:=body,defers:=w.heap.size })=w1 at hen hal;refine⟨l,_,w1,{ target:=.fn (.func f) c',args:=#[.func (.yield l) #[] #[]] },w1,f,#[.func (.yield l) #[] #[]]++c',w1,hen,?_,fun _ _=>trivial,?_,fun h=>(by cases h),?_⟩
 ·have hcst:∀ v:Value,a.eval (.const v)=v:=fun _=>rfl;simp[resolve,hu,Deferred.ofValue,hcst]
 ·exact b9d hbody _ _
 ·
  have hsz1:w1.heap.size=w.heap.size+2:=by rw[<- hw1];simp
  have hdrw:w.drawn<=w1.drawn:=by rw[<- hw1];exact Dm _
  have hold:∀ k,k<w.heap.size->w1.heap[k]?=w.heap[k]?:=by
   intro k hk;rw[<- hw1,Below.heap_alloc _ _ _ (by simp;omega),Below.heap_alloc _ _ _ hk]
  have hD:w1.heap[w.heap.size]?=some (.deferred (some [])):=by
   rw[<- hw1,Below.heap_alloc _ _ _ (by simp),World.alloc_heap_new]
  have hl:w1.heap[l]?=some (.loop (a0y fn a.tmps ps asg body w.heap.size .ready none)):=hal;have hbw:Below B w w1:=by
   rw[<- hw1];exact((Below.refl B w).alloc s.sim.base _).alloc (by simp;have:=s.sim.base;omega) _
  have hsim1:Sim B G ρ H w1:=s.sim.other (by omega) fun a x b o k hx hr=>hold b (by
   rcases s.sim.blk a x hx with h|⟨b',o',k',h,hb⟩
   ·rw[hr] at h;cases h
   ·rw[hr] at h;cases h;exact hb.lt)
  have hvs:VRs ρ (.lit (.func (.yield l) #[] #[]) :: cap) (#[Value.func (.yield l) #[] #[]]++c').toList:=by
   rw[Array.toList_append];exact⟨_,_,rfl,rfl,h2⟩
  have hf1:=b9x (n:=it.ntmps) hvs (by simpa using hlen');have hB:B<=l:=by have:=s.sim.base;omega
  have s1:StE B G it.ntmps H.next ρ w1 (some l) l (II n fr fn a.tmps ps asg body w.heap.size l) ρ (a4w (.lit (.func (.yield l) #[] #[]) :: cap)) [] none H { tmps:=#[Value.func (.yield l) #[] #[]]++c'++Array.replicate (it.ntmps-(#[Value.func (.yield l) #[] #[]]++c').size) undef,defers:=[] } w1 :=
   ⟨fun _ _=>rfl,KX.refl _ _,Below.refl _ _,hsim1,hf1,Dm _,⟨rfl,s.frel,hl⟩,by simp⟩
  have hY:b4d B G P none (some l) l (II n fr fn a.tmps ps asg body w.heap.size l) (YB G P W n plan ps asg body fr):=f6f hW hM hG hB hps' hda hdb hca hcb;have key:=b7j (r:=none) (x:=some l) (I:=II n fr fn a.tmps ps asg body w.heap.size l) hW hM hG II_ok hY (RN_ok (n:=it.ntmps) (n0:=H.next)) (m-1) c none _ H _ ρ w1 ρ _ w1 hdst.1 hdst.2 (hx l) s1;have fin:∀ {fr2:Fr} {p2:Option J} {H2:Mem} {ρ2:Rn} {a2:Act} {w3:World},StE B G it.ntmps H.next ρ w1 (some l) l (II n fr fn a.tmps ps asg body w.heap.size l) ρ2 fr2 [] p2 H2 a2 w3 ->
    (match De P noO (fun _ _ _=>.bad) it fr2 fr2.defers .returning H2 with|.bad=>False|r=>b4e (fun H'=>a8r Q fr H' p2) r)->a2.defers=[]/\∃ v,(results it a2.tmps).run P w3=.ok v w3 /\
     rangePost (FR none) m P l (a8q B G n n0 ρ0 w0 none l1 (Iv0 lo) Q) { a with defers:=[{ target:=.collected w.heap.size,args:=#[] }]++a.defers } (.returned v) w3:=by
   intro fr2 p2 H2 ρ2 a2 w3 s3 hres;have hfd:fr2.defers=[]:=by
    have:DR ρ2 fr2.defers (Act.bare a2).defers:=s3.frel.dfr
    cases hd:fr2.defers with
    | nil=>rfl
    | cons d ds=>rw[hd] at this;obtain⟨fn,cp,ar⟩:=d;obtain⟨_,_,_,he,_⟩:=this;cases he
   obtain⟨v,hv,hj⟩:=d4w hfd hres;have hj' : a8r Q fr H2 p2:=hj;obtain⟨hd3,hfr3,hl3⟩:=s3.inv;obtain⟨u,hu1,hu2⟩:=a9x s3.st hG hv;refine⟨hd3,u,hu1,_,_,run_endLoop hl3 (by cases p2<;>simp[a0y,a6d]),?_⟩;have hkd:KD w (w3.putObj l (.loop { a0y fn a.tmps ps asg body w.heap.size (a6d p2) (p2.map jcode) with state:=.exhausted })):=by
    refine⟨fun k o hk ho=>?_,Dw hdrw s3.keeps.2⟩;have hlt:=(g3x.1 hk).1;rw[World.putObj_heap_other (by omega)];exact s3.keeps.1 k o (by rw[hold k hlt];exact hk) ho (by intro e;cases e;omega)
   have hsame:∀ a,a<H.next->ρ2 a=ρ a:=s3.same;have s4:StE B G n n0 ρ0 w0 none l1 (Iv0 lo) ρ2 fr [] none H2 { a with defers:=[{ target:=.collected w.heap.size,args:=#[] }]++a.defers } (w3.putObj l (.loop { a0y fn a.tmps ps asg body w.heap.size (a6d p2) (p2.map jcode) with state:=.exhausted })):=by
    refine⟨fun b hb=>(hsame b (Eh hb s.le)).trans (s.same b hb),s.keeps.trans hkd.kx,((s.below.trans hbw).trans s3.below).trans (b2k hB),b2l s3.sim hl3 rfl,s.frel.mono (c0v s.sim hsame),Dw s.le s3.le,?_,by simp⟩;obtain⟨i1,i2,i3⟩:=s.inv;have hz3:=s3.below.size;refine⟨i1,by simp;omega,w.heap.size,rfl,i2,?_,i3.lt,i3.keep fun D hD=>hkd.1 D _ hD rfl⟩;rw[World.putObj_heap_other (by omega)];exact s3.keeps.1 _ _ hD rfl (by intro e;cases e;omega)
   cases p2 with
   | none=>exact⟨none,_,hj',rfl,ρ2,s4⟩
   | some j =>
    cases j with
    | none=>exact wpIn_ret ⟨none,_,hj',rfl,ρ2,s4⟩
    | some id=>exact wpIn_exit ⟨none,_,hj',rfl,ρ2,s4⟩
  refine callsIn_of_wp hit hbd trivial (Code.wpIn_mono ?_ key);rintro e a2 w3 ⟨p2,out,hq,ho⟩
  cases out with
  | norm fr2 H2=>obtain⟨rfl,ρ2,s3⟩:=ho;exact fin s3 hq
  | ret fr2 H2=>obtain⟨rfl,ρ2,s3⟩:=ho;exact fin s3 hq
  | exit id fr2 H2=>exact hq.elim
  | panic v fr2 H2=>exact hq.elim
  | bad=>exact hq.elim
noncomputable def c0x (P:Program) (fn:Func) (K:Ar->Prop) : QR:=fun _ out=>match out with
 | .norm fr H=>a4l P noO fn K (.norm fr H)
 | .ret fr H=>a4l P noO fn K (.ret fr H)
 | _=>False
noncomputable def fnX (G:Nat) (P:Program) (W:WF) (n:Nat) (plan:List (Nat×List It)) (c:Code) (fr:Fr) (H:Mem) (Q:QR) : Prop:=Cg P W YN (RG G P W n plan) (LXR G P n 0 YN (RG G P W n plan)) 0 [] plan c none fr H Q
theorem WC.enterR {f:FuncId} {fn:Func} {c:Code} {args:List AV} {K:Ar->Prop} {O:CallF} (hO:∀ B,Az B G P O) (hG:G=P.globals.size) (plan:List (Nat×List It)) (hf:P.funcs[f]?=some fn) (hb:fn.body=some c)
  (hd:(Au fn.ntmps c && a0o P plan c)=true) (hl:args.length<=fn.ntmps) (h:fnX G P (orW O (WC G P)) fn.ntmps plan c (a4w args) H (c0x P fn K)) : WC G P f args H K:=by
 rw[Dq] at hd;intro B ρ us w hs hv;have hW:=b9u (G:=G) (P:=P) hO;have hM:=c0j (O:=O) (c0i G P);have s1:StE B G fn.ntmps H.next ρ w none 0 (Iv0 w.heap.size) ρ (a4w args) [] none H { tmps:=us++Array.replicate (fn.ntmps-us.size) undef,defers:=[] } w :=
  ⟨fun _ _=>rfl,KX.refl _ _,Below.refl _ _,hs,b9x hv hl,Dm _,⟨rfl,Dm _,trivial⟩,by simp⟩
 have key:=b7j (r:=none) (x:=none) (I:=Iv0 w.heap.size) hW hM hG IO_ok (YN_ok (r:=none)) (f6g (plan:=plan) (n:=fn.ntmps) (n0:=H.next) hW hM hG) 0 c none _ H _ ρ w ρ _ w hd.1 hd.2 h s1;refine d4f (r:=none) (m:=0) (callsIn_of_wp_marks hf hb trivial (Code.wpIn_mono ?_ key));rintro e a' w' ⟨p2,out,hq,ho⟩;have fin:∀ {fr2:Fr} {p2:Option J} {H2:Mem} {ρ2:Rn},StE B G fn.ntmps H.next ρ w none 0 (Iv0 w.heap.size) ρ2 fr2 [] p2 H2 a' w' ->
   (match De P noO (fun _ _ _=>.bad) fn fr2 fr2.defers .returning H2 with|.bad=>False|r=>K r)->LeavesInM (FR none) 0 P fn a'.tmps (fun e w'=>∃ r,K r/\a6r B G H.next ρ w r e w') a'.defers .returning w':=by
  intro fr2 p2 H2 ρ2 s2 hn;have hfd:fr2.defers=[]:=by
   have:DR ρ2 fr2.defers (Act.bare a').defers:=s2.frel.dfr
   cases hd:fr2.defers with
   | nil=>rfl
   | cons d ds=>rw[hd] at this;obtain⟨fn,cp,ar⟩:=d;obtain⟨_,_,_,he,_⟩:=this;cases he
  obtain⟨v,hv2,hk⟩:=d4w hfd hn;obtain⟨_,_,i3⟩:=s2.inv;refine c6e (wb:=w) (lo:=w.heap.size) (ρ:=ρ2) (H:=H2) hs.base (Dm _) (fun w4 g1 g2 g3=>?_) a'.defers w' i3 s2.sim s2.keeps.kd s2.below;obtain⟨u,hu1,hu2⟩:=a9x (⟨Ext.refl _ _ _ _,g1,s2.frel,Dm _⟩ : St B G fn.ntmps H2.next ρ2 w4 ρ2 fr2 H2 (Act.bare a') w4) hG hv2;exact⟨u,hu1,_,hk,ρ2,⟨s2.same,g2,g3⟩,g1,hu2,s2.le⟩
 cases out with
 | norm fr2 H2=>obtain⟨rfl,ρ2,s2⟩:=ho;exact fin s2 hq
 | ret fr2 H2=>obtain⟨rfl,ρ2,s2⟩:=ho;exact fin s2 hq
 | exit id fr2 H2=>exact hq.elim
 | panic v fr2 H2=>exact hq.elim
 | bad=>exact hq.elim
end Go.Ai
end
section
namespace Go.Ai
variable {P:Program} {W:WF} {Y:YW} {R:RWF} {L:LFR} {Q:QR} {fr:Fr} {p:Option J} {H:Mem} {plan:List (Nat×List It)} {yr:List Nat} {l G n:Nat} {ops:Array Oper} {g:Nat→Option AV} {ds:List Dfr}
theorem f6h {tk:Nat} (_h0:tick=tk) {c:Code} {fr fr' : Fr} {H H' : Mem} (h1:fr=fr') (h2:H=H') : Cg P W Y R L l yr plan c p fr H Q=Cg P W Y R L l yr plan c p fr' H' Q:=by rw[h1,h2]
theorem f6i {tk:Nat} (_h0:tick=tk) {li:List Oper} {fr fr' : Fr} {H H' : Mem} (h1:fr=fr') (h2:H=H') : a5i P W Y l ops Q li p fr H=a5i P W Y l ops Q li p fr' H':=by rw[h1,h2]
theorem f6j {tk:Nat} (_h0:tick=tk) {o:Oper} {k:Option J->Fr->Mem->Prop} {fr fr' : Fr} {H H' : Mem} (h1:fr=fr') (h2:H=H') : b0q P W Y l ops o p fr H k=b0q P W Y l ops o p fr' H' k:=by rw[h1,h2]
theorem f6k {tk:Nat} (_h0:tick=tk) {o:Oper} {asx:Array Operand} {k:Option J->Fr->Mem->Prop} {fr fr' : Fr} {H H' : Mem} {y y' : Option Nat} (h1:fr=fr') (h2:H=H') (h3:y=y') : b2m P W Y l ops o asx p fr H k y=b2m P W Y l ops o asx p fr' H' k y':=by rw[h1,h2,h3]
theorem f6l {tk:Nat} (_h0:tick=tk) {o:Oper} {k:Fr->Mem->Prop} {fr fr' : Fr} {H H' : Mem} (h1:fr=fr') (h2:H=H') : b0p P W ops o fr H k=b0p P W ops o fr' H' k:=by rw[h1,h2]
theorem f6m {tk:Nat} (_h0:tick=tk) {o:Oper} {k:Fr->Mem->Prop} {fr fr' : Fr} {r r' : Go.Ai.R} (h1:fr=fr') (h2:r=r') : b0o W o fr k r=b0o W o fr' k r':=by rw[h1,h2]
theorem f6n {tk:Nat} (_h0:tick=tk) {α:Type} {x x' : Option α} {K:α->Prop} (h:x=x') : onL x K=onL x' K:=by rw[h]
theorem f6o {tk:Nat} (_h0:tick=tk) {Q:Out->Prop} {o o' : Out} (h:o=o') : a5j Q o=a5j Q o':=by rw[h]
theorem f6p {tk:Nat} (_h0:tick=tk) {b:Code} {fr fr' : Fr} {H H' : Mem} (h1:fr=fr') (h2:H=H') : LXR G P n l Y R b p fr H Q=LXR G P n l Y R b p fr' H' Q:=by rw[h1,h2]
theorem f6q {tk:Nat} (_h0:tick=tk) {o:Operand} {ps:Array Tmp} {a b:Code} {fr fr' : Fr} {H H' : Mem} (h1:fr=fr') (h2:H=H') : RG G P W n plan o ps a b fr H Q=RG G P W n plan o ps a b fr' H' Q:=by rw[h1,h2]
theorem f6r {tk:Nat} (_h0:tick=tk) {fn:Func} {K:Ar->Prop} {o o' : Out} (h:o=o') : c0x P fn K p o=c0x P fn K p o':=by rw[h]
theorem f6s {tk:Nat} (_h0:tick=tk) {fn:Func} {K:Option J->Mem->Prop} {o o' : Out} (h:o=o') : itQ P fn K p o=itQ P fn K p o':=by rw[h]
attribute [congr] f6h f6i f6j f6k f6l f6m f6n f6o f6p f6q f6r f6s
theorem execR_skip:Cg P W Y R L l yr plan .skip p fr H Q=Q p (.norm fr H):=(rfl)
theorem f6t {id:Nat} {li:List Oper} : Cg P W Y R L l yr plan (.region id li.toArray false) p fr H Q=if id∈yr then a5i P W Y l li.toArray Q li p fr H else a3i P W li.toArray (a5j (Q p)) li fr H:=(rfl)
theorem f6u {id:Nat} : Cg P W Y R L l yr plan (.region id ops true) p fr H Q=a8f P W ops (a5j (Q p)) (planAt plan id) fr H:=(rfl)
theorem f6v {a b:Code} : Cg P W Y R L l yr plan (.seq a b) p fr H Q=Cg P W Y R L l yr plan a p fr H fun p=>a3t (fun fr H=>Cg P W Y R L l yr plan b p fr H Q) (Q p):=(rfl)
theorem f6w {x:Operand} {a b:Code} : Cg P W Y R L l yr plan (.cond x a b) p fr H Q=a3u (fr.ev x) (Cg P W Y R L l yr plan a p fr H Q) (Cg P W Y R L l yr plan b p fr H Q):=(rfl)
theorem f6x {id:Nat} {b:Code} : Cg P W Y R L l yr plan (.block id b) p fr H Q=Cg P W Y R L l yr plan b p fr H fun p=>a6u id (Q p):=(rfl)
theorem f6y {b:Code} : Cg P W Y R L l yr plan (.loop b) p fr H Q=L b p fr H Q:=(rfl)
theorem f6z {o:Operand} {ps:Array Tmp} {a b:Code} : Cg P W Y R L l yr plan (.rangeFunc o ps a b) none fr H Q=R o ps a b fr H Q:=by simp[Cg]
theorem f7a {id:Nat} : Cg P W Y R L l yr plan (.exit id) p fr H Q=Q p (.exit id fr H):=(rfl)
theorem execR_ret:Cg P W Y R L l yr plan .ret p fr H Q=Q p (.ret fr H):=(rfl)
attribute [simp] execR_skip f6t f6u f6v f6w f6x f6y f6z f7a execR_ret
theorem f7b {Q:Out->Prop} : a5j Q (.norm (.f g []) H)=Q (.norm (.f g []) H):=by simp[a5j,d1z]
theorem seqR_nil:a5i P W Y l ops Q [] p fr H=Q p (.norm fr H):=(rfl)
theorem f7c {d:Option Tmp} {op:Op} {t:TypeId} {s:String} {af:Array Edge} {gd:Option (Nat×Bool)} {li:List Oper} :
  a5i P W Y l ops Q (⟨d,op,t,s,af,gd⟩ :: li) p fr H=b0q P W Y l ops ⟨d,op,t,s,af,gd⟩ p fr H (a5i P W Y l ops Q li):=(rfl)
section
variable {d:Option Tmp} {op:Op} {t:TypeId} {s:String} {af:Array Edge} {gd:Option (Nat×Bool)} {k:Option J→Fr→Mem→Prop} {j:Fr→Mem→Prop}
variable {v:AV} {c:Code} {o:Oper} {K:Bool→Option J→Mem→Prop}
def onT (x:Option (Tmp×Array Operand)) (a:Tmp->Array Operand->Prop) (b:Prop) : Prop:=match x with|some (t,asx)=>a t asx|none=>b
theorem f7d {t:Tmp} {asx:Array Operand} {a:Tmp->Array Operand->Prop} {b:Prop} : onT (some (t,asx)) a b=a t asx:=(rfl)
theorem f7e {a:Tmp->Array Operand->Prop} {b:Prop} : onT none a b=b:=(rfl)
theorem f7f : b0q P W Y l ops o p fr H k=onT (b7i o) (fun x asx=>b2m P W Y l ops o asx p fr H k (b7h (fr.get x))) (b0p P W ops o fr H (k p)):=by
 unfold b0q onT;cases b7i o<;>rfl
theorem f7g {asx:Array Operand} : b2m P W Y l ops ⟨d,op,t,s,af,none⟩ asx none fr H k (some l)=onL (Bq fr.ev asx.toList) fun vs=>Y vs H fun b p' H'=>k p' (fr.put d (.lit (.bool b))) H':=by simp[b2m]
theorem f7h {α:Type} {x:α} {K:α->Prop} : onL (some x) K=K x:=(rfl)
theorem f7i {l:Nat} : b7h (some (.lit (.func (.yield l) #[] #[])))=some l:=by simp[b7h]
theorem oneR_none:b0p P W ops ⟨d,op,t,s,af,none⟩ fr H j=b0o W ⟨d,op,t,s,af,none⟩ fr j (opV P H fr.ev ⟨d,op,t,s,af,none⟩):=(rfl)
theorem f7j : b0o W o fr j (.val v H)=a7z o.dst j fr v (b3q v) H:=(rfl)
theorem f7k {f:FuncId} {args:List AV} : b0o W o fr j (.enter f args H)=W f args H (fun r=>match r with
  | .ret v H=>a7z o.dst j fr v (b3q v) H
  | _=>False):=(rfl)
end
attribute [simp] f7b seqR_nil f7c f7f f7d f7e f7g f7h f7i oneR_none f7j f7k b7i
theorem f7l {K:Bool->Option J->Mem->Prop} : rdW K p (.norm fr H)=K true none H:=(rfl)
theorem f7m {K:Bool->Option J->Mem->Prop} : rdW K p (.ret fr H)=K false (some none) H:=(rfl)
theorem f7n {k:Fr->Mem->Prop} : rd0 k p (.norm fr H)=k fr H:=(rfl)
theorem f7o {fn:Func} {K:Option J->Mem->Prop} : itQ P fn K p (.norm fr H)=a4l P noO fn (b4e (K p)) (.norm fr H):=(rfl)
theorem f7p {fn:Func} {K:Option J->Mem->Prop} : itQ P fn K p (.ret fr H)=a4l P noO fn (b4e (K p)) (.ret fr H):=(rfl)
theorem f7q {k:Mem->Prop} {v:AV} : b4e k (.ret v H)=k H:=(rfl)
theorem f7r {fn:Func} {K:Ar->Prop} : c0x P fn K p (.ret fr H)=a4l P noO fn K (.ret fr H):=(rfl)
theorem jumpW_none:a8r Q fr H none=Q none (.norm fr H):=(rfl)
theorem jumpW_ret:a8r Q fr H (some none)=Q none (.ret fr H):=(rfl)
theorem putPs_nil:putPs [] [] fr=fr:=by cases fr<;>rfl
theorem f7s {t:Tmp} {ts:List Tmp} {v:AV} {vs:List AV} : putPs (t :: ts) (v :: vs) fr=putPs ts vs (fr.upd t v):=(rfl)
theorem f7t {t:Tmp} {v:AV} : (Fr.f g ds).upd t v=.f (a2u g t v) ds:=(rfl)
theorem f7u {c:Code} : rdX G P W n plan c fr H Q=Cg P W YN RN (LXR G P n 0 YN RN) 0 [] plan c none fr H Q:=(rfl)
theorem f7v {c:Code} : itX G P W Y n l yr plan c fr H Q=Cg P W Y RN (LXR G P n l Y RN) l yr plan c none fr H Q:=(rfl)
theorem f7w {c:Code} : fnX G P W n plan c fr H Q=Cg P W YN (RG G P W n plan) (LXR G P n 0 YN (RG G P W n plan)) 0 [] plan c none fr H Q:=(rfl)
attribute [simp] f7l f7m f7n f7o f7p f7q f7r jumpW_none jumpW_ret putPs_nil f7s f7t f7u f7v f7w
theorem RG.enter {o:Operand} {ps:Array Tmp} {asg body:Code} (f:FuncId) (cap:List AV) (it:Func) (c:Code) (yr:List Nat) (planI:List (Nat×List It))
  (h0:(ps.toList.all (fun t=>Nat.blt t n) && (Au n asg && Au n body && (a0o P plan asg && a0o P plan body)))=true) (hev:fr.ev o=some (.func (.func f) [] cap)) (hf:P.funcs[f]?=some it) (hb:it.body=some c)
  (hh:Aq P f=true) (hd:(Au it.ntmps c && a0o P planI c)=true) (hl:cap.length+1<=it.ntmps)
  (h:∀ l,itX G P W (YB G P W n plan ps asg body fr) it.ntmps l yr planI c (a4w (.lit (.func (.yield l) #[] #[]) :: cap)) H (itQ P it (fun p H'=>a8r Q fr H' p))) : RG G P W n plan o ps asg body fr H Q :=
 ⟨h0,f,cap,it,c,yr,planI,hev,hf,hb,hh,hd,hl,h⟩
theorem YB.enter {ps:Array Tmp} {asg body:Code} {vs:List AV} {K:Bool->Option J->Mem->Prop} (hl:vs.length=ps.size)
  (h:rdX G P W n plan asg (putPs ps.toList vs fr) H (rd0 fun fr1 H1=>rdX G P W n plan body fr1 H1 (rdW K))) : YB G P W n plan ps asg body fr vs H K:=⟨hl,h⟩
theorem LWR.mono {r:Option Nat} {c:Code} {Q Q' : Exit->Act->World->Prop} {a:Act} {w:World} (h:LWR r P c Q a w) (hq:∀ e a w,Q e a w->Q' e a w) : LWR r P c Q' a w:=fun b k cs hr =>
 let ⟨e,a',w',q,s⟩:=h b k cs hr;⟨e,a',w',hq _ _ _ q,s⟩
theorem LXR.mono {b:Code} {Q': QR} (h:LXR G P n l Y R b p fr H Q) (hq:∀ p o,Q p o->Q' p o) : LXR G P n l Y R b p fr H Q' :=
 fun B n0 r x I hI hY hR ρ0 w0 ρ a w s=>(h B n0 r x I hI hY hR ρ0 w0 ρ a w s).mono fun _ _ _ ⟨p,o,h1,h2⟩=>⟨p,o,hq _ _ h1,h2⟩
end Go.Ai
end
section
namespace Go.Ai
open Go.Proofs Go.Shelf Go.Sort
open Go.RowKit (Below)
set_option maxRecDepth 10000
def froz (R:Nat) (g:Gb) : Gb:=fun a=>if a=R then none else match g a with
 | some (.cells l _ z)=>some (.cells l false z)
 | _=>none
theorem c6i {R a:Nat} {g:Gb} {x:Blk} (h:froz R g a=some x) : a≠R/\∃ l own z,g a=some (.cells l own z)/\x=.cells l false z:=by
 grind[froz]
theorem d4x {R a:Nat} {g:Gb} {l:List AV} {own:Bool} {z:Nat} (hne:a≠R) (h:g a=some (.cells l own z)) : froz R g a=some (.cells l false z):=by
 simp_all[froz]
theorem f7x {W w': World} (hB:Below W.heap.size W w') (hd:W.drawn<=w'.drawn) : ∃ q os',w'=grow (W.drewN q) os':=by
 refine⟨w'.drawn-W.drawn,w'.heap.extract W.heap.size w'.heap.size,?_⟩;obtain⟨h1,h2,h3,h4,h5⟩:=hB
 cases w' with
 | mk heap tape drawn os output =>
  cases W with
  | mk heap' tape' drawn' os' output' =>
   have e1:os=os':=h1;have e2:tape=tape':=h2;have e3:output=output':=h3;have h4' : heap'.size<=heap.size:=h4;have h5' : ∀ k,k<heap'.size->heap[k]?=heap'[k]?:=h5;have e4:drawn=drawn'+(drawn-drawn'):=by grind
   have e5:heap=heap'++heap.extract heap'.size heap.size:=by
    grind
   subst e1 e2 e3;show World.mk heap tape drawn os output=World.mk (heap'++heap.extract heap'.size heap.size) tape (drawn'+(drawn-drawn')) os output;grind
end Go.Ai
end
section
namespace Go.Ai
open Go.Proofs Go.Shelf Go.Sort
open Go.RowKit (Below)
set_option maxRecDepth 10000
theorem f7y {B G:Nat} {ρ:Rn} {g:Gb} {n:Nat} {w W:World} (s:Sim B G ρ ⟨.fn g,n⟩ w) {R:Nat} {l:List AV} {z b o kk:Nat} (hg:g R=some (.cells l true z)) (hr:ρ R=some (b,o,kk)) (hW:∀ j,j<w.heap.size->j≠b->W.heap[j]?=w.heap[j]?) (hsz:w.heap.size<=W.heap.size) : Sim W.heap.size G ρ ⟨.fn (froz R g),n⟩ W:=by
 refine⟨fun a x hx=>?_,fun a a' x x' b1 o1 k1 o2 k2 h1 h2 hne hown=>?_,fun a ha=>s.fresh a ha,fun a x ha hx=>?_,s.names,Dm _⟩
 ·obtain⟨hne,l1,own,z1,h1,rfl⟩:=c6i hx;rcases s.blk a _ h1 with h|⟨b1,o1,k1,h2,h3⟩
  ·grind
  ·refine .inr ⟨b1,o1,k1,h2,?_⟩;have hb:b1≠b:=by
    rintro rfl;exact s.inj R a _ _ b1 o kk o1 k1 hg h1 (Ne.symm hne) rfl hr h2
   have hlt:=h3.lt;obtain⟨c,e,fz,e1,e2,_⟩:=h3;exact⟨c,e,fz,(hW _ hlt hb).trans e1,e2,fun h=>by cases h⟩
 ·obtain⟨_,l1,own,z1,_,rfl⟩:=c6i h1;cases hown
 ·obtain⟨_,l1,own,z1,h1,_⟩:=c6i hx;exact s.glob a _ ha h1
theorem allOne_mem:∀ {l:List AV} {x:AV},allOne l=true->x∈l->oneC x=true
 | y :: l,x,h,hx=>by
  have h' : (match oneC y with|true=>allOne l|false=>false)=true:=h
  cases hy:oneC y with
  | false=>grind
  | true =>
   rw[hy] at h';rcases Dv.1 hx with rfl|hx
   ·exact hy
   ·exact allOne_mem h' hx
end Go.Ai
end
section
namespace Go.Ai
open Go.Proofs Go.Shelf Go.Sort
open Go.RowKit (Below)
set_option maxRecDepth 10000
theorem c0y {α:Type} [Inhabited α] {enc:α->Value} {w:World} {b off m j:Nat} {dk:Array α} {os:Array Obj} (hj:j<w.heap.size) (hne:j≠b) : (sortWorld enc w b off m dk os).heap[j]?=w.heap[j]?:=by
 show ((w.heap.modify b _)++os)[j]?=_;rw[Array.getElem?_append,if_pos (by simpa using hj),Array.getElem?_modify,if_neg (Ne.symm hne)]
theorem f7z {α:Type} [Inhabited α] {enc:α->Value} {w:World} {b off m:Nat} {dk:Array α} {os:Array Obj} {c:Array Value} {e:TypeId} {fz:Nat×Nat} (hb:w.heap[b]?=some (.cells c e fz)) : (sortWorld enc w b off m dk os).heap[b]?=some (.cells (putCells enc off dk c) e fz):=by
 have hlt:=(g3x.1 hb).1;show ((w.heap.modify b _)++os)[b]?=_;rw[Array.getElem?_append,if_pos (by simpa using hlt),Array.getElem?_modify,if_pos rfl,hb];rfl
theorem c6j {α:Type} [Inhabited α] {enc:α->Value} {w:World} {b off m:Nat} {dk:Array α} {os:Array Obj} : (sortWorld enc w b off m dk os).heap.size=w.heap.size+os.size:=by
 show ((w.heap.modify b _)++os).size=_;simp
theorem WC.sort1 {G:Nat} {P:Program} {R:Ren} (L:SlLaysF.n6 P R) (c:FuncId) (ec:∀ args w,(callFunc c args).run P w=.ok (.enter c args) w)
  {its:List AV} (h1:allOne its=true) (cf:Nat->Nat->Int) (hO:SWO (ltOf cf)) {g:Gb} {n Bn z:Nat} (hg:g Bn=some (.cells its true z)) {sv:AV} (hsv:(∃ cp,sv=.sl Bn 0 its.length cp)\/∃ d,sv=.slq Bn 0 its.length d) (hpos:0<its.length) (hlen:its.length<1000000)
  (hcmp:∀ (i j:Nat) (hi:i<its.length) (hj:j<its.length),WC G P c [its[i],its[j]] ⟨.fn (froz Bn g),n⟩ fun r=>∃ g' n',r=.ret (.li (cf i j)) ⟨.fn g',n'⟩) :
  WC G P (R.f 6) [sv,.lit (.func (.func c) #[] #[])] ⟨.fn g,n⟩ fun r=>∃ is:List Nat,is.Perm (List.range its.length)/\(∀ (i j:Nat) (_:i<j) (hj:j<is.length),¬ cf is[j] (is[i]'(by omega))<0)/\r=.ret (.tup []) ⟨.fn (Ap g Bn (some (.cells (is.map fun i=>its.getD i (.lit undef)) true z))),n⟩:=by
 intro B ρ us w s v;obtain⟨u1,us1,e1,hv1,u2,us2,e2,hv2,e3⟩:=v;subst e3 e2;have hus:us=#[u1,u2]:=Array.toList_inj.1 (by simpa using e1);subst hus;have hv2:u2=.func (.func c) #[] #[]:=hv2;subst hv2;obtain⟨b,o,kk,cap,hr,rfl⟩ : ∃ b o kk cap,ρ Bn=some (b,o,kk)/\u1=.slice (some ⟨b,o,none⟩) its.length cap:=by
  rcases hsv with⟨cp,rfl⟩|⟨d,rfl⟩
  ·obtain⟨b,o,kk,hr,_,e⟩:=hv1;exact⟨b,o,kk,_,hr,e⟩
  ·obtain⟨b,o,kk,hr,_,e⟩:=hv1;exact⟨b,o,kk,_,hr,e⟩
 have hBR:=s.at (H:=⟨.fn g,n⟩) hg hr;obtain⟨c0,e,fz,hb,hc,hown⟩:=hBR;obtain⟨hBb,hfr,hsz0,hz0⟩:=hown rfl;have hlt:=(g3x.1 hb).1;have hcell:∀ (i:Nat) (hi:i<its.length),∃ u,c0[o+i]?=some u/\u.oneCell=true/\VR ρ its[i] u:=by
  intro i hi;obtain⟨u,q1,q2⟩:=hc i _ (Dy hi);exact⟨u,q1,c9d q2 (allOne_mem h1 (Ds _)),q2⟩
 obtain⟨m,hm⟩ : ∃ m,its.length=m:=⟨_,rfl⟩;rw[hm] at hpos hlen |-;clear hv1 e1
 haveI:Inhabited (Fin m):=⟨⟨0,hpos⟩⟩
 let enc:Fin m->Value:=fun i=>c0[o+i.val]!
 have hget:∀ {j:Nat} {u:Value},c0[j]?=some u->(c0[j]!)=u:=fun {j u} h=>by
  obtain⟨hl,e⟩:=g3x.1 h;rw[getElem!_pos c0 j hl,e]
 let d:Array (Fin m):=Array.ofFn fun i=>i
 have hds:d.size=m:=by simp[d]
 have hdi:∀ i (hi:i<m),(d[i]!)=⟨i,hi⟩:=fun i hi=>by simp[d,hi]
 have hone1:OneCell enc:=by
  intro x;obtain⟨u,q1,q2,_⟩:=hcell x.val (by rw[hm];exact x.isLt);show (c0[o+x.val]!).oneCell'=true;rw[hget q1,c9f];exact q2
 have hH:Holds enc w b o d:=by
  intro j hj;rw[hds] at hj;obtain⟨u,q1,_,_⟩:=hcell j (by rw[hm];exact hj);rw[hdi _ hj];show w.cell? _=some (c0[o+j]!)/\_;rw[hget q1];exact⟨b8w hb q1,c9g hb (hfr _ (g3x.1 q1).1)⟩
 let cfF:Fin m->Fin m->Int:=fun x y=>cf x.val y.val
 have hOF:SWO (ltOf cfF):=⟨fun x=>hO.irrefl x.val,fun x y z=>hO.trans x.val y.val z.val,fun x y z=>hO.ntrans x.val y.val z.val⟩;have hvr:∀ x:Fin m,VR ρ (its[x.val]'(by rw[hm];exact x.isLt)) (enc x):=by
  intro x;obtain⟨u,q1,_,q3⟩:=hcell x.val (by rw[hm];exact x.isLt);show VR ρ _ (c0[o+x.val]!);rw[hget q1];exact q3
 have hC:CmpLays1 P c #[] enc cfF b o d.size w:=by
  intro m2 os dk hdk x y;have hsW:=f7y s hg hr (W:=sortWorld enc w b o m2 dk os) (fun j hj hne=>c0y hj hne) (by rw[c6j];exact g5f _ _);have hcall:=hcmp x.val y.val (by rw[hm];exact x.isLt) (by rw[hm];exact y.isLt) _ ρ #[enc x,enc y] _ hsW ⟨_,_,rfl,hvr x,_,_,rfl,hvr y,rfl⟩;refine Calls.mono (by simpa using hcall) ?_;rintro e w' ⟨r,⟨g',n',rfl⟩,hcp⟩
  cases e with
  | returned u =>
   obtain⟨ρ',q1,q2,q3,q4⟩:=hcp;refine⟨?_,f7x q1.below q1.keeps.2⟩;have:u=_:=q3;rw[this]
  | _=>exact hcp.elim
 have hmain:=Any.slices_SortFunc L enc hone1 cfF hOF c #[] b o cap d w ec hC hH hlt (by rw[hds];omega);rw[hds] at hmain;refine hmain.mono ?_;rintro e' w' ⟨rfl,d',n2,os,hp,hsrt,rfl⟩;have hds' : d'.size=m:=by rw[hp.1,hds]
 have hperm:d'.toList.Perm d.toList:=by
  have:=hp.2.2
  rwa [show d'.extract 0 m=d' from (congrArg (fun z=>d'.extract 0 z) hds'.symm).trans Array.extract_size,show d.extract 0 m=d from (congrArg (fun z=>d.extract 0 z) hds.symm).trans Array.extract_size] at this
 have hdl:d.toList.map Fin.val=List.range m:=by
  apply List.ext_getElem
  ·simp[d]
  ·intro i h2 h3;simp[d]
 have hil:(d'.toList.map Fin.val).length=m:=by simp[hds']
 have hisq:∀ q (hq:q<m),(d'.toList.map Fin.val)[q]'(by rw[hil];exact hq)=(d'[q]!).val:=by
  intro q hq;simp[hds',hq]
 refine⟨_,⟨d'.toList.map Fin.val,hdl ▸ hperm.map _,fun i j hij hj=>?_,rfl⟩,?_⟩
 ·rw[hil] at hj;rw[hisq j hj,hisq i (by omega)];have:=hsrt i j (Dt _) hij hj;unfold ltOf at this;simpa[cfF] using this
 ·have hkd:KD w (sortWorld enc w b o n2 d' os):=⟨fun j ob hj ho=>by
   have hjl:=(g3x.1 hj).1;by_cases hjb:j=b
   ·subst hjb;rw[hb] at hj;cases hj;cases ho
   ·rw[c0y hjl hjb];exact hj,g5f _ _⟩
  have hbel:Below B w (sortWorld enc w b o n2 d' os):=⟨rfl,rfl,rfl,by rw[c6j];exact g5f _ _,fun j hj=>c0y (Eh hj s.base) (by omega)⟩;refine⟨ρ,⟨fun _ _=>rfl,hkd,hbel⟩,?_,⟨_,rfl,rfl⟩,Dm _⟩;refine Sim.set (H:=⟨.fn g,n⟩) s (x:=.cells its true z) (y:=.cells ((d'.toList.map Fin.val).map fun i=>its.getD i (.lit undef)) true z) hg hr rfl rfl (by rw[c6j];exact g5f _ _) (fun j hne hj=>c0y hj hne) ?_;refine⟨_,e,fz,f7z hb,fun i v hv=>?_,fun _=>⟨hBb,fun j hj=>hfr j (by simpa[putCells] using hj),by simpa[putCells] using hsz0,?_⟩⟩
  ·have hi:i<m:=by
    have:=(Eb.1 hv).1;simpa[hds'] using this
   obtain⟨u0,p1,_,_⟩:=hcell i (by rw[hm];exact hi);obtain⟨u,q1,_,q3⟩:=hcell (d'[i]!).val (by rw[hm];exact(d'[i]!).isLt);refine⟨u,?_,?_⟩
   ·unfold putCells;rw[Array.getElem?_mapIdx,p1,g6s,if_pos ⟨by omega,by rw[hds'];omega⟩,Nat.add_sub_cancel_left];exact congrArg some (hget q1)
   ·have hv2:v=its.getD (d'[i]!).val (.lit undef):=by
     have h5:=(Eb.1 hv).2;rw[<- h5,g4v,hisq _ hi]
    have hgd:its.getD (d'[i]!).val (.lit undef)=its[(d'[i]!).val]'(by rw[hm];exact(d'[i]!).isLt):=by
     rw[g3s,Dy (by rw[hm];exact(d'[i]!).isLt)];rfl
    rw[hv2,hgd];exact q3
  ·rcases hz0 with h|h
   ·exact .inl h
   ·right;simpa[hds',hm] using h
end Go.Ai
end
section
namespace Go.Ai
open Go.RowKit (Below)
variable {B G:Nat} {P:Program} {ρ:Rn} {H:Mem} {w:World}
variable {O:CallF} {p:Nat→Bool} {n a:Nat}
structure Cut where
 f:Nat
 n:Nat
 args:List AV
 base:List (Nat×List AV)
 v:AV
 news:List (Nat×Blk)
 n1:Nat
mutual
def inV (p:Nat->Bool) : AV->Bool
 | .lit _=>true
 | .es=>true
 | .ptr a _=>p a
 | .sl a _ _ _=>p a
 | .slq a _ _ _=>p a
 | .map a=>p a
 | .func _ x y=>inL p x && inL p y
 | .iface _ v=>inV p v
 | .agg l=>inL p l
 | .tup l=>inL p l
def inL (p:Nat->Bool) : List AV->Bool
 | []=>true
 | v :: l=>inV p v && inL p l
end
def only (p:Nat->Bool) (ρ:Rn) : Rn:=fun a=>if p a=true then ρ a else none
theorem b0r {ρ:Rn} (h:p a=true) : only p ρ a=ρ a:=if_pos h
mutual
theorem b7k {p:Nat->Bool} {ρ:Rn} : ∀ {v:AV} {u:Value},inV p v=true->VR ρ v u->VR (only p ρ) v u
 | .lit _,_,_,r=>r
 | .es,_,_,r=>r
 | .ptr a _,_,hb,⟨b,o,k,e,r⟩=>⟨b,o,k,(b0r (by simpa[inV] using hb)).trans e,r⟩
 | .sl a _ _ _,_,hb,⟨b,o,k,e,r⟩=>⟨b,o,k,(b0r (by simpa[inV] using hb)).trans e,r⟩
 | .slq a _ _ _,_,hb,⟨b,o,k,e,r⟩=>⟨b,o,k,(b0r (by simpa[inV] using hb)).trans e,r⟩
 | .map a,_,hb,⟨b,o,k,e,r⟩=>⟨b,o,k,(b0r (by simpa[inV] using hb)).trans e,r⟩
 | .func _ _ _,_,hb,⟨f',c',e,r,q⟩=>by
  simp only[inV,Dq] at hb;exact⟨f',c',e,in_VRs hb.1 r,in_VRs hb.2 q⟩
 | .iface _ _,_,hb,⟨u',e,r⟩=>⟨u',e,b7k (by simpa[inV] using hb) r⟩
 | .agg _,_,hb,⟨cs,e,r⟩=>⟨cs,e,in_VRs (by simpa[inV] using hb) r⟩
 | .tup _,_,hb,⟨cs,e,r⟩=>⟨cs,e,in_VRs (by simpa[inV] using hb) r⟩
theorem in_VRs {p:Nat->Bool} {ρ:Rn} : ∀ {l:List AV} {us:List Value},inL p l=true->VRs ρ l us->VRs (only p ρ) l us
 | [],_,_,r=>r
 | _ :: _,_,hb,⟨u,us',e,r,q⟩=>by
  simp only[inL,Dq] at hb;exact⟨u,us',e,b7k hb.1 r,in_VRs hb.2 q⟩
end
theorem c6k : ∀ {l:List AV} {i:Nat} {v:AV},inL p l=true->l[i]?=some v->inV p v=true
 | [],i,v,_,h=>by grind
 | y :: l,0,v,hb,h=>by simp_all[inL]
 | y :: l,i+1,v,hb,h=>by simp only[inL,Dq] at hb;exact c6k hb.2 (by simpa using h)
noncomputable def baseT:List (Nat×List AV)->T4 Blk->T4 Blk
 | [],t=>t
 | (a,l) :: r,t=>b5b t a (.v a (.cells l false 0)) (baseT r)
noncomputable def b2n (c:Cut) : Mem:=⟨.tr (baseT c.base e4),c.n⟩
noncomputable def b7l (H:Mem) : List (Nat×List AV)->Bool
 | []=>true
 | (a,l) :: r=>match H.get a with
  | some (.cells l' _ _)=>match eqAVs l' l with|true=>b7l H r|false=>false
  | _=>false
noncomputable def b4f (n1:Nat) : List (Nat×Blk)->Mem->Mem
 | [],H=>⟨H.t,n1⟩
 | (a,b) :: r,H=>H.setK a b (b4f n1 r)
noncomputable def b0s (H:Mem) (n:Nat) (p:Nat->Bool) : List (Nat×Blk)->Bool
 | []=>true
 | (a,.cells l true z) :: r=>match H.get a with
  | some b=>eqBlk b (.cells l true z) && (Nat.ble n a && (inL p l && b0s H n p r))
  | none=>false
 | _=>false
def a1y (n:Nat) (l:List (Nat×Blk)) (a:Nat) : Bool:=match Nat.blt a n with|true=>true|false=>a3x a (l.map (·.1))
noncomputable def c0z (c:Cut) (r:Ar) : Bool:=match r with
 | .ret v H=>eqAV v c.v && (Nat.beq H.next c.n1 && (inV (a1y c.n c.news) c.v && b0s H c.n (a1y c.n c.news) c.news))
 | _=>false
noncomputable def a8s (c:Cut) (args:List AV) (H:Mem) : Ar:=match eqAVs args c.args,b7l H c.base with
 | true,true=>.ret c.v (b4f c.n1 c.news H)
 | _,_=>.bad
noncomputable def b7m (O:CallF) (l:List Cut) : CallF :=
 List.rec (motive:=fun _=>CallF) O (fun c _ ih f a H=>match Nat.beq f c.f with
  | true=>match Nat.beq H.next c.n with
   | true=>a8s c a H
   | false=>ih f a H
  | false=>ih f a H) l
theorem baseT_get:∀ {l:List (Nat×List AV)} {t:T4 Blk} {a:Nat} {x:Blk},a2c (baseT l t) a=some x->(∃ cs,(a,cs)∈l/\x=.cells cs false 0)\/a2c t a=some x
 | [],t,a,x,h=>.inr h
 | (b,cs) :: r,t,a,x,h=>by
  unfold baseT at h;rw[b8u] at h;rcases baseT_get h with⟨cs',hm,hx⟩|h
  ·grind
  ·rcases c2v _ _ _ _ _ h with⟨rfl,rfl⟩|⟨_,h⟩
   all_goals grind
theorem covers_spec:∀ {l:List (Nat×List AV)},b7l H l=true->∀ a cs,(a,cs)∈l->∃ own z,H.get a=some (.cells cs own z)
 | (b,cs') :: r,h,a,cs,hm=>by
  unfold b7l at h;split at h
  ·rename_i l' own z hg;split at h
   ·rename_i he;have he':=eqAVs_sound _ _ he;subst he';rcases Dv.1 hm with e|hm
    ·cases e;exact⟨own,z,hg⟩
    ·exact covers_spec h a cs hm
   ·cases h
  ·cases h
theorem b4g {n1:Nat} : ∀ {l:List (Nat×Blk)} {H:Mem} {a:Nat} {x:Blk},(b4f n1 l H).get a=some x->(a,x)∈l\/(H.get a=some x/\∀ y,(a,y) ∉ l)
 | [],H,a,x,h=>.inr ⟨h,fun y hy=>by grind⟩
 | (b,y) :: r,H,a,x,h=>by
  unfold b4f at h;rw[Mem.setK_eq] at h;rcases b4g h with h|⟨h,hn⟩
  ·grind
  ·rcases Mem.get_upd h with⟨rfl,rfl⟩|⟨hne,h⟩
   all_goals grind
theorem c1a {n1:Nat} : ∀ {l:List (Nat×Blk)} {H:Mem},(b4f n1 l H).next=n1
 | [],H=>rfl
 | (b,y) :: r,H=>by unfold b4f;rw[Mem.setK_eq];exact c1a
theorem b7n : ∀ {l:List (Nat×Blk)},b0s H n p l=true->∀ a x,(a,x)∈l->H.get a=some x/\n<=a/\∃ cs z,x=.cells cs true z/\inL p cs=true
 | (b,y) :: r,h,a,x,hm=>by
  cases y with
  | cells cs own z =>
   cases own with
   | false=>grind[b0s]
   | true =>
    unfold b0s at h;split at h
    ·rename_i b' hg;simp only[Dq] at h;obtain⟨h1,h2,h3,h4⟩:=h;rcases Dv.1 hm with e|hm
     ·cases e;exact⟨hg.trans (congrArg some (c3k h1)),Dp h2,cs,z,rfl,h3⟩
     ·exact b7n h4 a x hm
    grind
  | map _ _=>grind[b0s]
  | siter _ _=>grind[b0s]
  | typ _ _ _=>grind[b0s]
theorem BR.only {cs:List AV} {own:Bool} {z b o k B': Nat} (h:BR B' ρ (.cells cs own z) b o k w) (hp:inL p cs=true) (hB:B<=B') : BR B (only p ρ) (.cells cs own z) b o k w:=by
 obtain⟨c,e,fz,h1,h2,h3⟩:=h;refine⟨c,e,fz,h1,fun i v hi=>?_,fun ho=>⟨Dw hB (h3 ho).1,(h3 ho).2⟩⟩;grind[c6k,b7k]
theorem f8a {O:CallF} {c:Cut} (hO:∀ B,Az B G P O) (hrun:c0z c (O c.f c.args (b2n c))=true) (args:List AV) (H:Mem) (hnx:H.next=c.n) (h:a8s c args H≠.bad) : WC G P c.f args H fun r=>r=a8s c args H:=by
 unfold a8s at h |-;split at h
 ·rename_i ha hcov;have ha':=eqAVs_sound _ _ ha;subst ha'
  cases hr:O c.f c.args (b2n c) with
  | ret v H1 =>
   rw[hr] at hrun;simp only[c0z,Bool.and_eq_true] at hrun;obtain⟨hv1,hn1,hin,hnews⟩:=hrun;have hv1:=eqAV_sound _ _ hv1;have hn1:=Nat.eq_of_beq_eq_true hn1;intro B ρ us w s hv;have s2:Sim w.heap.size G ρ (b2n c) w:=by
    have hm:∀ a x,(b2n c).get a=some x->∃ cs own z,x=.cells cs false 0/\H.get a=some (.cells cs own z):=by
     intro a x hx;rcases baseT_get (show a2c (baseT c.base e4) a=some x from hx) with⟨cs,hm,rfl⟩|hx
     ·obtain⟨own,z,hg⟩:=covers_spec hcov a cs hm;grind
     grind[b8v]
    refine⟨fun a x hx=>?_,fun a a' x x' b o k o' k' hx _ _ hown=>?_,fun a ha=>s.fresh a (by rw[hnx];exact ha),fun a x hlt hx=>?_,by show G<=c.n;rw[<- hnx];exact s.names,Nat.le_refl _⟩
    ·obtain⟨cs,own,z,rfl,hg⟩:=hm a x hx;rcases s.blk a _ hg with hn|⟨b,o,k,h1,c',e,fz,h2,h3,_⟩
     ·grind
     ·exact .inr ⟨b,o,k,h1,c',e,fz,h2,h3,fun h=>by cases h⟩
    ·obtain⟨cs,own,z,rfl,hg⟩:=hm a x hx;cases hown
    ·obtain⟨cs,own,z,rfl,hg⟩:=hm a x hx;exact s.glob a _ hlt hg
   refine(hO w.heap.size c.f c.args (b2n c) (by grind) ρ us w s2 hv).mono ?_;intro e w' hc;rw[hr] at hc;refine⟨_,rfl,?_⟩
   cases e with
   | returned u =>
    obtain⟨ρ',hext,hsim,hvr,hle⟩:=hc;have hle' : c.n<=H1.next:=hle;have hlow:∀ a,a<c.n->only (a1y c.n c.news) ρ' a=ρ a:=by
     intro a ha;rw[b0r (by grind[a1y,Nat.ble_eq_true_of_le,Nat.blt])];exact hext.same a ha
    have hnew:∀ a x,(a,x)∈c.news->only (a1y c.n c.news) ρ' a=ρ' a:=by
     intro a x hm;refine b0r ?_;unfold a1y;split
     ·rfl
     ·exact c0q (List.mem_map.2 ⟨_,hm,rfl⟩)
    have hpos:∀ a y,only (a1y c.n c.news) ρ' a=some y->a<c.n\/∃ x,(a,x)∈c.news:=by
     intro a y hy;unfold only at hy;split at hy
     ·rename_i hk;unfold a1y at hk;split at hk
      ·simp_all
      ·refine .inr ?_;have key:∀ (l:List (Nat×Blk)),a3x a (l.map (·.1))=true->∃ x,(a,x)∈l:=by
        intro l
        induction l with
        | nil=>intro h;cases h
        | cons q l ih =>
         grind[a3x,Nat.eq_of_beq_eq_true]
       grind
     grind
    have hvr' : VR ρ' c.v u:=by grind
    refine⟨only (a1y c.n c.news) ρ',⟨fun a ha=>hlow a (by grind),hext.keeps,hext.below.mono s.base⟩,?_,b7k hin hvr',by grind[c1a]⟩;have hbl:∀ a x,H.get a=some x->a<c.n->only (a1y c.n c.news) ρ' a=none\/∃ b o k,ρ a=some (b,o,k)/\only (a1y c.n c.news) ρ' a=some (b,o,k)/\b<w.heap.size/\BR B (only (a1y c.n c.news) ρ') x b o k w':=by
     intro a x hx hlt;rcases s.blk a x hx with hn|⟨b,o,k,h1,h2⟩
     ·grind
     ·refine .inr ⟨b,o,k,h1,(hlow a hlt).trans h1,h2.lt,h2.mono (fun a' y hy=>?_) (hext.below.block b h2.lt)⟩;rw[hlow a' (by rw[<- hnx];exact s.lt_next hy)];grind
    have hbn:∀ a x,(a,x)∈c.news->only (a1y c.n c.news) ρ' a=none\/∃ b o k,ρ' a=some (b,o,k)/\only (a1y c.n c.news) ρ' a=some (b,o,k)/\w.heap.size<=b/\BR B (only (a1y c.n c.news) ρ') x b o k w':=by
     intro a x hm;obtain⟨h1,h2,cs,z,rfl,h3⟩:=b7n hnews a x hm;rcases hsim.blk a _ h1 with hn|⟨b,o,k,h4,h5⟩
     ·grind
     ·exact .inr ⟨b,o,k,h4,(hnew a _ hm).trans h4,h5.above rfl,h5.only h3 s.base⟩
    refine⟨fun a x hx=>?_,fun a a' x x' b o k o' k' hx hx' hne hown hr1 hr2=>?_,fun a ha=>?_,fun a x hlt hx=>?_,by rw[c1a,<- hn1];exact Nat.le_trans s.names (by grind),Nat.le_trans s.base hext.below.size⟩
    ·rcases b4g hx with hm|⟨hx,hnot⟩
     ·grind
     ·rcases Nat.lt_or_ge a c.n with hlt|hge
      ·grind
      ·cases hy:only (a1y c.n c.news) ρ' a with
       | none=>grind
       | some y =>
        grind
    ·have old:∀ a x y,H.get a=some x->(∀ y,(a,y) ∉ c.news)->only (a1y c.n c.news) ρ' a=some y->ρ a=some y/\y.1<w.heap.size:=by
      grind
     have new:∀ a x y,(a,x)∈c.news->only (a1y c.n c.news) ρ' a=some y->ρ' a=some y/\w.heap.size<=y.1:=by
      grind
     rcases b4g hx with hm|⟨hx,hn⟩
     ·have h1:=new a x _ hm hr1;rcases b4g hx' with hm'|⟨hx',hn'⟩
      ·have h2:=new a' x' _ hm' hr2;exact hsim.inj a a' x x' b o k o' k' (b7n hnews a x hm).1 (b7n hnews a' x' hm').1 hne hown h1.1 h2.1
      grind
     ·have h1:=old a x _ hx hn hr1;rcases b4g hx' with hm'|⟨hx',hn'⟩
      ·grind
      ·have h2:=old a' x' _ hx' hn' hr2;exact s.inj a a' x x' b o k o' k' hx hx' hne hown h1.1 h2.1
    ·rw[c1a] at ha;unfold only;split
     ·exact hsim.fresh a (by grind)
     ·rfl
    ·rcases b4g hx with hm|⟨hx,hn⟩
     ·have h1:=(b7n hnews a x hm).2.1;have h2:=s.names;omega
     ·rw[hlow a (by have h2:=s.names;omega)];exact s.glob a x hlt hx
   | _=>assumption
  | panic v H1=>rw[hr] at hrun;cases hrun
  | bad=>rw[hr] at hrun;cases hrun
 grind
theorem d4y (hO:∀ B,Az B G P O) : ∀ {l:List Cut},(∀ c∈l,∀ args H,H.next=c.n->a8s c args H≠.bad->WC G P c.f args H fun r=>r=a8s c args H)->∀ B,Az B G P (b7m O l)
 | [],_,B=>hO B
 | c :: l,h,B=>by
  have ih:=d4y hO (l:=l) (fun c' hc'=>h c' (g4b _ hc'));intro f args H hne ρ us w s hv
  have he:b7m O (c :: l) f args H=match Nat.beq f c.f with
   | true=>match Nat.beq H.next c.n with
    | true=>a8s c args H
    | false=>b7m O l f args H
   | false=>b7m O l f args H:=rfl
  rw[he] at hne |-;split at hne
  ·rename_i hf;split at hne
   ·rename_i hn;have hf':=Dz hf;subst hf';refine(h c (g6p ..) args H (Dz hn) hne B ρ us w s hv).mono ?_;grind
   ·exact ih B f args H hne ρ us w s hv
  ·exact ih B f args H hne ρ us w s hv
structure a3z where
 f:Nat
 args:List AV
 base:List (Nat×List AV)
 v:AV
noncomputable def b2o (G n:Nat) (c:a3z) : Mem:=⟨.tr (baseT c.base e4),n⟩
def named (c:a3z) (a:Nat) : Bool:=a3x a (c.base.map (·.1))
def c1b (n:Nat) (p:Nat->Bool) : List (Nat×List AV)->Bool
 | []=>true
 | (a,l) :: r=>Nat.blt a n && (inL p l && c1b n p r)
noncomputable def c1c (G n:Nat) (c:a3z) (r:Ar) : Bool:=match r with
 | .ret v _=>eqAV v c.v && (plainV c.v && (inL (named c) c.args && (c1b n (named c) c.base && Nat.ble G n)))
 | _=>false
noncomputable def b0t (c:a3z) (args:List AV) (H:Mem) : Ar:=match eqAVs args c.args with
 | true=>match b7l H c.base with
  | true=>.ret c.v H
  | false=>.bad
 | false=>.bad
noncomputable def b7o (O:CallF) (l:List a3z) : CallF :=
 List.rec (motive:=fun _=>CallF) O (fun c _ ih f a H=>match Nat.beq f c.f with
  | true=>orR (b0t c a H) (ih f a H)
  | false=>ih f a H) l
theorem c6l : ∀ {l:List (Nat×List AV)},c1b n p l=true->∀ a cs,(a,cs)∈l->a<n/\inL p cs=true
 | (b,m) :: r,h,a,cs,hm=>by
  simp only[c1b,Dq] at h;rcases Dv.1 hm with e|hm
  ·simp_all
  ·exact c6l h.2.2 a cs hm
theorem d4z : ∀ {l:List Nat},a3x a l=true->a∈l
 | b :: l,h=>by
  unfold a3x at h;split at h
  ·rename_i hb;rw[Dz hb];exact g6p ..
  ·exact g4b _ (d4z h)
theorem f8b {c:a3z} (hO:∀ B,Az B G P O) (hrun:c1c G n c (O c.f c.args (b2o G n c))=true) (args:List AV) (H:Mem) (h:b0t c args H≠.bad) : WC G P c.f args H fun r=>r=b0t c args H:=by
 unfold b0t at h |-;split at h
 ·rename_i ha;split at h
  ·rename_i hcov;have ha':=eqAVs_sound _ _ ha;subst ha'
   cases hr:O c.f c.args (b2o G n c) with
   | ret v H1 =>
    rw[hr] at hrun;simp only[c1c,Dq] at hrun;obtain⟨hv1,hpl,hin,hbase,hG⟩:=hrun;have hv1:=eqAV_sound _ _ hv1;intro B ρ us w s hv;have hm:∀ a x,(b2o G n c).get a=some x->∃ cs own z,x=.cells cs false 0/\H.get a=some (.cells cs own z)/\a<n/\inL (named c) cs=true/\named c a=true:=by
     intro a x hx;rcases baseT_get (show a2c (baseT c.base e4) a=some x from hx) with⟨cs,hm,rfl⟩|hx
     ·obtain⟨own,z,hg⟩:=covers_spec hcov a cs hm;obtain⟨h1,h2⟩:=c6l hbase a cs hm;exact⟨cs,own,z,rfl,hg,h1,h2,c0q (Eg.2 ⟨_,hm,rfl⟩)⟩
     grind[b8v]
    have s2:Sim w.heap.size G (only (named c) ρ) (b2o G n c) w:=by
     refine⟨fun a x hx=>?_,fun a a' x x' b o k o' k' hx _ _ hown=>?_,fun a ha=>?_,fun a x hlt hx=>?_,Dp hG,Dm _⟩
     ·obtain⟨cs,own,z,rfl,hg,h1,h2,h3⟩:=hm a x hx;rw[b0r h3];rcases s.blk a _ hg with hn|⟨b,o,k,h4,c',e,fz,h5,h6,_⟩
      ·grind
      ·refine .inr ⟨b,o,k,h4,c',e,fz,h5,fun i v hi=>?_,fun h=>by cases h⟩;grind[c6k,b7k]
     ·obtain⟨cs,own,z,rfl,hg,_⟩:=hm a x hx;cases hown
     ·unfold only;split
      ·rename_i hk;obtain⟨q,hq,e⟩:=Eg.1 (d4z hk);have:=(c6l hbase q.1 q.2 hq).1;have ha' : n<=a:=ha;omega
      ·rfl
     ·obtain⟨cs,own,z,rfl,hg,h1,h2,h3⟩:=hm a x hx;rw[b0r h3];exact s.glob a _ hlt hg
    refine(hO w.heap.size c.f c.args (b2o G n c) (by grind) _ us w s2 (in_VRs hin hv)).mono ?_;intro e w' hc;rw[hr] at hc;refine⟨_,rfl,?_⟩
    cases e with
    | returned x =>
     obtain⟨ρ',h1,h2,h3,h4⟩:=hc;have hb:=h1.below;rw[hv1] at h3;refine⟨ρ,⟨fun _ _=>rfl,h1.keeps,hb.mono s.base⟩,?_,a6y hpl h3,Dm _⟩;refine s.other hb.size fun a x b o k ha hra=>?_;exact hb.block b (s.at ha hra).lt
    | panicked chain=>assumption
    | outgrown=>assumption
   | panic v H1=>rw[hr] at hrun;cases hrun
   | bad=>rw[hr] at hrun;cases hrun
  grind
 grind
/- Groups. -/
def a1i (G:Nat) (P:Program) (l:List Cut) : Prop:=∀ c∈l,∀ args H,H.next=c.n->a8s c args H≠.bad->WC G P c.f args H fun r=>r=a8s c args H
def a4a (G:Nat) (P:Program) (l:List a3z) : Prop:=∀ c∈l,∀ args H,b0t c args H≠.bad->WC G P c.f args H fun r=>r=b0t c args H
theorem a1i.nil:a1i G P []:=fun c hc=>by cases hc
theorem a4a.nil:a4a G P []:=fun c hc=>by cases hc
theorem a1i.append {l m:List Cut} (h:a1i G P l) (k:a1i G P m) : a1i G P (l++m):=fun c hc=>(Ed.1 hc).elim (h c) (k c)
theorem a4a.append {l m:List a3z} (h:a4a G P l) (k:a4a G P m) : a4a G P (l++m):=fun c hc=>(Ed.1 hc).elim (h c) (k c)
noncomputable def b2p (O:CallF) (l:List Cut) : Bool:=List.rec (motive:=fun _=>Bool) true (fun c _ ih=>c0z c (O c.f c.args (b2n c)) && ih) l
noncomputable def c6m (G n:Nat) (O:CallF) (l:List a3z) : Bool:=List.rec (motive:=fun _=>Bool) true (fun c _ ih=>c1c G n c (O c.f c.args (b2o G n c)) && ih) l
theorem a1i.run (hO:∀ B,Az B G P O) : ∀ {l:List Cut},b2p O l=true->a1i G P l
 | [],_=>.nil
 | c :: l,h=>by
  have h' : (c0z c (O c.f c.args (b2n c)) && b2p O l)=true:=h;rw[Dq] at h';intro c' hc';rcases Dv.1 hc' with rfl|hc'
  ·exact f8a hO h'.1
  ·exact a1i.run hO h'.2 c' hc'
theorem a4a.run (hO:∀ B,Az B G P O) : ∀ {l:List a3z},c6m G n O l=true->a4a G P l
 | [],_=>.nil
 | c :: l,h=>by
  have h' : (c1c G n c (O c.f c.args (b2o G n c)) && c6m G n O l)=true:=h;rw[Dq] at h';intro c' hc';rcases Dv.1 hc' with rfl|hc'
  ·exact f8b hO h'.1
  ·exact a4a.run hO h'.2 c' hc'
theorem d5a (hO:∀ B,Az B G P O) : ∀ {l:List a3z},a4a G P l->∀ B,Az B G P (b7o O l)
 | [],_,B=>hO B
 | c :: l,h,B=>by
  have ih:=d5a hO (l:=l) (fun c' hc'=>h c' (g4b _ hc'));intro f args H hne ρ us w s hv
  have he:b7o O (c :: l) f args H=match Nat.beq f c.f with
   | true=>orR (b0t c args H) (b7o O l f args H)
   | false=>b7o O l f args H:=rfl
  rw[he] at hne |-;split at hne
  ·rename_i hf;have hf':=Dz hf;subst hf'
   cases hs:b0t c args H with
   | bad=>rw[hs] at hne;exact ih B c.f args H hne ρ us w s hv
   | ret v H1 =>
    refine(h c (g6p ..) args H (by grind) B ρ us w s hv).mono ?_;rintro e w' ⟨r,rfl,hc⟩;rw[hs] at hc;exact hc
   | panic v H1 =>
    refine(h c (g6p ..) args H (by grind) B ρ us w s hv).mono ?_;rintro e w' ⟨r,rfl,hc⟩;rw[hs] at hc;exact hc
  ·exact ih B f args H hne ρ us w s hv
noncomputable def b0u (fs:List a3z) (cs:List Cut) : CallF:=b7o (b7m (fun _ _ _=>.bad) cs) fs
theorem b2q {fs:List a3z} {cs:List Cut} (hf:a4a G P fs) (hc:a1i G P cs) : ∀ B,Az B G P (b0u fs cs) :=
 d5a (d4y (fun B f args H hne=>absurd rfl hne) hc) hf
end Go.Ai
end
section
namespace Go.Ai
open Go.ChangeShapes Go.WideShapes Go.ChangeAt Go.RowKit
variable {H:Type} {enc:TypeId×Value→H} {P:Program}
theorem f8c {f:Func} {s:ChangeSpec} {apart fresh handsOn again:Bool} {W W': World} {args:Array Value} {v:Value} {ds gs:List (DataW H)} {before pa pv:List MemPlace}
  (hW:DataW.Whole enc P f.params.toList s.vars apart W args.toList ds gs before)
  (hres:∀ (b:Nat) (sp:Nat->Bool) (hd:Bool),DataW.TrodAll enc P W' b sp hd f.resultTypes.toList (v.resultList f.resultTypes.size) (s.fn H (ds++gs)).results [])
  (hargs:∀ sp:Nat->Bool,(∀ p∈before,sp p.block=true)->DataW.TrodAll enc P W' 0 sp true f.params.toList args.toList (s.fn H (ds++gs)).args pa)
  (hvars:∀ sp:Nat->Bool,(∀ p∈before,sp p.block=true)->DataW.TrodVars enc P W' sp s.vars (s.fn H (ds++gs)).vars pv)
  (hps:before=pa++pv) (hB:Below W.heap.size W W')
  (hok:∀ (j:Nat) (t:TypeId) (r:Value),f.resultTypes[j]?=some t->(v.resultList f.resultTypes.size)[j]?=some r->Value.okWide P W' .any 0 t r) :
  s.post enc P f apart fresh handsOn again W args v W':=by
 have hlt:∀ p∈before,p.block<W.heap.size:=fun p hp=>hW.lt p hp;have hold:∀ p∈before,(fun b=>decide (b<W.heap.size)) p.block=true:=fun p hp=>by grind
 refine⟨ds,gs,before,[],pa,pv,hW,hres _ _ _,hargs _ hold,hvars _ hold,World.keptBut_mono (fun p hp=>⟨hp,?_⟩) (hB.frame (·∈before)),fun _=>?_⟩
 ·grind
 ·obtain⟨_,_,_,_,_,hz,hn⟩:=hW;refine⟨hok,_,_,([]++pa)++pv,⟨[]++pa,pv,trodAll_append (hargs _ (fun _ _=>rfl)) (hres _ _ _),hvars _ (fun _ _=>rfl),rfl,?_,?_⟩,?_⟩
  ·intro b off hp;have hp' : MemPlace.cell b off∈before:=by grind
   rw[hB.frozen (p:=⟨b,off,none⟩) (hlt _ hp')];exact hz b off hp'
  all_goals grind
end Go.Ai
end
section
namespace Go.Ai
section
variable {P:Program} {H:Mem} {ev:Ev} {d:Option Tmp} {ty:TypeId} {p:String} {af:Array Edge} {g:Option (Nat×Bool)}
end
end Go.Ai
end
section
namespace Go.Ai
section
variable {P:Program} {H:Mem} {ev:Ev} {d:Option Tmp} {ty:TypeId} {p:String} {af:Array Edge} {g:Option (Nat×Bool)}
noncomputable def clI (P:Program) (t:TypeId) : Option AV:=match a3c P t with
 | some (e,_,_)=>(match Cl P e with|some [v]=>some v|_=>none)
 | none=>none
noncomputable def clR (q:Option AV) (n off a:Nat) (ga:Option Blk) (H:Mem) (els:R) : R:=match q,ga with
 | some v,some (.cells r true z)=>if 0<n/\off+n<=r.length/\allOne [v]=true then .val (.lit (.tuple #[])) (H.upd a (.cells (Br r off (rep [v] n)) true z)) else els
 | _,_=>els
theorem f8d {x:Operand} {t:TypeId} : opV P H ev ⟨d,.call ⟨.builtin .clear,#[x],#[t]⟩,ty,p,af,g⟩=ex1 P H ev ⟨d,.call ⟨.builtin .clear,#[x],#[t]⟩,ty,p,af,g⟩ x (ev x) rfl:=(rfl)
theorem f8e {v:AV} (h:allOne [v]=true) (n:Nat) : allOne (rep [v] n)=true:=by
 induction n with
 | zero=>rfl
 | succ n ih=>simp_all[rep]
theorem f8f {x:Operand} {t:TypeId} {a off n c:Nat} {hx:ev x=some (.slq a off n c)} :
  ex1 P H ev ⟨d,.call ⟨.builtin .clear,#[x],#[t]⟩,ty,p,af,g⟩ x (some (.slq a off n c)) hx=clR (clI P t) n off a (H.get a) H (opV P H ev ⟨d,.call ⟨.builtin .clear,#[x],#[t]⟩,ty,p,af,g⟩):=by
 unfold clR;split
 ·rename_i v r z h1 h2;split
  ·rename_i h;obtain⟨h4,h5,h6⟩:=h;show Cb P H ev _ ⟨.builtin .clear,#[x],#[t]⟩=_;unfold Cb;have e1:Bq ev (#[x] : Array Operand).toList=some [.slq a off n c]:=by
    simp_all
   rw[e1];dsimp only;unfold a3d;dsimp only;unfold b8r;have e2:(#[t] : Array TypeId)[0]?=some t:=rfl;rw[e2];dsimp only;unfold clI at h1;split at h1
   ·rename_i e sz by_ he;rw[he];dsimp only;split at h1
    ·rename_i v' hz;cases h1;unfold b8q;rw[hz];obtain⟨m,rfl⟩ : ∃ m,n=m+1:=⟨n-1,by omega⟩;dsimp only;rw[h2];dsimp only;unfold a7m;rw[f8e h6];dsimp only;rw[a9n,if_pos (by rw[a8l];simpa using h5),Mem.setK_eq];rfl
    ·cases h1
   ·cases h1
  ·rfl
 ·rfl
theorem f8g {tk:Nat} (_h0:tick=tk) {q q' : Option AV} {n off a:Nat} {ga ga' : Option Blk} {H:Mem} {els:R} (h1:q=q') (h2:ga=ga') : clR q n off a ga H els=clR q' n off a ga' H els:=by grind
attribute [congr] f8g
theorem f8h {v:AV} {r:List AV} {z n off a m:Nat} {G:Gb} {els:R} (h1:0<n) (h2:off+n<=r.length) (h3:allOne [v]=true) :
  clR (some v) n off a (some (.cells r true z)) ⟨.fn G,m⟩ els=.val (.lit (.tuple #[])) ⟨.fn (Ap G a (some (.cells (Br r off (rep [v] n)) true z))),m⟩:=if_pos ⟨h1,h2,h3⟩
attribute [simp] f8d f8f f8h
end
end Go.Ai
end
section
namespace Go.Ai
section
variable {P:Program} {H:Mem} {ev:Ev} {d:Option Tmp} {ty:TypeId} {p:String} {af:Array Edge} {g:Option (Nat×Bool)}
variable {t kt et:TypeId} {c a:Nat} {s:ByteArray} {l:List (ByteArray×Int×Nat)} {v:Int} {m k x:Operand} {hm:ev m=some (.map a)} {hk:ev k=some (.lit (.string s))}
def a0z (l:List (ByteArray×Int×Nat)) : List (AV×AV×Nat):=a5d (l.map fun x=>(x.1,.li x.2.1,x.2.2))
def a0p (s:ByteArray) : List (ByteArray×Int×Nat)->Option Int
 | []=>none
 | x :: l=>if s=x.1 then some x.2.1 else a0p s l
theorem d5b {s t:ByteArray} {v:Int} {c:Nat} : ∀ {l:List (ByteArray×Int×Nat)},a0p s (l++[(t,v,c)])=(a0p s l).or (if s=t then some v else none)
 | []=>by simp [a0p]
 | x :: l=>by
  have ih:=d5b (s:=s) (t:=t) (v:=v) (c:=c) (l:=l);rw [g6i];unfold a0p;by_cases h:s=x.1
  ·simp [h]
  ·rw [if_neg h,if_neg h,ih]
theorem c6n (s:ByteArray) : ∀ (l:List (ByteArray×Int×Nat)) (i:Nat),match a1u s (l.map fun x=>(x.1,(AV.li x.2.1),x.2.2)) i with|none=>a0p s l=none|some j=>i<=j/\∃ x,l[j-i]?=some x/\x.1=s/\a0p s l=some x.2.1
 | [],i=>rfl
 | x :: l,i=>by
  rw[g4j];unfold a1u a0p;dsimp only;by_cases h:s=x.1
  ·rw[if_pos h];dsimp only;exact⟨Dm _,x,by simp,h.symm,by rw[if_pos h]⟩
  ·rw[if_neg h,if_neg h];have ih:=c6n s l (i+1)
   cases hk:a1u s (l.map fun x=>(x.1,(AV.li x.2.1),x.2.2)) (i+1) with
   | none=>rw[hk] at ih;exact ih
   | some j =>
    rw[hk] at ih;obtain⟨h1,y,h2,h3⟩:=ih;refine⟨by omega,y,?_,h3⟩;rw[show j-i=(j-(i+1))+1 by omega];simpa using h2
def b4h (P:Program) (t:TypeId) : Bool:=match P.underlying t with
 | some (.map kt et)=>(match P.underlying kt with|some .string=>true|_=>false) && (match P.info? et with|some i=>(match i.zero with|some (.int .i64 0)=>true|_=>false)|none=>false)
 | _=>false
theorem c6o (h:b4h P t=true) : ∃ kt et,P.underlying t=some (.map kt et)/\P.underlying kt=some .string/\a9g P et=some (.int .i64 0):=by
 (simp_all[b4h,a9g];grind)
theorem d5c {ok:Bool} (ht:P.underlying t=some (.map kt et)) (hk:P.underlying kt=some .string) (hz:a9g P et=some (.int .i64 0)) (hg:H.get a=some (.map (a0z l) c)) :
  lookup P H t (.map a) (.lit (.string s)) ok=some (c2k ok (.li ((a0p s l).getD 0)) (a0p s l).isSome):=by
 unfold lookup;rw[ht];dsimp only[toLit];rw[hg];dsimp only;rw[c0d (n:=9999) hk];unfold a0z;rw[c0c hk];dsimp only;have hs:=c6n s l 0
 cases hka:a1u s (l.map fun x=>(x.1,(AV.li x.2.1),x.2.2)) 0 with
 | none =>
  rw[hka] at hs;have hs:a0p s l=none:=hs;unfold b3d;dsimp only;rw[hz,hs];rfl
 | some j =>
  rw[hka] at hs;obtain⟨_,x,hx,_,hv⟩:=hs;rw[Nat.sub_zero] at hx;unfold b3d;dsimp only;rw[a9m];have:(a5d (l.map fun x=>(x.1,(AV.li x.2.1),x.2.2)))[j]?=some (.lit (.string x.1),.li x.2.1,x.2.2):=by
   unfold a5d;simp[hx]
  rw[this,hv];rfl
theorem f8i (ht:P.underlying t=some (.map kt et)) (hk:P.underlying kt=some .string) (hg:H.get a=some (.map (a0z l) c)) (hn:a0p s l=none) :
  mapUpdate P H t (.map a) (.lit (.string s)) (.li v)=some (H.upd a (.map (a0z (l++[(s,v,c)])) (c+1))):=by
 unfold mapUpdate;rw[ht];dsimp only[toLit];rw[hg];dsimp only;rw[c0d (n:=9999) hk];have e:a9f P kt (.string s) (a0z l)=some (a1u s (l.map fun x=>(x.1,(AV.li x.2.1),x.2.2)) 0):=c0c hk s _;rw[e];have hs:=c6n s l 0
 cases hka:a1u s (l.map fun x=>(x.1,(AV.li x.2.1),x.2.2)) 0 with
 | none =>
  unfold b8p;dsimp only;rw[Mem.setK_eq];simp[a0z,a5d]
 | some j =>
  exfalso;rw[hka] at hs;obtain⟨_,x,_,_,hv⟩:=hs;rw[hn] at hv;cases hv
theorem f8j {hg:H.get a=some (.map (a0z l) c)} (h:b4h P t=true) :
  b3s P H ev ⟨d,.lookup t m k true,ty,p,af,g⟩ m k a (.lit (.string s)) (some (.map (a0z l) c)) hm hk hg=.val (.tup [.li ((a0p s l).getD 0),.lit (.bool (a0p s l).isSome)]) H:=by
 show a2t P H ev _ t (ev m) (ev k) true=_;obtain⟨kt,et,h1,h2,h3⟩:=c6o h;unfold a2t b5g;rw[a8a (x:=m) (by simp[Op.operands]) (fun v' h=>by rw[hm] at h;cases h;rfl),hm,hk];dsimp only;rw[d5c h1 h2 h3 hg];rfl
theorem f8k {hg:H.get a=some (.map (a0z l) c)} (h:b4h P t=true) :
  b3s P H ev ⟨d,.lookup t m k false,ty,p,af,g⟩ m k a (.lit (.string s)) (some (.map (a0z l) c)) hm hk hg=.val (.li ((a0p s l).getD 0)) H:=by
 show a2t P H ev _ t (ev m) (ev k) false=_;obtain⟨kt,et,h1,h2,h3⟩:=c6o h;unfold a2t b5g;rw[a8a (x:=m) (by simp[Op.operands]) (fun v' h=>by rw[hm] at h;cases h;rfl),hm,hk];dsimp only;rw[d5c h1 h2 h3 hg];rfl
theorem f8l {hx:ev x=some (.li v)}
  {hg:H.get a=some (.map (a0z l) c)} (h:b4h P t=true) (hn:a0p s l=none) :
  b6k P H ev ⟨d,.mapUpdate t m k x,ty,p,af,g⟩ m k x a (.lit (.string s)) (.li v) (some (.map (a0z l) c)) hm hk hx hg=.skip (H.upd a (.map (a0z (l++[(s,v,c)])) (c+1))):=by
 show a4h P H t (ev m) (ev k) (ev x)=_;obtain⟨kt,et,h1,h2,h3⟩:=c6o h;unfold a4h;rw[hm,hk,hx];dsimp only;rw[f8i h1 h2 hg hn]
noncomputable def b7p (t:Option TypeDesc) (H:Mem) (v:Option AV) : R:=match t,v with
 | some (.map _ _),some (.lit (.int _ _))=>.val (.map H.next) (H.add (.map (a0z []) 0))
 | _,_=>.bad
theorem f8m : opV P H ev ⟨d,.makeMap t (some x),ty,p,af,g⟩=b7p (P.underlying t) H (ev x):=by
 show a3o P H ev t (some x)=_;unfold a3o b7p;dsimp only;split
 ·rename_i h1 h2;rw[h1,h2,Mem.newK_eq];rfl
 ·split
  ·rename_i h _ _ _ _ _ _ h1 h2;exact absurd h2 (by intro e;exact h _ _ _ _ h1 e)
  ·rfl
theorem f8n {tk:Nat} (_h0:tick=tk) {t t' : Option TypeDesc} {H:Mem} {v v' : Option AV} (h1:t=t') (h2:v=v') : b7p t H v=b7p t' H v':=by rw[h1,h2]
attribute [congr] f8n
theorem f8o {k:IntKind} {i:Int} : b7p (some (.map kt et)) H (some (.lit (.int k i)))=.val (.map H.next) (H.add (.map (a0z []) 0)):=(rfl)
noncomputable def b7q (t:Option TypeDesc) (ga:Option Blk) (H:Mem) (els:R) : R:=match t,ga with
 | some (.map _ _),some (.map es _)=>.val (.li es.length) H
 | _,_=>els
theorem f8p {o:Oper} : a5a P H ev o ⟨.builtin .len,#[x],#[t]⟩ (some (.map kt et)) (some [.map a])=b7q (P.underlying t) (H.get a) H (a5a P H ev o ⟨.builtin .len,#[x],#[t]⟩ (some (.map kt et)) (some [.map a])):=by
 unfold b7q;split
 ·rename_i h1 h2;show a5q P H ev o _ [.map a]=_;unfold a5q a4r;have e:((⟨.builtin .len,#[x],#[t]⟩ : Call).argTypes[0]?).bind P.underlying=P.underlying t:=(rfl);rw[e,h1];dsimp only;rw[h2];rfl
 ·rfl
theorem f8q {tk:Nat} (_h0:tick=tk) {t t' : Option TypeDesc} {ga ga' : Option Blk} {H:Mem} {els:R} (h1:t=t') (h2:ga=ga') : b7q t ga H els=b7q t' ga' H els:=by rw[h1,h2]
attribute [congr] f8q
theorem f8r {es:List (AV×AV×Nat)} {els:R} : b7q (some (.map kt et)) (some (.map es c)) H els=.val (.li es.length) H:=(rfl)
theorem f8s : (a0z l).length=l.length:=by unfold a0z a5d;simp
attribute [simp] f8j f8k f8l f8m f8o f8p f8r f8s
end
end Go.Ai
end
section
namespace Go.Ai
open Go.ChangeShapes Go.WideShapes Go.ChangeAt Go.RowKit
variable {B G:Nat} {P:Program} {ρ:Rn} {w:World}
end Go.Ai
end

