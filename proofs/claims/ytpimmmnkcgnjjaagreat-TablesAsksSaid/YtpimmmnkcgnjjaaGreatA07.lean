/- Parts of an interpreter and of a proof. No condition. -/
import Derived.Shelf.SlSortCmp.WholeK
import Derived.Shelf.SlSortCmp.Whole1
import Derived.ProofKit
import Derived.Deep.DeepHandedRow
import Derived.Test.YtpimmmnkcgnjjaaGreatA06
import Derived.Test.YtpimmmnkcgnjjaaGreatA05
import Derived.Test.YtpimmmnkcgnjjaaGreatA03
set_option linter.all false
set_option maxRecDepth 10000
open Go.Proofs
open Go.RowKit (Below)
namespace Go.Ai
section
variable {B G n n0 m l:Nat}{P:Program}{ρ0 ρ:Rn}{w0 w:World}{x r:Option Nat}{I:Inv}{fr fr0:Fr}{ys:List Nat}{p:Option J}{H:Mem}{a:Act}{callf:CallF}{fid D:Nat}{tm:Array Value}{ps:Array Tmp}{asg body:Code}{fuel:Nat}
theorem Nz{o:Obj}(h:B<=l):Below B w (w.putObj l o):=⟨rfl,rfl,rfl,by simp,λk A=>World.putObj_heap_other (by omega)⟩
theorem Uv{o:Obj}:KX (some l) w (w.putObj l o):=⟨λk h A U hx=>by
 grind[World.putObj_heap_other],Wy _⟩
theorem N0{o h:Obj}(s:Sim B G ρ H w)(A:w.heap[l]?=some h)(U:isMk h=true):Sim B G ρ H (w.putObj l o):=
 s.mark A U (λk Z=>World.putObj_heap_other Z) (by simp)
noncomputable def yBad:YF:=λ_ _=>.bad
noncomputable def rBad:RF:=λ_ _ _ _ _ _=>.bad
theorem Mh(m:Nat):YOK B G P r x l m I yBad:=λ_ _ _ _ _ h=>by cases h
theorem Mi(m:Nat):ROK B G n n0 P r x l m I rBad:=λ_ _ _ _ _ _ _ _ h=>by cases h
noncomputable def putPs:List Tmp->List AV->Fr->Fr
 | t::ts,v::vs,fr=>putPs ts vs (fr.upd t v)
 | _,_,fr=>fr
theorem putPs_ok:∀{ps:List Tmp}{vs:List AV}{us:List Value}{fr:Fr}{tm:Array Value},(∀t∈ps,t<n)->VRs ρ vs us->Dz n ρ fr { tmps:=tm,defers:=[] } ->
  Dz n ρ (putPs ps vs fr) { tmps:=(ps.zip us).foldl (λtmps (t,a)=>tmps.setIfInBounds t a) tm,defers:=[] }
 | [],vs,us,fr,tm,_,_,h=>by assumption
 | t::ts,[],us,fr,tm,_,A,h=>by cases A;assumption
 | t::ts,v::vs,us,fr,tm,U,A,h=>by
  obtain⟨u,Z,rfl,h1,h2⟩:=A;have:=Dz.put (d:=some t) h (λj hj=>by simp_all) h1;exact putPs_ok (ps:=ts) (vs:=vs) (us:=Z) (fr:=fr.upd t v) (tm:=tm.setIfInBounds t u) (λj hj=>U j (by grind)) h2 this
def D7(fid:FuncId)(tm:Array Value)(ps:Array Tmp)(asg body:Code)(D:Nat)(st:LoopState)(pd:Option Code):Loop:={ state:=st,pending:=pd,fn:=fid,tmps:=tm,params:=ps,assign:=asg,body:=body,defers:=D }
def IR(fid:FuncId)(tm:Array Value)(ps:Array Tmp)(asg body:Code)(D l:Nat)(st:LoopState):Inv:=λ_ _ ds w=>ds=[]/\w.heap[l]?=some (.loop (D7 fid tm ps asg body D st none))
def Iv(p:Option J):LoopState:=match p with|none=>.ready|some _=>.done
def II(n:Nat)(fr0:Fr)(fid:FuncId)(tm:Array Value)(ps:Array Tmp)(asg body:Code)(D l:Nat):Inv:=λρ p ds w=>ds=[]/\Dz n ρ fr0 { tmps:=tm,defers:=[] }/\w.heap[l]?=some (.loop (D7 fid tm ps asg body D (Iv p) (p.map jcode)))
theorem Mj{st:LoopState}:Gq (IR fid tm ps asg body D l st):=λ_ _ _ _ _ _ h A _ _=>⟨h.1,A.1 _ _ h.2 rfl⟩
theorem II_ok:Gq (II n fr0 fid tm ps asg body D l):=λ_ _ _ _ _ _ h A _ U=>⟨h.1,h.2.1.mono U,A.1 _ _ h.2.2 rfl⟩
noncomputable def yfR(P:Program)(callf:CallF)(fuel:Nat)(ps:Array Tmp)(asg body:Code)(fr0:Fr):YF:=λvs H=>match Nat.beq vs.length ps.size with
 | true=>(match Cd P callf yBad rBad (Iu P callf yBad rBad fuel) asg (putPs ps.toList vs fr0) [] none H with
  | .norm fr1 ys1 p1 H1=>(match Cd P callf yBad rBad (Iu P callf yBad rBad fuel) body fr1 ys1 p1 H1 with
   | .norm _ _ _ H2=>.ok true none H2
   | .jump j _ _ _ H2=>.ok false (some j) H2
   | .bad=>.bad)
  | _=>.bad)
 | false=>.bad
theorem Uw {ρ' : Rn} (s:Sim B G ρ H w) (h:∀ a,a<H.next->ρ' a=ρ a) : Sub ρ ρ':=by
 intro a y hy
 rw[h a ?_];· grind
 rcases Nat.lt_or_ge a H.next with k|k
 ·exact k
 ·rw[s.fresh a k] at hy;grind
theorem b2s(Z:∀B,A8 B G P callf)(hG:G=P.globals.size)(hB:B<=l)(b4:∀t∈ps.toList,t<n)(b5:Az n asg=true)(b1:Az n body=true)(m:Nat):
  YOK B G P none (some l) l m (II n fr0 fid tm ps asg body D l) (yfR P callf fuel ps asg body fr0):=by
 intro vs H b p' H' a0 ρ us ds w hs hv hI;obtain⟨rfl,b2,hl⟩:=hI;unfold yfR at a0;split at a0
 .rename_i b6;have c8:=Xe b6;have b7:us.size=ps.size:=by have:=hv.length;grind
  refine⟨fid,_,asg,body,run_yield hl b7,roundIn_of_wpIn trivial ?_⟩;generalize b8:((D7 fid tm ps asg body D (Iv none) (Option.map jcode none)).params.zip us).foldl (λtmps (t,a)=>tmps.setIfInBounds t a) (D7 fid tm ps asg body D (Iv none) (Option.map jcode none)).tmps=tm1;have b9:Dz n ρ (putPs ps.toList vs fr0) { tmps:=tm1,defers:=[] }:=by
   have:=putPs_ok b4 hv b2;rw[<- b8];show Dz n ρ (putPs ps.toList vs fr0) { tmps:=(ps.zip us).foldl (λtmps (t,a)=>tmps.setIfInBounds t a) tm,defers:=[] };grind[Array.toList_zip]
  have s0:StE B G n H.next ρ w none 0 (IR fid tm ps asg body D l .ready) ρ (putPs ps.toList vs fr0) [] none H { tmps:=tm1,defers:=[] } w:=
   ⟨λ_ _=>rfl,Yg _ _,Below.refl _ _,hs,b9,Wy _,⟨rfl,hl⟩,by simp⟩
  split at a0
  .rename_i c0 c1 p1 H1 c2;have key:asg.wpIn (FR (some l)) m P _ _ _:=Pg (r:=some l) (m:=m) Z hG Mh Mj (Mi m) (Ny Z hG Mh Mj Mi fuel) asg ρ w ρ _ [] none H _ w b5 s0 (by grind);rw[c2] at key;refine Code.wpIn_mono ?_ key;rintro e a1 w1 ⟨rfl,U,s1⟩;obtain⟨c6,a7⟩:=s1.inv;refine⟨_,run_beginRound a7 rfl,?_⟩;have b3:(w1.putObj l (.loop { D7 fid tm ps asg body D .ready none with state:=.busy })).heap[l]?=some (.loop (D7 fid tm ps asg body D .busy none)):=World.putObj_heap_same (e6d.1 a7).1;generalize c7:w1.putObj l (.loop { D7 fid tm ps asg body D .ready none with state:=.busy })=A at b3 |-;have s2:StE B G n H1.next U A none 0 (IR fid tm ps asg body D l .busy) U c0 c1 p1 H1 a1 A:=
    ⟨λ_ _=>rfl,Yg _ _,Below.refl _ _,by rw[<- c7];exact N0 s1.sim a7 rfl,s1.frel,Wy _,⟨c6,b3⟩,s1.ysl⟩
   have fin:∀{H2:Mem}{a3:Rn}{a5:Fr}{a6:List Nat}{q:Option J} {a2:Act} {w3:World} (j:Option J),StE B G n H1.next U A none 0 (IR fid tm ps asg body D l .busy) a3 a5 a6 q H2 a2 w3 ->
     ∃v w4,(Instr.endRound l (j.map jcode)).run P w3=.ok v w4/\(Ending.returned v=.returned (.bool j.isNone)/\∃a8,(∀a,a<H.next->a8 a=ρ a)/\KX (some l) w w4/\Below B w w4/\Sim B G a8 H2 w4/\H.next<=H2.next/\II n fr0 fid tm ps asg body D l a8 j [] w4):=by
    intro H2 a3 a5 a6 q a2 w3 j h;obtain⟨_,a9⟩:=h.inv;have c9:((j.map jcode).isNone)=j.isNone:=by grind
    refine⟨_,_,run_endRound _ a9,by grind,a3,λb hb=>?_,?_,?_,N0 h.sim a9 rfl,Xa s1.le h.le,rfl,?_,?_⟩
    .exact(h.same b (Xm hb s1.le)).trans (s1.same b hb)
    .have k1:KX (some l) w w1:=⟨λk o hk ho hx=>s1.keeps.1 k o hk ho (by simp),s1.keeps.2⟩;have k2:KX (some l) w1 A:=by grind[Uv]
     have k3:KX (some l) A w3:=⟨λk o hk ho hx=>h.keeps.1 k o hk ho (by simp),h.keeps.2⟩;exact((k1.trans k2).trans k3).trans Uv
    .have k2:Below B w1 A:=by grind[Nz]
     exact((s1.below.trans k2).trans h.below).trans (Nz hB)
    .exact b2.mono (Uw hs λb hb=>(h.same b (Xm hb s1.le)).trans (s1.same b hb))
    .rw[World.putObj_heap_same (e6d.1 a9).1];cases j<;>rfl
   split at a0
   .rename_i a5 a6 p2 H2 b0;cases a0;have a4:body.wpIn (FR (some l)) m P _ _ _:=Pg (r:=some l) (m:=m) Z hG Mh Mj (Mi m) (Ny Z hG Mh Mj Mi fuel) body U A U _ _ _ H1 _ A b1 s2 (by grind);rw[b0] at a4;refine Code.wpIn_mono ?_ a4;rintro e a2 w3 ⟨rfl,a3,h⟩;exact fin none h
   .rename_i j a5 a6 p2 H2 b0;cases a0;have a4:body.wpIn (FR (some l)) m P _ _ _:=Pg (r:=some l) (m:=m) Z hG Mh Mj (Mi m) (Ny Z hG Mh Mj Mi fuel) body U A U _ _ _ H1 _ A b1 s2 (by grind);rw[b0] at a4;refine Code.wpIn_mono ?_ a4;rintro e a2 w3 ⟨rfl,a3,h⟩
    cases j with
    | none=>exact fin (some none) h
    | some id=>exact fin (some (some id)) h
   grind
  grind
 grind
end
section
variable {B G n n0 m l l1 lo:Nat}{P:Program}{ρ0 ρ:Rn}{w0 w:World}{x r:Option Nat}{I:Inv}{fr fr0:Fr}{ys:List Nat}{p:Option J}{H:Mem}{a:Act}{callf:CallF}{fid D:Nat}{tm:Array Value}{ps:Array Tmp}{asg body:Code}{fuel:Nat}
noncomputable def d6g(P:Program)(it:Func)(r:Ex):Ut:=match r with
 | .norm fr _ p H=>(match Fi P it fr H with|some _=>.ok p H|none=>.bad)
 | .jump none fr _ p H=>(match Fi P it fr H with|some _=>.ok p H|none=>.bad)
 | _=>.bad
noncomputable def itE(P:Program)(callf:CallF)(fuel:Nat)(yf:YF)(f:FuncId)(cap:List AV)(H:Mem):Ut:=match P.funcs[f]? with
 | some it=>(match it.body,Ao P f with
  | some c,true=>(match Az it.ntmps c,Nat.ble (len cap+1) it.ntmps with
   | true,true=>d6g P it (Cd P callf yf rBad (Iu P callf yf rBad fuel) c (putArgs cap (Cx it.ntmps) 1) [0] none H)
   | _,_=>.bad)
  | _,_=>.bad)
 | none=>.bad
noncomputable def rfR(P:Program)(callf:CallF)(fuel n:Nat):RF:=λg ps asg body fr H=>match ps.toList.all (λt=>Nat.blt t n),Az n asg&&Az n body,fr.ev g with
 | true,true,some (.func (.func f) [] cap)=>itE P callf fuel (yfR P callf fuel ps asg body fr) f cap H
 | _,_,_=>.bad
def MKs(lo:Nat):List Deferred->World->Prop
 | [],_=>True
 | d::ds,w=>∃D,d.target=.collected D/\lo<=D/\w.heap[D]?=some (.deferred (some []))/\(∀d'∈ds,d'.target≠.collected D)/\MKs lo ds w
theorem MKs.keep{w h:World}(A:∀D:Nat,w.heap[D]?=some (Obj.deferred (some []))->h.heap[D]?=some (Obj.deferred (some []))):∀{ds:List Deferred},MKs lo ds w->MKs lo ds h
 | [],_=>trivial
 | _::_,⟨D,U,Z,h3,h4,h5⟩=>⟨D,U,Z,A D h3,h4,MKs.keep A h5⟩
theorem MKs.keepBut{w U:World}{E:Nat}(Z:∀D,D≠E->U.heap[D]?=w.heap[D]?):∀{ds:List Deferred},(∀A∈ds,A.target≠.collected E)->MKs lo ds w->MKs lo ds U
 | [],_,_=>trivial
 | d::_,hE,⟨D,h1,h2,h3,h4,h5⟩=>⟨D,h1,h2,by grind,h4,MKs.keepBut Z (λA h=>hE A (by grind)) h5⟩
theorem MKs.lt{w:World}:∀{ds:List Deferred},MKs lo ds w->∀h∈ds,h.target≠.collected w.heap.size
 | d::ds,⟨D,U,h2,Z,h4,h5⟩,h,A=>by
  rcases Xb.1 A with rfl|A
  .rw[U];intro e;cases e;have:=(e6d.1 Z).1;omega
  .exact MKs.lt h5 h A
def Iv0(lo:Nat):Inv:=λ_ p ds w=>p=none/\lo<=w.heap.size/\MKs lo ds w
theorem IO_ok:Gq (Iv0 lo):=λ_ _ _ _ _ _ h A U _=>⟨h.1,Xa h.2.1 U,h.2.2.keep λD Z=>A.1 D _ Z rfl⟩
theorem d6h{A:List AV}{cs:Array Value}{yv:Value}(U:VRs ρ A cs.toList)(a1:A.length+1<=n):
  Dz n ρ (putArgs A (Cx n) 1) { tmps:=#[yv]++cs++Array.replicate (n-(#[yv]++cs).size) undef,defers:=[] } /\
  (∀t,t∈[0]->t<n/\(putArgs A (Cx n) 1).get t=none/\(#[yv]++cs++Array.replicate (n-(#[yv]++cs).size) undef).getD t undef=yv):=by
 have a2:cs.size=A.length:=by have:=U.length;grind
 have a0:∀t v,(putArgs A (Cx n) 1).get t=some v->1<=t/\A[t-1]?=some v:=by
  intro t v h;rcases putArgs_get _ _ _ _ _ h with Z|Z
  all_goals grind[a7j]
 refine⟨⟨?_,?_,by grind,?_⟩,?_⟩
 .intro t v h _;obtain⟨Z,h2⟩:=a0 t v h;obtain⟨u,hu,a3⟩:=U.get (t-1) h2
  (simp_all;grind)
 .rw[putArgs_defers,a7k];rfl
 .grind
 .intro t ht;have:t=0:=by grind
  subst this;refine⟨by omega,?_,?_⟩
  .cases hg:(putArgs A (Cx n) 1).get 0 with
   | none=>rfl
   | some v=>grind
  simp[Array.getElem?_append_left]
theorem b2t(a4:∀B,A8 B G P callf)(hG:G=P.globals.size)(m:Nat):ROK B G n n0 P none none l1 m (Iv0 lo) (rfR P callf fuel n):=by
 intro g ps asg body fr H j H' Z ρ0 w0 ρ p a w s;unfold rfR at Z;split at Z
 .rename_i f a5 b5 a1 b6;simp only[W1] at a1;have b0:∀t∈ps.toList,t<n:=λt ht=>Wz (W7.1 b5 t ht);obtain⟨f',c',hu,h1,h2⟩:=s.ev _ _ b6;have b7:f'=#[]:=by grind[VRs]
  subst b7;unfold itE at Z;split at Z
  .rename_i it b8;split at Z
   .rename_i c b9 c0;split at Z
    .rename_i c1 e8;have c2:a5.length+1<=it.ntmps:=by simp_all[Di]
     refine wpIn_rangeFunc λfn _=>?_;have a8:=run_enterLoop_outer (P:=P) (w:=w) fn a.tmps ps asg body;have a6:=World.alloc_heap_new (w.alloc (.deferred (some []))) (.loop { state:=.ready,pending:=none,fn:=fn,tmps:=a.tmps,params:=ps,assign:=asg,body:=body,defers:=w.heap.size });rw[World.size_alloc] at a6;generalize e9:w.heap.size+1=l at a8 a6;generalize a9:(w.alloc (.deferred (some []))).alloc (.loop { state:=.ready,pending:=none,fn:=fn,tmps:=a.tmps,params:=ps,assign:=asg,body:=body,defers:=w.heap.size })=A at a8 a6;refine⟨l,_,A,{ target:=.fn (.func f) c',args:=#[.func (.yield l) #[] #[]] },A,f,#[.func (.yield l) #[] #[]]++c',A,a8,?_,λ_ _=>trivial,?_,λh=>(by cases h),?_⟩
     .have g0:∀v:Value,a.eval (.const v)=v:=λ_=>rfl;simp_all[Deferred.ofValue,resolve]
     .exact Tf c0 _ _
     ·
      have g1:A.heap.size=w.heap.size+2:=by rw[<- a9];simp
      have c6:w.drawn<=A.drawn:=by rw[<- a9];simp
      have c7:∀k,k<w.heap.size->A.heap[k]?=w.heap[k]?:=by
       grind[Below.heap_alloc]
      have hD:A.heap[w.heap.size]?=some (.deferred (some [])):=by
       grind[World.alloc_heap_new,Below.heap_alloc]
      have hl:A.heap[l]?=some (.loop (D7 fn a.tmps ps asg body w.heap.size .ready none)):=a6;have c8:Below B w A:=by
       rw[<- a9];exact((Below.refl B w).alloc s.sim.base _).alloc (by simp;have:=s.sim.base;omega) _
      have c9:Sim B G ρ H A:=s.sim.other (by omega) λa x b o k hx hr=>c7 b (by
       rcases s.sim.blk a x hx with h|⟨b',o',k',h,hb⟩
       .grind
       .rw[hr] at h;cases h;exact hb.lt)
      obtain⟨e0,e1⟩:=d6h (yv:=.func (.yield l) #[] #[]) h2 c2;have hB:B<=l:=by have:=s.sim.base;omega
      have s1:StE B G it.ntmps H.next ρ A (some l) l (II n fr fn a.tmps ps asg body w.heap.size l) ρ (putArgs a5 (Cx it.ntmps) 1) [0] none H { tmps:=#[Value.func (.yield l) #[] #[]]++c'++Array.replicate (it.ntmps-(#[Value.func (.yield l) #[] #[]]++c').size) undef,defers:=[] } A:=
       ⟨λ_ _=>rfl,Yg _ _,Below.refl _ _,c9,e0,Wy _,⟨rfl,s.frel,hl⟩,e1⟩
      have e5:Cd P callf (yfR P callf fuel ps asg body fr) rBad (Iu P callf (yfR P callf fuel ps asg body fr) rBad fuel) c (putArgs a5 (Cx it.ntmps) 1) [0] none H≠.bad:=λe=>by rw[e] at Z;cases Z
      have key:=Pg (r:=none) (x:=some l) (l:=l) (m:=m-1) (I:=II n fr fn a.tmps ps asg body w.heap.size l) a4 hG (b2s a4 hG hB b0 a1.1 a1.2) II_ok (Mi _) (Ny a4 hG (b2s a4 hG hB b0 a1.1 a1.2) II_ok Mi fuel) c ρ A ρ _ [0] none H _ A c1 s1 e5;have fin:∀{a3:Fr}{a7:List Nat}{p2:Option J}{H2:Mem}{a0:Rn} {a2:Act} {w3:World},StE B G it.ntmps H.next ρ A (some l) l (II n fr fn a.tmps ps asg body w.heap.size l) a0 a3 a7 p2 H2 a2 w3 ->
        (match Fi P it a3 H2 with|some _=>Ut.ok p2 H2|none=>.bad)=.ok j H'->a2.defers=[]/\∃v,(results it a2.tmps).run P w3=.ok v w3 /\
         rangePost (FR none) m P l (Hx B G n n0 ρ0 w0 none l1 (Iv0 lo) (b2l j fr p H')) { a with defers:=[{ target:=.collected w.heap.size,args:=#[] }]++a.defers } (.returned v) w3:=by
       intro a3 a7 p2 H2 a0 a2 w3 U b1;split at b1
       .rename_i v hv;cases b1;obtain⟨e6,g2,b2⟩:=U.inv;obtain⟨u,e7,g3⟩:=L3 U.st hG hv;refine⟨e6,u,e7,_,_,run_endLoop b2 (by cases j<;>simp[D7,Iv]),?_⟩;have b3:KD w (w3.putObj l (.loop { D7 fn a.tmps ps asg body w.heap.size (Iv j) (j.map jcode) with state:=.exhausted })):=by
         refine⟨λk o hk ho=>?_,Xa c6 U.keeps.2⟩;have g4:=(e6d.1 hk).1;rw[World.putObj_heap_other (by omega)];exact U.keeps.1 k o (by grind) ho (by grind)
        have b4:∀a,a<H.next->a0 a=ρ a:=U.same;have s4:StE B G n n0 ρ0 w0 none l1 (Iv0 lo) a0 fr [] p H' { a with defers:=[{ target:=.collected w.heap.size,args:=#[] }]++a.defers } (w3.putObj l (.loop { D7 fn a.tmps ps asg body w.heap.size (Iv j) (j.map jcode) with state:=.exhausted })):=by
         refine⟨λb hb=>(b4 b (Xm hb s.le)).trans (s.same b hb),s.keeps.trans b3.kx,((s.below.trans c8).trans U.below).trans (Nz hB),N0 U.sim b2 rfl,s.frel.mono (Uw s.sim b4),Xa s.le U.le,?_,by simp⟩;obtain⟨i1,i2,i3⟩:=s.inv;have g5:=U.below.size;refine⟨i1,by simp;omega,w.heap.size,rfl,i2,?_,i3.lt,i3.keep λD hD=>b3.1 D _ hD rfl⟩;rw[World.putObj_heap_other (by omega)];exact U.keeps.1 _ _ hD rfl (by grind)
        cases j with
        | none=>exact⟨rfl,a0,s4⟩
        | some j =>
         cases j with
         | none=>exact wpIn_ret ⟨rfl,a0,s4⟩
         | some id=>exact wpIn_exit ⟨rfl,a0,s4⟩
       grind
      refine callsIn_of_wp b8 b9 trivial (Code.wpIn_mono ?_ key);intro e a2 w3 h;generalize Cd P callf (yfR P callf fuel ps asg body fr) rBad (Iu P callf (yfR P callf fuel ps asg body fr) rBad fuel) c (putArgs a5 (Cx it.ntmps) 1) [0] none H=o at h Z
      cases o with
      | norm a3 a7 p2 H2=>obtain⟨rfl,a0,U⟩:=h;exact fin U Z
      | jump jj a3 a7 p2 H2 =>
       cases jj with
       | none=>obtain⟨rfl,a0,U⟩:=h;exact fin U Z
       | some id=>cases Z
      | bad=>cases Z
    grind
   grind
  grind
 grind
end
section
variable {B G n n0 m l l1 lo:Nat}{P:Program}{ρ0 ρ:Rn}{w0 w wb:World}{x r:Option Nat}{I:Inv}{fr fr0:Fr}{ys:List Nat}{p:Option J}{H:Mem}{a:Act}{callf:CallF}{fuel:Nat}
theorem a3y{fn:Func}{tmps:Array Value}{R:Ending->World->Prop}(hB:B<=lo)(a0:wb.heap.size<=lo)
  (hR:∀h,Sim B G ρ H h->KD wb h->Below B wb h->∃v,(results fn tmps).run P h=.ok v h/\R (.returned v) h) :
  ∀(ds:List Deferred)(w:World),MKs lo ds w->Sim B G ρ H w->KD wb w->Below B wb w->LeavesInM (FR none) m P fn tmps R ds .returning w
 | [],w,_,U,A,Z=>hR w U A Z
 | d::ds,w,⟨D,k1,k2,k3,k4,k5⟩,U,A,Z=>by
  refine⟨by simp,.inl ⟨D,_,k1,run_takeDeferred k3,a3y hB a0 hR ds _ (k5.keepBut (λE hE=>World.putObj_heap_other hE) k4) (N0 U k3 rfl) ?_ (Z.trans (Nz (Xa hB k2)))⟩⟩;refine⟨λk o hk ho=>?_,A.2⟩;have:=(e6d.1 hk).1;rw[World.putObj_heap_other (by omega)];exact A.1 k o hk ho
noncomputable def d6i(P:Program)(fn:Func)(r:Ex):A1:=match r with
 | .norm fr _ _ H=>(match Fi P fn fr H with|some v=>.ret v H|none=>.bad)
 | .jump none fr _ _ H=>(match Fi P fn fr H with|some v=>.ret v H|none=>.bad)
 | _=>.bad
noncomputable def b2u(P:Program)(callf:CallF)(fuel:Nat)(fn:Func)(c:Code)(args:List AV)(H:Mem):A1:=match Az fn.ntmps c,Nat.ble (len args) fn.ntmps with
 | true,true=>d6i P fn (Qh args (Cx fn.ntmps) λfr=>Cd P callf yBad (rfR P callf fuel fn.ntmps) (Iu P callf yBad (rfR P callf fuel fn.ntmps) fuel) c fr [] none H)
 | _,_=>.bad
noncomputable def a3z(P:Program)(callf:CallF)(fuel:Nat)(f:FuncId)(args:List AV)(H:Mem):A1:=match P.funcs[f]? with
 | some fn=>(match fn.body with
  | some c=>b2u P callf fuel fn c args H
  | none=>.bad)
 | none=>.bad
theorem d6j(a1:∀B,A8 B G P callf)(hG:G=P.globals.size):A8 B G P (a3z P callf fuel):=by
 intro f args H A ρ us w hs hv;unfold a3z at A |-;split at A
 .rename_i fn a3;split at A
  .rename_i c hb;unfold b2u at A |-;split at A
   .rename_i a4 a9;rw[a0x] at A |-;have a5:=a0y (n:=fn.ntmps) hv (by simp_all[Di]);have s1:StE B G fn.ntmps H.next ρ w none 0 (Iv0 w.heap.size) ρ (putArgs args (Cx fn.ntmps) 0) [] none H { tmps:=us++Array.replicate (fn.ntmps-us.size) undef,defers:=[] } w:=
     ⟨λ_ _=>rfl,Yg _ _,Below.refl _ _,hs,a5,Wy _,⟨rfl,Wy _,trivial⟩,by simp⟩
    have hr:Cd P callf yBad (rfR P callf fuel fn.ntmps) (Iu P callf yBad (rfR P callf fuel fn.ntmps) fuel) c (putArgs args (Cx fn.ntmps) 0) [] none H≠.bad:=λh0=>A (by rw[h0];rfl);have key:=Pg (r:=none) (x:=none) (l:=0) (m:=0) (I:=Iv0 w.heap.size) a1 hG Mh IO_ok (b2t a1 hG 0) (Ny a1 hG Mh IO_ok (b2t a1 hG) fuel) c ρ w ρ _ [] none H _ w a4 s1 hr;refine b2k (r:=none) (m:=0) (callsIn_of_wp_marks a3 hb trivial (Code.wpIn_mono ?_ key));intro e a' w' h;generalize Cd P callf yBad (rfR P callf fuel fn.ntmps) (Iu P callf yBad (rfR P callf fuel fn.ntmps) fuel) c (putArgs args (Cx fn.ntmps) 0) [] none H=o at h A |-;have fin:∀{a0:Fr}{a2:List Nat}{p2:Option J}{U:Mem}{Z:Rn},StE B G fn.ntmps H.next ρ w none 0 (Iv0 w.heap.size) Z a0 a2 p2 U a' w' ->
      (match Fi P fn a0 U with|some v=>A1.ret v U|none=>.bad)≠.bad->LeavesInM (FR none) 0 P fn a'.tmps (Jg B G H.next ρ w (match Fi P fn a0 U with|some v=>A1.ret v U|none=>.bad)) a'.defers .returning w':=by
     intro a0 a2 p2 U Z s2 hn;split at hn
     .rename_i v a6;obtain⟨_,_,i3⟩:=s2.inv;refine a3y (wb:=w) (lo:=w.heap.size) (ρ:=Z) (H:=U) hs.base (Wy _) (λw4 g1 g2 g3=>?_) a'.defers w' i3 s2.sim s2.keeps.kd s2.below;obtain⟨u,a7,a8⟩:=L3 (⟨Ya _ _ _ _,g1,s2.frel,Wy _⟩:St B G fn.ntmps U.next Z w4 Z a0 U (Act.bare a') w4) hG a6;exact⟨u,a7,Z,⟨s2.same,g2,g3⟩,g1,a8,s2.le⟩
     grind
    cases o with
    | norm a0 a2 p2 U=>obtain⟨rfl,Z,s2⟩:=h;exact fin s2 A
    | jump jj a0 a2 p2 U =>
     cases jj with
     | none=>obtain⟨rfl,Z,s2⟩:=h;exact fin s2 A
     | some id=>exact absurd rfl A
    | bad=>exact absurd rfl A
   grind
  grind
 grind
def hasRange:Code->Bool
 | .seq a b=>hasRange a||hasRange b
 | .cond _ a b=>hasRange a||hasRange b
 | .block _ b=>hasRange b
 | .loop b=>hasRange b
 | .scope b=>hasRange b
 | .rangeFunc _ _ _ _=>true
 | _=>false
noncomputable def a4a(P:Program)(use:FuncId->Code->Bool)(callf:CallF)(loopf:LoopF)(fuel:Nat)(f:FuncId)(args:List AV)(H:Mem):A1:=match P.funcs[f]? with
 | some fn=>(match fn.body with
  | some c=>(match use f c with
   | true=>a3z P callf fuel f args H
   | false=>a3p P callf loopf f args H)
  | none=>.bad)
 | none=>.bad
theorem d6k{Z:FuncId->Code->Bool}{callf:CallF}{A:LoopF}(U:∀B,A8 B G P callf)(hl:Im B G P A)(hG:G=P.globals.size):A8 B G P (a4a P Z callf A fuel):=by
 intro f args H h;unfold a4a at h |-;split at h
 .split at h
  .split at h
   .exact d6j U hG f args H h
   .exact d5w U hl hG f args H h
  grind
 grind
noncomputable def a4b(P:Program)(use:FuncId->Code->Bool)(O:CallF)(n:Nat):CallF×LoopF:=
 Nat.rec (motive:=λ_=>CallF×LoopF) (λ_ _ _=>.bad,λ_ _ _=>.bad) (λk ih=>(orC O (a4a P use ih.1 ih.2 k),Dt P ih.1 ih.2)) n
noncomputable def Jx(P:Program)(O:CallF)(n:Nat):CallF:=(a4b P (λ_ c=>hasRange c) O n).1
theorem b2v{U:FuncId->Code->Bool}{O:CallF}(Z:∀B,A8 B G P O)(hG:G=P.globals.size):∀n,(∀B,A8 B G P (a4b P U O n).1)/\∀B,Im B G P (a4b P U O n).2
 | 0=>⟨λB f args H h=>absurd rfl h,λB b n n0 ρ0 w0 ρ fr H a w hd s h=>absurd rfl h⟩
 | m+1=>by
  obtain⟨hc,A⟩:=b2v Z hG m;refine⟨λB=>d2h (Z B) (d6k hc (A B) hG),λB b n n0 ρ0 w0 ρ fr H a w hd s h=>?_⟩;exact b2h (A B) (b2i hc (A B) hG b) n n0 ρ0 w0 ρ fr H a w hd s h
theorem Kw{O:CallF}(h:∀B,A8 B G P O)(hG:G=P.globals.size)(fuel:Nat):∀B,A8 B G P (Jx P O fuel):=(b2v h hG fuel).1
end
section
abbrev QR:=Option J->Out->Prop
abbrev YW:=List AV->Mem->(Bool->Option J->Mem->Prop)->Prop
abbrev RWF:=Operand->Array Tmp->Code->Code->Fr->Mem->QR->Prop
abbrev LFR:=Code->Option J->Fr->Mem->QR->Prop
def Ux(v:Option AV):Option Nat:=match v with
 | some (.lit (.func (.yield l) a c))=>if a=#[]/\c=#[] then some l else none
 | _=>none
def Uy(o:Oper):Option (Tmp×Array Operand):=match o.op with
 | .call c=>(match c.callee with|.value (.tmp t)=>some (t,c.args)|_=>none)
 | _=>none
def onL{α:Type}(x:Option α)(K:α->Prop):Prop:=match x with|some v=>K v|none=>False
noncomputable def Mk(W:WF)(o:Oper)(fr:Fr)(k:Fr->Mem->Prop):R->Prop
 | .val v H=>k (fr.put o.dst v) H
 | .skip H=>k (fr.put o.dst (.lit undef)) H
 | .enter f args H=>W f args H λr=>match r with
  | .ret v H=>k (fr.put o.dst v) H
  | _=>False
 | _=>False
noncomputable def Ml(P:Program)(W:WF)(ops:Array Oper)(o:Oper)(fr:Fr)(H:Mem)(k:Fr->Mem->Prop):Prop:=match o.guard with
 | none=>Mk W o fr k (opV P H fr.ev o)
 | some g=>Fo (D4 ops fr g.1) g.2 (Mk W o fr k (opV P H fr.ev o)) (k (fr.put o.dst (.lit undef)) H)
noncomputable def N1(P:Program)(W:WF)(Y:YW)(l:Nat)(ops:Array Oper)(o:Oper)(args:Array Operand)(p:Option J)(fr:Fr)(H:Mem)(k:Option J->Fr->Mem->Prop):Option Nat->Prop
 | none=>Ml P W ops o fr H (k p)
 | some l'=>l'=l/\o.guard=none/\p=none/\onL (Bj fr.ev args.toList) λvs=>Y vs H λb p' H'=>k p' (fr.put o.dst (.lit (.bool b))) H'
noncomputable def N2(P:Program)(W:WF)(Y:YW)(l:Nat)(ops:Array Oper)(o:Oper)(p:Option J)(fr:Fr)(H:Mem)(k:Option J->Fr->Mem->Prop):Prop:=match Uy o with
 | some (t,args)=>N1 P W Y l ops o args p fr H k (Ux (fr.get t))
 | none=>Ml P W ops o fr H (k p)
noncomputable def Hy(P:Program)(W:WF)(Y:YW)(l:Nat)(ops:Array Oper)(Q:QR):List Oper->Option J->Fr->Mem->Prop
 | [],p,fr,H=>Q p (.norm fr H)
 | o::li,p,fr,H=>N2 P W Y l ops o p fr H (Hy P W Y l ops Q li)
def Iw(Q:Out->Prop):Out->Prop
 | .norm fr H=>fr.defers=[]/\Q (.norm fr H)
 | _=>False
noncomputable def Ce(P:Program)(W:WF)(Y:YW)(R:RWF)(L:LFR)(l:Nat)(yr:List Nat)(plan:List (Nat×List It)):Code->Option J->Fr->Mem->QR->Prop
 | .skip,p,fr,H,Q=>Q p (.norm fr H)
 | .region id ops false,p,fr,H,Q=>(if id∈yr then Hy P W Y l ops Q ops.toList p fr H else Fy P W ops (Iw (Q p)) ops.toList fr H)
 | .region id ops true,p,fr,H,Q=>Md P W ops (Iw (Q p)) (planAt plan id) fr H
 | .seq a b,p,fr,H,Q=>Ce P W Y R L l yr plan a p fr H λp=>Gi (λfr H=>Ce P W Y R L l yr plan b p fr H Q) (Q p)
 | .cond c a b,p,fr,H,Q=>Gj (fr.ev c) (Ce P W Y R L l yr plan a p fr H Q) (Ce P W Y R L l yr plan b p fr H Q)
 | .block id b,p,fr,H,Q=>Ce P W Y R L l yr plan b p fr H λp=>Jj id (Q p)
 | .loop b,p,fr,H,Q=>L b p fr H Q
 | .rangeFunc g ps a b,p,fr,H,Q=>p=none/\R g ps a b fr H Q
 | .exit id,p,fr,H,Q=>Q p (.exit id fr H)
 | .label _,p,fr,H,Q=>Q p (.norm fr H)
 | .ret,p,fr,H,Q=>Q p (.ret fr H)
 | _,_,_,_,_=>False
def Du(P:Program)(plan:List (Nat×List It)):Code->Bool
 | .region id ops true=>ops.toList.all Hb&&(Q7 P ops.toList&&decide (Nt ops.toList=planAt plan id))
 | .region _ ops false=>ops.toList.all Hb
 | .seq a b=>Du P plan a&&Du P plan b
 | .cond _ a b=>Du P plan a&&Du P plan b
 | .block _ b=>Du P plan b
 | .loop b=>Du P plan b
 | _=>true
variable {B G n n0 m l:Nat}{P:Program}{ρ0 ρ:Rn}{w0 w:World}{x r:Option Nat}{I:Inv}{fr:Fr}{p:Option J}{H:Mem}{a:Act}{W:WF}{Y:YW}{R:RWF}{plan:List (Nat×List It)}{yr:List Nat}
def d6l(B G n n0:Nat)(ρ0:Rn)(w0:World)(x:Option Nat)(l:Nat)(I:Inv)(p:Option J):Out->Exit->Act->World->Prop:=λout e a' w'=>match out with
 | .norm fr H=>e=.normal/\∃ρ',StE B G n n0 ρ0 w0 x l I ρ' fr [] p H a' w'
 | .exit id fr H=>e=.exit id/\∃ρ',StE B G n n0 ρ0 w0 x l I ρ' fr [] p H a' w'
 | .ret fr H=>e=.ret/\∃ρ',StE B G n n0 ρ0 w0 x l I ρ' fr [] p H a' w'
 | _=>False
def Kx(B G n n0:Nat)(ρ0:Rn)(w0:World)(x:Option Nat)(l:Nat)(I:Inv)(Q:QR):Exit->Act->World->Prop:=λe a' w'=>∃p out,Q p out/\d6l B G n n0 ρ0 w0 x l I p out e a' w'
def Pj(B G:Nat)(P:Program)(r x:Option Nat)(l:Nat)(I:Inv)(Y:YW):Prop:=∀vs H K,Y vs H K->∀(m:Nat)(ρ:Rn)(us:Array Value)(ds:List Deferred)(w:World),Sim B G ρ H w->VRs ρ vs us.toList->I ρ none ds w ->
 ∃f tm asg bd,(Instr.yield l us).run P w=.ok (.round l f tm asg bd) w /\
  RoundIn (FR r) m P l f tm asg bd w λe w'=>∃b p' H',K b p' H'/\e=.returned (.bool b)/\∃ρ',(∀a,a<H.next->ρ' a=ρ a)/\KX x w w'/\Below B w w'/\Sim B G ρ' H' w'/\H.next<=H'.next/\I ρ' p' ds w'
def Uz(B G n n0:Nat)(P:Program)(r x:Option Nat)(l:Nat)(I:Inv)(R:RWF):Prop:=∀g ps asg body fr H Q,R g ps asg body fr H Q ->
 ∀(m:Nat)(ρ0:Rn)(w0:World)(ρ:Rn)(a:Act) (w:World),StE B G n n0 ρ0 w0 x l I ρ fr [] none H a w ->
  (Code.rangeFunc g ps asg body).wpIn (FR r) m P (Kx B G n n0 ρ0 w0 x l I Q) a w
def LXR(G:Nat)(P:Program)(n l:Nat)(Y:YW)(R:RWF):LFR:=λb p fr H Q =>
 ∀(B n0:Nat)(r x:Option Nat)(I:Inv),Gq I->Pj B G P r x l I Y->Uz B G n n0 P r x l I R ->
  ∀(ρ0:Rn)(w0:World)(ρ:Rn)(a:Act)(w:World),StE B G n n0 ρ0 w0 x l I ρ fr [] p H a w->LWR r P b (Kx B G n n0 ρ0 w0 x l I Q) a w
theorem StE.step0{h:Rn}{H': Mem}{A:World}{v:AV}{u:Value}{d:Option Tmp}{U:Option J}(s:StE B G n n0 ρ0 w0 x l I ρ fr [] p H a w)(Z:∀a,a<H.next->h a=ρ a)(h2:KX x w A)(h3:Below B w A)(hs:Sim B G h H' A)
  (hv:VR h v u) (hn:H.next<=H'.next) (hd:∀t,d=some t->t<n) (hI:I h U a.defers A):StE B G n n0 ρ0 w0 x l I h (fr.put d v) [] U H' (a.put d u) A:=by
 have:=s.step Z h2 h3 hs hv hn hd hI;cases d<;>exact this
theorem b2w(hW:WOK G P W)(hI:Gq I){ops:Array Oper}{o:Oper}{a1:List Oper}{k:Fr->Mem->Prop}{Qx:Exit->Act->World->Prop}(hG:G=P.globals.size)(a3:Cn n o=true)(a6:Hb o=true)
  (s:StE B G n n0 ρ0 w0 x l I ρ fr [] p H a w)
  (hk:∀(a2:Fr)(H' : Mem)(a0:Rn)(a' : Act)(w' : World),StE B G n n0 ρ0 w0 x l I a0 a2 [] p H' a' w'->k a2 H'->wpListIn (FR r) m P ops Qx a1 a' w')
  (h:Mk W o fr k (opV P H fr.ev o)) :
  o.wpIn (FR r) m P a w (wpListIn (FR r) m P ops Qx a1) Qx:=by
 have Z:=Ij (o:=o) s.sim s.ev hG;have hd:=Fl a3;have a4:∀c,o.op≠.defer c:=by
  grind[Hb]
 refine⟨λ_ _=>trivial,?_⟩;rw[Oper.semAt_eq _ _ _ a4]
 cases U:opV P H fr.ev o with
 | val v H' =>
  rw[U] at Z h;obtain⟨a0,u,w',h1,A,h3,h4,h5⟩:=Z;rw[h1];exact hk _ _ _ _ _ (s.step0 A.same A.keeps.kx A.below h3 h4 h5 hd (hI _ _ _ _ _ _ s.inv A.keeps A.below.size (A.sub s.sim))) h
 | skip H' =>
  rw[U] at Z h;obtain⟨a0,w',h1,A,h3,h5⟩:=Z;rw[h1];exact hk _ _ _ _ _ (s.step0 A.same A.keeps.kx A.below h3 (Hm _) h5 hd (hI _ _ _ _ _ _ s.inv A.keeps A.below.size (A.sub s.sim))) h
 | enter f args H' =>
  rw[U] at Z h;obtain⟨us,h1,A,rfl⟩:=Z;rw[h1,Oper.uponIn_enter];refine⟨λh=>(by cases h),(a3t (hW _ _ _ _ h B ρ us w s.sim A)).mono λe w' ⟨q,a5,hc⟩=>?_⟩
  cases q with
  | bad=>grind
  | ret v H2 =>
   cases e with
   | returned u =>
    obtain⟨a0,g1,g2,g3,g4⟩:=hc;exact hk _ _ _ _ _ (s.step0 g1.same g1.keeps.kx g1.below g2 g3 g4 hd (hI _ _ _ _ _ _ s.inv g1.keeps g1.below.size (g1.sub s.sim))) a5
   | panicked a7=>exact hc.elim
   | outgrown=>exact hc.elim
  | panic v H2=>grind
 | dfr fn a8 args H'=>rw[U] at h;exact h.elim
 | recover=>rw[U] at h;exact h.elim
 | panic v H'=>rw[U] at h;exact h.elim
 | bad=>rw[U] at h;exact h.elim
theorem b2x(hW:WOK G P W)(hI:Gq I){ops:Array Oper}{o:Oper}{Z:List Oper}{k:Fr->Mem->Prop}{Qx:Exit->Act->World->Prop}(hG:G=P.globals.size)(a1:Cn n o=true)(a3:Hb o=true)
  (s:StE B G n n0 ρ0 w0 x l I ρ fr [] p H a w)
  (hk:∀(a0:Fr)(H' : Mem)(a2:Rn)(a' : Act)(w' : World),StE B G n n0 ρ0 w0 x l I a2 a0 [] p H' a' w'->k a0 H'->wpListIn (FR r) m P ops Qx Z a' w')
  (h:Ml P W ops o fr H k):wpListIn (FR r) m P ops Qx (o::Z) a w:=by
 unfold Ml at h;unfold wpListIn
 cases A:o.guard with
 | none =>
  rw[A] at h;rw[if_pos (by grind[Region.wanted])];grind[b2w]
 | some g =>
  rw[A] at h;rcases a9r (a:=Act.bare a) s.st A h with⟨U,hy⟩|⟨U,hn⟩
  .rw[if_pos (show Region.wanted o (yielded ops a.tmps)=true from U)];grind[b2w]
  .rw[if_neg (show ¬Region.wanted o (yielded ops a.tmps)=true from by rw[show Region.wanted o (yielded ops a.tmps)=false from U];simp)];exact⟨λ_ _=>trivial,hk _ _ _ _ _ (s.step0 (λ_ _=>rfl) (Yg _ _) (Below.refl _ _) s.sim (Hm _) (Wy _) (Fl a1) s.inv) hn⟩
theorem b2y(hW:WOK G P W)(hI:Gq I)(hY:Pj B G P r x l I Y){ops:Array Oper}{Q:QR}(hG:G=P.globals.size):∀(A:List Oper)(p:Option J)(fr:Fr)(H:Mem)(ρ:Rn) (a:Act) (w:World),
  (∀o∈A,Cn n o=true)->(∀o∈A,Hb o=true)->StE B G n n0 ρ0 w0 x l I ρ fr [] p H a w->Hy P W Y l ops Q A p fr H->wpListIn (FR r) m P ops (Kx B G n n0 ρ0 w0 x l I Q) A a w
 | [],p,fr,H,ρ,a,w,_,_,s,h=>wpListIn_nil ⟨p,_,h,rfl,ρ,s⟩
 | o::A,p,fr,H,ρ,a,w,hd,a4,s,h=>by
  have a5:=hd o (by simp);have b1:=a4 o (by simp);have hk:∀(U:Option J)(a0:Fr)(H' : Mem)(a1:Rn)(a' : Act) (Z:World),StE B G n n0 ρ0 w0 x l I a1 a0 [] U H' a' Z->Hy P W Y l ops Q A U a0 H'->wpListIn (FR r) m P ops (Kx B G n n0 ρ0 w0 x l I Q) A a' Z:=
   λU a0 H' a1 a' Z s' hk=>b2y hW hI hY hG A U a0 H' a1 a' Z (λo ho=>hd o (by grind)) (λo ho=>a4 o (by grind)) s' hk
  have h' : N2 P W Y l ops o p fr H (Hy P W Y l ops Q A):=h;unfold N2 at h';split at h'
  .rename_i t args a2;unfold N1 at h';split at h'
   .grind[b2x]
   .rename_i l' a3;obtain⟨rfl,b2,rfl,h3⟩:=h';unfold onL at h3;split at h3
    .rename_i vs a6;unfold wpListIn;rw[if_pos (by grind[Region.wanted])];refine⟨λ_ _=>trivial,?_⟩;unfold Uy at a2;split at a2
     .rename_i c b3;split at a2
      .rename_i t' b4;cases a2;have a7:VRs ρ vs (c.args.map a.eval).toList:=by simpa using evals_VRs s.ev a6
       obtain⟨f,tm,asg,bd,b5,a8⟩:=hY vs H _ h3 (m-1) ρ (c.args.map a.eval) a.defers w s.sim a7 s.inv;have b6:a.eval (.tmp t)=.func (.yield l') #[] #[]:=by
        unfold Ux at a3;split at a3
        .rename_i l2 aa cc hg;split at a3
         .rename_i a9;obtain⟨rfl,rfl⟩:=a9;cases a3;have:=s.ev (.tmp t) _ (show fr.ev (.tmp t)=some _ from by assumption);exact this
         grind
        grind
       have b0:(o.semAt (FR r).round a.eval).run P w=.ok (.round l' f tm asg bd) w:=by
        grind[Oper.semAt_eq,invoke,Deferred.ofValue,resolve,execOp]
       rw[b0,Oper.uponIn_round];refine⟨λh=>(by cases h),a8.mono λe Z he=>?_⟩;obtain⟨b,U,H',hK,rfl,a1,g1,g2,g3,g4,g5,g6⟩:=he;exact hk _ _ _ _ _ _ (s.step0 (v:=.lit (.bool b)) (u:=.bool b) g1 g2 g3 g4 rfl g5 (Fl a5) g6) hK
      grind
     grind
    grind
  grind[b2x]
theorem b2z{ops:Array Oper}{Q:QR}(hI:Gq I)(a2:ops.toList.all Hb=true)(s:StE B G n n0 ρ0 w0 x l I ρ fr [] p H a w){Z:List Nat}{w1:World}
  (h:wpOps P ops (E7 B G n H.next ρ w (Iw (Q p))) Z (Act.bare a) w1):wpOpsIn (FR r) m P ops (Kx B G n n0 ρ0 w0 x l I Q) Z a w1:=by
 have hq:¬LetsOut (E7 B G n H.next ρ w (Iw (Q p))):=by
  rintro⟨a',w',a0,U,h2⟩;cases a0<;>first|exact U.elim|assumption
 have key:=Kv (r:=r) (m:=m) a2 hq a.defers Z a [] w1 rfl h;refine R1 ?_ _ _ _ key;rintro e a' w' ⟨y,hy,a0,U,h2⟩
 cases a0 with
 | norm a3 H' =>
  obtain⟨a4,hQ⟩:=U
  cases e with
  | normal =>
   obtain⟨a1,A⟩:=h2;have a5:y=[]:=by
    have U:DR a1 a3.defers y:=A.frel.dfr;rw[a4] at U;exact U
   subst a5;refine⟨p,_,hQ,rfl,a1,λb hb=>(A.ext.same b (Xm hb s.le)).trans (s.same b hb),s.keeps.trans A.ext.keeps.kx,s.below.trans A.ext.below,A.sim,A.frel,Xa s.le A.le,?_,by simp⟩;have a6:a'.defers=a.defers:=by grind
   rw[a6];exact hI _ _ _ _ _ _ s.inv A.ext.keeps A.ext.below.size (A.ext.sub s.sim)
  | _=>exact h2.elim
 | _=>exact U.elim
theorem b3a{Q:QR}{K:Act->World->Prop}{k:Fr->Mem->QR->Prop}{b:Option J->Fr->Mem->Prop}
  (hk:∀p' h H' A U Z,StE B G n n0 ρ0 w0 x l I A h [] p' H' U Z->b p' h H'->K U Z) :
  ∀e U Z,Kx B G n n0 ρ0 w0 x l I (λp=>Gi (b p) (Q p)) e U Z->Exit.then K (Kx B G n n0 ρ0 w0 x l I Q) e U Z:=by
 rintro e U Z ⟨p',a0,h1,h2⟩
 cases a0 with
 | norm h H'=>obtain⟨rfl,A,s'⟩:=h2;exact hk _ _ _ _ _ _ s' h1
 | exit id h H'=>obtain⟨rfl,A,s'⟩:=h2;exact⟨p',_,h1,rfl,A,s'⟩
 | ret h H'=>obtain⟨rfl,A,s'⟩:=h2;exact⟨p',_,h1,rfl,A,s'⟩
 | panic v h H'=>exact h2.elim
 | bad=>exact h1.elim
theorem R2(hW:WOK G P W)(hM:Ir W)(hG:G=P.globals.size)(hI:Gq I)(hY:Pj B G P r x l I Y)(hR:Uz B G n n0 P r x l I R)(m:Nat):∀(c:Code)(p:Option J)(fr:Fr)(H:Mem)(Q:QR) (ρ0:Rn) (w0:World) (ρ:Rn) (a:Act) (w:World),
  Az n c=true->Du P plan c=true->Ce P W Y R (LXR G P n l Y R) l yr plan c p fr H Q->StE B G n n0 ρ0 w0 x l I ρ fr [] p H a w->c.wpIn (FR r) m P (Kx B G n n0 ρ0 w0 x l I Q) a w:=by
 intro c
 induction c with
 | skip=>intro p fr H Q ρ0 w0 ρ a w _ _ h s;exact wpIn_skip ⟨p,_,h,rfl,ρ,s⟩
 | region id ops a6 =>
  intro p fr H Q ρ0 w0 ρ a w A U h s
  cases a6 with
  | false =>
   have Z:if id∈yr then Hy P W Y l ops Q ops.toList p fr H else Fy P W ops (Iw (Q p)) ops.toList fr H:=h;have a1:ops.toList.all Hb=true:=U;split at Z
   .exact wpIn_region_list (b2y hW hI hY hG ops.toList p fr H ρ a w (λo ho=>W7.1 A o ho) (λo ho=>W7.1 a1 o ho) s Z)
   .refine wpIn_region (b2z hI a1 s ?_);rw[List.range_eq_range',<- Array.length_toList,wpOps_eq_wpList ops.toList 0 (by simp)];exact Ty hW hG ops.toList fr H ρ (Act.bare a) w (λo ho=>W7.1 A o ho) s.st Z
  | true =>
   have Z:Md P W ops (Iw (Q p)) (planAt plan id) fr H:=h;simp only[Du,W1,decide_eq_true_eq] at U;obtain⟨a1,hf,a7⟩:=U;rw[<- a7] at Z
   cases fr with
   | f g ds=>exact wpIn_region_draw λt=>b2z hI a1 s (a1l (id:=id) hW hG s.st A (a2u hM hf Z) t)
   | _=>exact Z.elim
 | seq c1 c2 a2 a3 =>
  intro p fr H Q ρ0 w0 ρ a w A U h s;simp only[Az,W1] at A;simp only[Du,W1] at U;exact wpIn_seq (Code.wpIn_mono (b3a (k:=λ_ _ _=>True) λp' a0 H' a8 a' w' s' hb=>a3 p' a0 H' Q ρ0 w0 a8 a' w' A.2 U.2 hb s') (a2 p fr H _ ρ0 w0 ρ a w A.1 U.1 h s))
 | cond a9 c1 c2 a2 a3 =>
  intro p fr H Q ρ0 w0 ρ a w A U h s;simp only[Az,W1] at A;simp only[Du,W1] at U;have Z:Gj (fr.ev a9) (Ce P W Y R (LXR G P n l Y R) l yr plan c1 p fr H Q) (Ce P W Y R (LXR G P n l Y R) l yr plan c2 p fr H Q):=h;unfold Gj at Z;split at Z
  .rename_i b b0;have:=s.ev _ _ b0
   cases b with
   | true=>exact wpIn_cond_true this (a2 p fr H Q ρ0 w0 ρ a w A.1 U.1 (Z.1 rfl) s)
   | false=>exact wpIn_cond_false this (a3 p fr H Q ρ0 w0 ρ a w A.2 U.2 (Z.2 rfl) s)
  grind
 | block id b ih =>
  intro p fr H Q ρ0 w0 ρ a w A U h s;refine wpIn_block (Code.wpIn_mono ?_ (ih p fr H _ ρ0 w0 ρ a w A U h s));rintro e a' w' ⟨p',b1,hq,ho⟩
  cases b1 with
  | norm a0 H'=>obtain⟨rfl,Z⟩:=ho;exact⟨p',_,hq,rfl,Z⟩
  | ret a0 H'=>obtain⟨rfl,Z⟩:=ho;exact⟨p',_,hq,rfl,Z⟩
  | exit a5 a0 H' =>
   obtain⟨rfl,Z⟩:=ho;have a4:if a5=id then Q p' (.norm a0 H') else Q p' (.exit a5 a0 H'):=hq;by_cases e:a5=id
   .subst e;rw[if_pos rfl] at a4;simp only[Exit.inBlock,if_true];exact⟨p',_,a4,rfl,Z⟩
   .rw[if_neg e] at a4;simp only[Exit.inBlock,e,if_false];exact⟨p',_,a4,rfl,Z⟩
  | panic v a0 H'=>exact ho.elim
  | bad=>exact hq.elim
 | loop b ih =>
  intro p fr H Q ρ0 w0 ρ a w A U h s;exact(h B n0 r x I hI hY hR ρ0 w0 ρ a w s).wp
 | rangeFunc g ps c1 c2 a2 a3 =>
  intro p fr H Q ρ0 w0 ρ a w A U h s;obtain⟨rfl,h2⟩:p=none/\R g ps c1 c2 fr H Q:=h;exact hR _ _ _ _ _ _ _ h2 m ρ0 w0 ρ a w s
 | exit id=>intro p fr H Q ρ0 w0 ρ a w A U h s;exact wpIn_exit ⟨p,_,h,rfl,ρ,s⟩
 | scope b ih=>intro p fr H Q ρ0 w0 ρ a w A U h;exact h.elim
 | label lb=>intro p fr H Q ρ0 w0 ρ a w A U h s;exact wpIn_label ⟨p,_,h,rfl,ρ,s⟩
 | goto lb=>intro p fr H Q ρ0 w0 ρ a w A U h;exact h.elim
 | ret=>intro p fr H Q ρ0 w0 ρ a w A U h s;exact wpIn_ret ⟨p,_,h,rfl,ρ,s⟩
 | refuse b2=>intro p fr H Q ρ0 w0 ρ a w A U h;exact h.elim
theorem LXR.round{O:CallF}(hO:∀B,A8 B G P O)(hG:G=P.globals.size)(yr:List Nat)(plan:List (Nat×List It)){b:Code}{Q:QR}(A:(Az n b&&Du P plan b)=true)
  (h:Ce P (orW O (WC G P)) Y R (LXR G P n l Y R) l yr plan b p fr H λp=>Gi (λfr H=>LXR G P n l Y R b p fr H Q) (Q p)):LXR G P n l Y R b p fr H Q:=by
 rw[W1] at A;intro B n0 r x I U Z hR ρ0 w0 ρ a w s;exact LWR.unroll (m:=0) (Code.wpIn_mono (b3a (k:=λ_ _ _=>True) λp' a1 H' a0 a' w' s' hb=>hb B n0 r x I U Z hR ρ0 w0 a0 a' w' s') (R2 (Tz hO) (Uj (Ui G P)) hG U Z hR 0 b p fr H _ ρ0 w0 ρ a w A.1 A.2 h s))
abbrev Y6:=@LXR.round
theorem LXR.ind{b:Code}{ds:List Dfr}{Q:QR}(J:Nat->(Nat->Option AV)->Mem->Prop){m0:Nat}{A:Nat->Option AV}{H0:Mem}(h0:J m0 A H0)
  (U:∀m g H,J m g H->Aa (∀h g' H',h < m->J h g' H'->LXR G P n l Y R b p (.f g' ds) H' Q)->LXR G P n l Y R b p (.f g ds) H Q):LXR G P n l Y R b p (.f A ds) H0 Q:=by
 have:∀m g H,J m g H->LXR G P n l Y R b p (.f g ds) H Q:=by
  intro m
  induction m using Nat.strongRecOn with
  | _ m Z=>exact λg H hi=>U m g H hi ⟨λh g' H' a0 hi'=>Z h a0 g' H' hi'⟩
 grind
abbrev Y7:=@LXR.ind
end
section
variable {B G n n0 m l l1 lo:Nat}{P:Program}{ρ0 ρ:Rn}{w0 w wb:World}{x r:Option Nat}{I:Inv}{fr fr0:Fr}{p:Option J}{H:Mem}{a:Act}{W:WF}{fid D:Nat}{tm:Array Value}{ps:Array Tmp}{asg body:Code}{plan:List (Nat×List It)}
def YN:YW:=λ_ _ _=>False
def RN:RWF:=λ_ _ _ _ _ _ _=>False
theorem YN_ok:Pj B G P r x l I YN:=λ_ _ _ h=>h.elim
theorem RN_ok:Uz B G n n0 P r x l I RN:=λ_ _ _ _ _ _ _ h=>h.elim
def rdW(K:Bool->Option J->Mem->Prop):QR:=λ_ out=>match out with
 | .norm _ H=>K true none H
 | .exit id _ H=>K false (some (some id)) H
 | .ret _ H=>K false (some none) H
 | _=>False
def rd0(k:Fr->Mem->Prop):QR:=λ_ out=>match out with
 | .norm fr H=>k fr H
 | _=>False
noncomputable def rdX(G:Nat)(P:Program)(W:WF)(n:Nat)(plan:List (Nat×List It))(c:Code)(fr:Fr)(H:Mem)(Q:QR):Prop:=Ce P W YN RN (LXR G P n 0 YN RN) 0 [] plan c none fr H Q
noncomputable def YB(G:Nat)(P:Program)(W:WF)(n:Nat)(plan:List (Nat×List It))(ps:Array Tmp)(asg body:Code)(fr0:Fr):YW:=λvs H K =>
 vs.length=ps.size/\rdX G P W n plan asg (putPs ps.toList vs fr0) H (rd0 λfr1 H1=>rdX G P W n plan body fr1 H1 (rdW K))
theorem d6m(hW:WOK G P W)(hM:Ir W)(hG:G=P.globals.size)(hB:B<=l)(b4:∀t∈ps.toList,t<n)(b5:Az n asg=true)(b6:Az n body=true)(b7:Du P plan asg=true)(b8:Du P plan body=true):
  Pj B G P none (some l) l (II n fr0 fid tm ps asg body D l) (YB G P W n plan ps asg body fr0):=by
 intro vs H K b9 m ρ us ds w hs hv hI;obtain⟨rfl,b2,hl⟩:=hI;obtain⟨e5,hx⟩:=b9;have c0:us.size=ps.size:=by have:=hv.length;grind
 refine⟨fid,_,asg,body,run_yield hl c0,roundIn_of_wpIn trivial ?_⟩;generalize c1:((D7 fid tm ps asg body D (Iv none) (Option.map jcode none)).params.zip us).foldl (λtmps (t,a)=>tmps.setIfInBounds t a) (D7 fid tm ps asg body D (Iv none) (Option.map jcode none)).tmps=tm1;have c2:Dz n ρ (putPs ps.toList vs fr0) { tmps:=tm1,defers:=[] }:=by
  have:=putPs_ok b4 hv b2;rw[<- c1];show Dz n ρ (putPs ps.toList vs fr0) { tmps:=(ps.zip us).foldl (λtmps (t,a)=>tmps.setIfInBounds t a) tm,defers:=[] };grind[Array.toList_zip]
 have s0:StE B G n H.next ρ w none 0 (IR fid tm ps asg body D l .ready) ρ (putPs ps.toList vs fr0) [] none H { tmps:=tm1,defers:=[] } w:=
  ⟨λ_ _=>rfl,Yg _ _,Below.refl _ _,hs,c2,Wy _,⟨rfl,hl⟩,by simp⟩
 have key:=R2 (r:=some l) (yr:=[]) hW hM hG (Mj (st:=.ready)) (YN_ok (r:=some l)) (RN_ok (n:=n) (n0:=H.next)) m asg none _ H _ ρ w ρ _ w b5 b7 hx s0;refine Code.wpIn_mono ?_ key;rintro e a1 w1 ⟨q1,c6,a4,c7⟩
 cases c6 with
 | norm a5 A =>
  obtain⟨rfl,a6,s1⟩:=c7;obtain⟨c8,a8⟩:=s1.inv;refine⟨_,run_beginRound a8 rfl,?_⟩;have b3:(w1.putObj l (.loop { D7 fid tm ps asg body D .ready none with state:=.busy })).heap[l]?=some (.loop (D7 fid tm ps asg body D .busy none)):=World.putObj_heap_same (e6d.1 a8).1;generalize c9:w1.putObj l (.loop { D7 fid tm ps asg body D .ready none with state:=.busy })=U at b3 |-;have s2:StE B G n A.next a6 U none 0 (IR fid tm ps asg body D l .busy) a6 a5 [] none A a1 U:=
   ⟨λ_ _=>rfl,Yg _ _,Below.refl _ _,by rw[<- c9];exact N0 s1.sim a8 rfl,s1.frel,Wy _,⟨c8,b3⟩,by simp⟩
  have fin:∀{Z:Mem}{a0:Rn}{a3:Fr}{q:Option J}{a2:Act} {w3:World} (j:Option J),StE B G n A.next a6 U none 0 (IR fid tm ps asg body D l .busy) a0 a3 [] q Z a2 w3->K j.isNone j Z ->
    ∃v w4,(Instr.endRound l (j.map jcode)).run P w3=.ok v w4/\∃b p' H',K b p' H'/\Ending.returned v=.returned (.bool b)/\∃a9,(∀a,a<H.next->a9 a=ρ a)/\KX (some l) w w4/\Below B w w4/\Sim B G a9 H' w4/\H.next<=H'.next/\II n fr0 fid tm ps asg body D l a9 p' [] w4:=by
   intro Z a0 a3 q a2 w3 j h hk;obtain⟨_,b0⟩:=h.inv;have e6:((j.map jcode).isNone)=j.isNone:=by grind
   refine⟨_,_,run_endRound _ b0,_,_,_,hk,by grind,a0,λb hb=>?_,?_,?_,N0 h.sim b0 rfl,Xa s1.le h.le,rfl,?_,?_⟩
   .exact(h.same b (Xm hb s1.le)).trans (s1.same b hb)
   .have k1:KX (some l) w w1:=⟨λk o hk ho hx=>s1.keeps.1 k o hk ho (by simp),s1.keeps.2⟩;have k2:KX (some l) w1 U:=by grind[Uv]
    have k3:KX (some l) U w3:=⟨λk o hk ho hx=>h.keeps.1 k o hk ho (by simp),h.keeps.2⟩;exact((k1.trans k2).trans k3).trans Uv
   .have k2:Below B w1 U:=by grind[Nz]
    exact((s1.below.trans k2).trans h.below).trans (Nz hB)
   .exact b2.mono (Uw hs λb hb=>(h.same b (Xm hb s1.le)).trans (s1.same b hb))
   .rw[World.putObj_heap_same (e6d.1 b0).1];cases j<;>rfl
  have e0:=R2 (r:=some l) (yr:=[]) hW hM hG (Mj (st:=.busy)) (YN_ok (r:=some l)) (RN_ok (n:=n) (n0:=A.next)) m body none a5 A _ a6 U a6 a1 U b6 b8 a4 s2;refine Code.wpIn_mono ?_ e0;rintro e a2 w3 ⟨q2,e1,a7,b1⟩
  cases e1 with
  | norm a3 Z=>obtain⟨rfl,a0,h⟩:=b1;exact fin none h a7
  | exit id a3 Z=>obtain⟨rfl,a0,h⟩:=b1;exact fin (some (some id)) h a7
  | ret a3 Z=>obtain⟨rfl,a0,h⟩:=b1;exact fin (some none) h a7
  | panic v a3 Z=>exact a7.elim
  | bad=>exact a7.elim
 | exit id a5 A=>exact a4.elim
 | ret a5 A=>exact a4.elim
 | panic v a5 A=>exact a4.elim
 | bad=>exact a4.elim
def Ky(Q:QR)(fr:Fr)(H:Mem):Option J->Prop
 | none=>Q none (.norm fr H)
 | some none=>Q none (.ret fr H)
 | some (some id)=>Q none (.exit id fr H)
def Pk(k:Mem->Prop):A1->Prop
 | .ret _ H=>k H
 | _=>False
noncomputable def itQ(P:Program)(it:Func)(K:Option J->Mem->Prop):QR:=λp out=>match out with
 | .norm fr2 H2=>G7 P noO it (Pk (K p)) (.norm fr2 H2)
 | .ret fr2 H2=>G7 P noO it (Pk (K p)) (.ret fr2 H2)
 | _=>False
noncomputable def itX(G:Nat)(P:Program)(W:WF)(Y:YW)(n l:Nat)(yr:List Nat)(plan:List (Nat×List It))(c:Code)(fr:Fr)(H:Mem)(Q:QR):Prop:=Ce P W Y RN (LXR G P n l Y RN) l yr plan c none fr H Q
noncomputable def RG(G:Nat)(P:Program)(W:WF)(n:Nat)(plan:List (Nat×List It)):RWF:=λg ps asg body fr H Q =>
 (ps.toList.all (λt=>Nat.blt t n)&&(Az n asg&&Az n body&&(Du P plan asg&&Du P plan body)))=true /\
 ∃(f:FuncId)(cap:List AV)(it:Func)(c:Code)(yr:List Nat) (planI:List (Nat×List It)),fr.ev g=some (.func (.func f) [] cap)/\P.funcs[f]?=some it/\it.body=some c/\Ao P f=true/\(Az it.ntmps c&&Du P planI c)=true/\cap.length+1<=it.ntmps /\
  ∀l,itX G P W (YB G P W n plan ps asg body fr) it.ntmps l yr planI c (Hn (.lit (.func (.yield l) #[] #[])::cap)) H (itQ P it (λp H'=>Ky Q fr H' p))
theorem b3b{fn:Func}{fr:Fr}{K:A1->Prop}(A:fr.defers=[])(h:match C3 P noO (λ_ _ _=>.bad) fn fr fr.defers .returning H with|.bad=>False|r=>K r):∃v,Fi P fn fr H=some v/\K (.ret v H):=by
 rw[A] at h;unfold C3 at h;grind
theorem d6n(hW:WOK G P W)(hM:Ir W)(hG:G=P.globals.size):Uz B G n n0 P none none l1 (Iv0 lo) (RG G P W n plan):=by
 intro g ps asg body fr H Q b2 m ρ0 w0 ρ a w s;obtain⟨a7,f,a8,it,c,yr,g1,b3,b4,b5,b6,a3,g2,hx⟩:=b2;simp only[W1] at a7 a3;obtain⟨b7,⟨b8,b9⟩,c0,c1⟩:=a7;have c2:∀t∈ps.toList,t<n:=λt ht=>Wz (W7.1 b7 t ht);obtain⟨f',c',hu,h1,h2⟩:=s.ev _ _ b3;have c6:f'=#[]:=by grind[VRs]
 subst c6;refine wpIn_rangeFunc λfn _=>?_;have a4:=run_enterLoop_outer (P:=P) (w:=w) fn a.tmps ps asg body;have a1:=World.alloc_heap_new (w.alloc (.deferred (some []))) (.loop { state:=.ready,pending:=none,fn:=fn,tmps:=a.tmps,params:=ps,assign:=asg,body:=body,defers:=w.heap.size });rw[World.size_alloc] at a1;generalize g3:w.heap.size+1=l at a4 a1;generalize a5:(w.alloc (.deferred (some []))).alloc (.loop { state:=.ready,pending:=none,fn:=fn,tmps:=a.tmps,params:=ps,assign:=asg,body:=body,defers:=w.heap.size })=A at a4 a1;refine⟨l,_,A,{ target:=.fn (.func f) c',args:=#[.func (.yield l) #[] #[]] },A,f,#[.func (.yield l) #[] #[]]++c',A,a4,?_,λ_ _=>trivial,?_,λh=>(by cases h),?_⟩
 .have g4:∀v:Value,a.eval (.const v)=v:=λ_=>rfl;simp_all[Deferred.ofValue,resolve]
 .exact Tf b6 _ _
 ·
  have g5:A.heap.size=w.heap.size+2:=by rw[<- a5];simp
  have c7:w.drawn<=A.drawn:=by rw[<- a5];simp
  have c8:∀k,k<w.heap.size->A.heap[k]?=w.heap[k]?:=by
   grind[Below.heap_alloc]
  have hD:A.heap[w.heap.size]?=some (.deferred (some [])):=by
   grind[World.alloc_heap_new,Below.heap_alloc]
  have hl:A.heap[l]?=some (.loop (D7 fn a.tmps ps asg body w.heap.size .ready none)):=a1;have c9:Below B w A:=by
   rw[<- a5];exact((Below.refl B w).alloc s.sim.base _).alloc (by simp;have:=s.sim.base;omega) _
  have e0:Sim B G ρ H A:=s.sim.other (by omega) λa x b o k hx hr=>c8 b (by
   rcases s.sim.blk a x hx with h|⟨b',o',k',h,hb⟩
   .grind
   .rw[hr] at h;cases h;exact hb.lt)
  have e1:VRs ρ (.lit (.func (.yield l) #[] #[])::a8) (#[Value.func (.yield l) #[] #[]]++c').toList:=by
   rw[Array.toList_append];exact⟨_,_,rfl,rfl,h2⟩
  have e5:=T5 (n:=it.ntmps) e1 (by grind);have hB:B<=l:=by have:=s.sim.base;omega
  have s1:StE B G it.ntmps H.next ρ A (some l) l (II n fr fn a.tmps ps asg body w.heap.size l) ρ (Hn (.lit (.func (.yield l) #[] #[])::a8)) [] none H { tmps:=#[Value.func (.yield l) #[] #[]]++c'++Array.replicate (it.ntmps-(#[Value.func (.yield l) #[] #[]]++c').size) undef,defers:=[] } A:=
   ⟨λ_ _=>rfl,Yg _ _,Below.refl _ _,e0,e5,Wy _,⟨rfl,s.frel,hl⟩,by simp⟩
  have hY:Pj B G P none (some l) l (II n fr fn a.tmps ps asg body w.heap.size l) (YB G P W n plan ps asg body fr):=d6m hW hM hG hB c2 b8 b9 c0 c1;have key:=R2 (r:=none) (x:=some l) (I:=II n fr fn a.tmps ps asg body w.heap.size l) hW hM hG II_ok hY (RN_ok (n:=it.ntmps) (n0:=H.next)) (m-1) c none _ H _ ρ A ρ _ A a3.1 a3.2 (hx l) s1;have fin:∀{Z:Fr}{p2:Option J}{H2:Mem}{a0:Rn}{a2:Act} {w3:World},StE B G it.ntmps H.next ρ A (some l) l (II n fr fn a.tmps ps asg body w.heap.size l) a0 Z [] p2 H2 a2 w3 ->
    (match C3 P noO (λ_ _ _=>.bad) it Z Z.defers .returning H2 with|.bad=>False|r=>Pk (λH'=>Ky Q fr H' p2) r)->a2.defers=[]/\∃v,(results it a2.tmps).run P w3=.ok v w3 /\
     rangePost (FR none) m P l (Kx B G n n0 ρ0 w0 none l1 (Iv0 lo) Q) { a with defers:=[{ target:=.collected w.heap.size,args:=#[] }]++a.defers } (.returned v) w3:=by
   intro Z p2 H2 a0 a2 w3 U e6;have e7:Z.defers=[]:=by
    have:DR a0 Z.defers (Act.bare a2).defers:=U.frel.dfr
    cases hd:Z.defers with
    | nil=>rfl
    | cons d ds=>rw[hd] at this;obtain⟨fn,cp,ar⟩:=d;obtain⟨_,_,_,he,_⟩:=this;cases he
   obtain⟨v,hv,hj⟩:=b3b e7 e6;have a6:Ky Q fr H2 p2:=hj;obtain⟨e8,g6,a9⟩:=U.inv;obtain⟨u,e9,g7⟩:=L3 U.st hG hv;refine⟨e8,u,e9,_,_,run_endLoop a9 (by cases p2<;>simp[D7,Iv]),?_⟩;have b0:KD w (w3.putObj l (.loop { D7 fn a.tmps ps asg body w.heap.size (Iv p2) (p2.map jcode) with state:=.exhausted })):=by
    refine⟨λk o hk ho=>?_,Xa c7 U.keeps.2⟩;have g8:=(e6d.1 hk).1;rw[World.putObj_heap_other (by omega)];exact U.keeps.1 k o (by grind) ho (by grind)
   have b1:∀a,a<H.next->a0 a=ρ a:=U.same;have s4:StE B G n n0 ρ0 w0 none l1 (Iv0 lo) a0 fr [] none H2 { a with defers:=[{ target:=.collected w.heap.size,args:=#[] }]++a.defers } (w3.putObj l (.loop { D7 fn a.tmps ps asg body w.heap.size (Iv p2) (p2.map jcode) with state:=.exhausted })):=by
    refine⟨λb hb=>(b1 b (Xm hb s.le)).trans (s.same b hb),s.keeps.trans b0.kx,((s.below.trans c9).trans U.below).trans (Nz hB),N0 U.sim a9 rfl,s.frel.mono (Uw s.sim b1),Xa s.le U.le,?_,by simp⟩;obtain⟨i1,i2,i3⟩:=s.inv;have g9:=U.below.size;refine⟨i1,by simp;omega,w.heap.size,rfl,i2,?_,i3.lt,i3.keep λD hD=>b0.1 D _ hD rfl⟩;rw[World.putObj_heap_other (by omega)];exact U.keeps.1 _ _ hD rfl (by grind)
   cases p2 with
   | none=>exact⟨none,_,a6,rfl,a0,s4⟩
   | some j =>
    cases j with
    | none=>exact wpIn_ret ⟨none,_,a6,rfl,a0,s4⟩
    | some id=>exact wpIn_exit ⟨none,_,a6,rfl,a0,s4⟩
  refine callsIn_of_wp b4 b5 trivial (Code.wpIn_mono ?_ key);rintro e a2 w3 ⟨p2,g0,hq,ho⟩
  cases g0 with
  | norm Z H2=>obtain⟨rfl,a0,U⟩:=ho;exact fin U hq
  | ret Z H2=>obtain⟨rfl,a0,U⟩:=ho;exact fin U hq
  | exit id Z H2=>exact hq.elim
  | panic v Z H2=>exact hq.elim
  | bad=>exact hq.elim
noncomputable def U0(P:Program)(fn:Func)(K:A1->Prop):QR:=λ_ out=>match out with
 | .norm fr H=>G7 P noO fn K (.norm fr H)
 | .ret fr H=>G7 P noO fn K (.ret fr H)
 | _=>False
noncomputable def fnX(G:Nat)(P:Program)(W:WF)(n:Nat)(plan:List (Nat×List It))(c:Code)(fr:Fr)(H:Mem)(Q:QR):Prop:=Ce P W YN (RG G P W n plan) (LXR G P n 0 YN (RG G P W n plan)) 0 [] plan c none fr H Q
theorem WC.enterR{f:FuncId}{fn:Func}{c:Code}{args:List AV}{K:A1->Prop}{O:CallF}(hO:∀B,A8 B G P O)(hG:G=P.globals.size)(plan:List (Nat×List It))(hf:P.funcs[f]?=some fn)(hb:fn.body=some c)
  (hd:(Az fn.ntmps c&&Du P plan c)=true) (hl:args.length<=fn.ntmps) (h:fnX G P (orW O (WC G P)) fn.ntmps plan c (Hn args) H (U0 P fn K)):WC G P f args H K:=by
 rw[W1] at hd;intro B ρ us w hs hv;have hW:=Tz (G:=G) (P:=P) hO;have hM:=Uj (O:=O) (Ui G P);have s1:StE B G fn.ntmps H.next ρ w none 0 (Iv0 w.heap.size) ρ (Hn args) [] none H { tmps:=us++Array.replicate (fn.ntmps-us.size) undef,defers:=[] } w:=
  ⟨λ_ _=>rfl,Yg _ _,Below.refl _ _,hs,T5 hv hl,Wy _,⟨rfl,Wy _,trivial⟩,by simp⟩
 have key:=R2 (r:=none) (x:=none) (I:=Iv0 w.heap.size) hW hM hG IO_ok (YN_ok (r:=none)) (d6n (plan:=plan) (n:=fn.ntmps) (n0:=H.next) hW hM hG) 0 c none _ H _ ρ w ρ _ w hd.1 hd.2 h s1;refine b2k (r:=none) (m:=0) (callsIn_of_wp_marks hf hb trivial (Code.wpIn_mono ?_ key));rintro e a' w' ⟨p2,a0,hq,ho⟩;have fin:∀{A:Fr}{p2:Option J}{U:Mem}{Z:Rn},StE B G fn.ntmps H.next ρ w none 0 (Iv0 w.heap.size) Z A [] p2 U a' w' ->
   (match C3 P noO (λ_ _ _=>.bad) fn A A.defers .returning U with|.bad=>False|r=>K r)->LeavesInM (FR none) 0 P fn a'.tmps (λe w'=>∃r,K r/\Jg B G H.next ρ w r e w') a'.defers .returning w':=by
  intro A p2 U Z s2 hn;have a1:A.defers=[]:=by
   have:DR Z A.defers (Act.bare a').defers:=s2.frel.dfr
   cases hd:A.defers with
   | nil=>rfl
   | cons d ds=>rw[hd] at this;obtain⟨fn,cp,ar⟩:=d;obtain⟨_,_,_,he,_⟩:=this;cases he
  obtain⟨v,a2,hk⟩:=b3b a1 hn;obtain⟨_,_,i3⟩:=s2.inv;refine a3y (wb:=w) (lo:=w.heap.size) (ρ:=Z) (H:=U) hs.base (Wy _) (λw4 g1 g2 g3=>?_) a'.defers w' i3 s2.sim s2.keeps.kd s2.below;obtain⟨u,a3,a4⟩:=L3 (⟨Ya _ _ _ _,g1,s2.frel,Wy _⟩:St B G fn.ntmps U.next Z w4 Z A U (Act.bare a') w4) hG a2;exact⟨u,a3,_,hk,Z,⟨s2.same,g2,g3⟩,g1,a4,s2.le⟩
 cases a0 with
 | norm A U=>obtain⟨rfl,Z,s2⟩:=ho;exact fin s2 hq
 | ret A U=>obtain⟨rfl,Z,s2⟩:=ho;exact fin s2 hq
 | exit id A U=>exact hq.elim
 | panic v A U=>exact hq.elim
 | bad=>exact hq.elim
end
section
variable {P:Program}{W:WF}{Y:YW}{R:RWF}{L:LFR}{Q:QR}{fr:Fr}{p:Option J}{H:Mem}{plan:List (Nat×List It)}{yr:List Nat}{l G n:Nat}{ops:Array Oper}{g:Nat→Option AV}{ds:List Dfr}
variable {tk id:Nat}{b c a:Code}{ps:Array Tmp}
theorem d6o(A:tick=tk){c:Code}{fr h:Fr}{H H' : Mem}(U:fr=h)(Z:H=H'):Ce P W Y R L l yr plan c p fr H Q=Ce P W Y R L l yr plan c p h H' Q:=by grind
theorem d6p(U:tick=tk){h:List Oper}{fr A:Fr}{H H' : Mem}(Z:fr=A)(h2:H=H'):Hy P W Y l ops Q h p fr H=Hy P W Y l ops Q h p A H':=by grind
theorem d6q(A:tick=tk){o:Oper}{k:Option J->Fr->Mem->Prop}{fr h:Fr}{H H' : Mem}(U:fr=h)(Z:H=H'):N2 P W Y l ops o p fr H k=N2 P W Y l ops o p h H' k:=by grind
theorem d6r(Z:tick=tk){o:Oper}{h:Array Operand}{k:Option J->Fr->Mem->Prop}{fr A:Fr}{H H' : Mem}{y U:Option Nat}(h1:fr=A)(h2:H=H')(h3:y=U):N1 P W Y l ops o h p fr H k y=N1 P W Y l ops o h p A H' k U:=by grind
theorem d6s(A:tick=tk){o:Oper}{k:Fr->Mem->Prop}{fr h:Fr}{H H' : Mem}(U:fr=h)(Z:H=H'):Ml P W ops o fr H k=Ml P W ops o h H' k:=by grind
theorem d6t(U:tick=tk){o:Oper}{k:Fr->Mem->Prop}{fr h:Fr}{r A:Go.Ai.R}(Z:fr=h)(h2:r=A):Mk W o fr k r=Mk W o h k A:=by grind
theorem d6u(Z:tick=tk){A:Type}{x U:Option A}{K:A->Prop}(h:x=U):onL x K=onL U K:=by rw[h]
theorem d6v(U:tick=tk){Q:Out->Prop}{o A:Out}(h:o=A):Iw Q o=Iw Q A:=by rw[h]
theorem d6w(A:tick=tk){b:Code}{fr h:Fr}{H H' : Mem}(U:fr=h)(Z:H=H'):LXR G P n l Y R b p fr H Q=LXR G P n l Y R b p h H' Q:=by grind
theorem d6x(A:tick=tk){o:Operand}{ps:Array Tmp}{a b:Code}{fr h:Fr}{H H' : Mem}(U:fr=h)(Z:H=H'):RG G P W n plan o ps a b fr H Q=RG G P W n plan o ps a b h H' Q:=by grind
theorem d6y(U:tick=tk){fn:Func}{K:A1->Prop}{o A:Out}(h:o=A):U0 P fn K p o=U0 P fn K p A:=by rw[h]
theorem d6z(U:tick=tk){fn:Func}{K:Option J->Mem->Prop}{o A:Out}(h:o=A):itQ P fn K p o=itQ P fn K p A:=by rw[h]
attribute [congr] d6o d6p d6q d6r d6s d6t d6u d6v d6w d6x d6y d6z
theorem execR_skip:Ce P W Y R L l yr plan .skip p fr H Q=Q p (.norm fr H):=(rfl)
theorem d7a{h:List Oper}:Ce P W Y R L l yr plan (.region id h.toArray false) p fr H Q=if id∈yr then Hy P W Y l h.toArray Q h p fr H else Fy P W h.toArray (Iw (Q p)) h fr H:=(rfl)
theorem d7b:Ce P W Y R L l yr plan (.seq a b) p fr H Q=Ce P W Y R L l yr plan a p fr H λp=>Gi (λfr H=>Ce P W Y R L l yr plan b p fr H Q) (Q p):=(rfl)
theorem d7c{x:Operand}:Ce P W Y R L l yr plan (.cond x a b) p fr H Q=Gj (fr.ev x) (Ce P W Y R L l yr plan a p fr H Q) (Ce P W Y R L l yr plan b p fr H Q):=(rfl)
theorem d7d:Ce P W Y R L l yr plan (.block id b) p fr H Q=Ce P W Y R L l yr plan b p fr H λp=>Jj id (Q p):=(rfl)
theorem d7e:Ce P W Y R L l yr plan (.loop b) p fr H Q=L b p fr H Q:=(rfl)
theorem d7f{o:Operand}:Ce P W Y R L l yr plan (.rangeFunc o ps a b) none fr H Q=R o ps a b fr H Q:=by simp[Ce]
theorem d7g:Ce P W Y R L l yr plan (.exit id) p fr H Q=Q p (.exit id fr H):=(rfl)
theorem execR_ret:Ce P W Y R L l yr plan .ret p fr H Q=Q p (.ret fr H):=(rfl)
attribute [simp] execR_skip d7a d7b d7c d7d d7e d7f d7g execR_ret
theorem d7h{Q:Out->Prop}:Iw Q (.norm (.f g []) H)=Q (.norm (.f g []) H):=by simp[Iw,b0d]
theorem seqR_nil:Hy P W Y l ops Q [] p fr H=Q p (.norm fr H):=(rfl)
theorem d7i{d:Option Tmp}{op:Op}{t:TypeId}{s:String}{af:Array Edge}{gd:Option (Nat×Bool)}{h:List Oper}:
  Hy P W Y l ops Q (⟨d,op,t,s,af,gd⟩::h) p fr H=N2 P W Y l ops ⟨d,op,t,s,af,gd⟩ p fr H (Hy P W Y l ops Q h):=(rfl)
section
variable {d:Option Tmp}{op:Op}{t:TypeId}{s:String}{af:Array Edge}{gd:Option (Nat×Bool)}{k:Option J→Fr→Mem→Prop}{j:Fr→Mem→Prop}
def onT(x:Option (Tmp×Array Operand))(a:Tmp->Array Operand->Prop)(b:Prop):Prop:=match x with|some (t,asx)=>a t asx|none=>b
theorem d7j{t:Tmp}{h:Array Operand}{a:Tmp->Array Operand->Prop}{b:Prop}:onT (some (t,h)) a b=a t h:=(rfl)
theorem d7k{a:Tmp->Array Operand->Prop}{b:Prop}:onT none a b=b:=(rfl)
theorem d7l{o:Oper}:N2 P W Y l ops o p fr H k=onT (Uy o) (λx h=>N1 P W Y l ops o h p fr H k (Ux (fr.get x))) (Ml P W ops o fr H (k p)):=by
 rfl
theorem d7m{h:Array Operand}:N1 P W Y l ops ⟨d,op,t,s,af,none⟩ h none fr H k (some l)=onL (Bj fr.ev h.toList) λvs=>Y vs H λb A H'=>k A (fr.put d (.lit (.bool b))) H':=by simp[N1]
theorem d7n{h:Type}{x:h}{K:h->Prop}:onL (some x) K=K x:=(rfl)
theorem d7o{l:Nat}:Ux (some (.lit (.func (.yield l) #[] #[])))=some l:=by rfl
theorem oneR_none:Ml P W ops ⟨d,op,t,s,af,none⟩ fr H j=Mk W ⟨d,op,t,s,af,none⟩ fr j (opV P H fr.ev ⟨d,op,t,s,af,none⟩):=(rfl)
theorem d7p{o:Oper}{v:AV}:Mk W o fr j (.val v H)=Kl o.dst j fr v (O3 v) H:=(rfl)
theorem d7q{o:Oper}{f:FuncId}{args:List AV}:Mk W o fr j (.enter f args H)=W f args H (λr=>match r with
  | .ret v H=>Kl o.dst j fr v (O3 v) H
  | _=>False):=(rfl)
end
attribute [simp] d7h seqR_nil d7i d7l d7j d7k d7m d7n d7o oneR_none d7p d7q Uy
theorem d7r{K:Bool->Option J->Mem->Prop}:rdW K p (.norm fr H)=K true none H:=(rfl)
theorem d7s{k:Fr->Mem->Prop}:rd0 k p (.norm fr H)=k fr H:=(rfl)
theorem d7t{fn:Func}{K:Option J->Mem->Prop}:itQ P fn K p (.norm fr H)=G7 P noO fn (Pk (K p)) (.norm fr H):=(rfl)
theorem d7u{fn:Func}{K:Option J->Mem->Prop}:itQ P fn K p (.ret fr H)=G7 P noO fn (Pk (K p)) (.ret fr H):=(rfl)
theorem d7v{k:Mem->Prop}{v:AV}:Pk k (.ret v H)=k H:=(rfl)
theorem d7w{fn:Func}{K:A1->Prop}:U0 P fn K p (.ret fr H)=G7 P noO fn K (.ret fr H):=(rfl)
theorem jumpW_none:Ky Q fr H none=Q none (.norm fr H):=(rfl)
theorem jumpW_ret:Ky Q fr H (some none)=Q none (.ret fr H):=(rfl)
theorem putPs_nil:putPs [] [] fr=fr:=by cases fr<;>rfl
theorem d7x{t:Tmp}{ts:List Tmp}{v:AV}{vs:List AV}:putPs (t::ts) (v::vs) fr=putPs ts vs (fr.upd t v):=(rfl)
theorem d7y{t:Tmp}{v:AV}:(Fr.f g ds).upd t v=.f (Fh g t v) ds:=(rfl)
theorem d7z:rdX G P W n plan c fr H Q=Ce P W YN RN (LXR G P n 0 YN RN) 0 [] plan c none fr H Q:=(rfl)
theorem d8a:itX G P W Y n l yr plan c fr H Q=Ce P W Y RN (LXR G P n l Y RN) l yr plan c none fr H Q:=(rfl)
theorem d8b:fnX G P W n plan c fr H Q=Ce P W YN (RG G P W n plan) (LXR G P n 0 YN (RG G P W n plan)) 0 [] plan c none fr H Q:=(rfl)
attribute [simp] d7r d7s d7t d7u d7v d7w jumpW_none jumpW_ret putPs_nil d7x d7y d7z d8a d8b
theorem RG.enter{o:Operand}{asg body:Code}(f:FuncId)(U:List AV)(A:Func)(c:Code)(yr:List Nat)(Z:List (Nat×List It))
  (h0:(ps.toList.all (λt=>Nat.blt t n)&&(Az n asg&&Az n body&&(Du P plan asg&&Du P plan body)))=true) (a0:fr.ev o=some (.func (.func f) [] U)) (hf:P.funcs[f]?=some A) (hb:A.body=some c)
  (hh:Ao P f=true) (hd:(Az A.ntmps c&&Du P Z c)=true) (hl:U.length+1<=A.ntmps)
  (h:∀l,itX G P W (YB G P W n plan ps asg body fr) A.ntmps l yr Z c (Hn (.lit (.func (.yield l) #[] #[])::U)) H (itQ P A (λp H'=>Ky Q fr H' p))):RG G P W n plan o ps asg body fr H Q:=
 ⟨h0,f,U,A,c,yr,Z,a0,hf,hb,hh,hd,hl,h⟩
theorem YB.enter{asg body:Code}{vs:List AV}{K:Bool->Option J->Mem->Prop}(A:vs.length=ps.size)
  (h:rdX G P W n plan asg (putPs ps.toList vs fr) H (rd0 λU Z=>rdX G P W n plan body U Z (rdW K))):YB G P W n plan ps asg body fr vs H K:=⟨A,h⟩
theorem LWR.mono{r:Option Nat}{Q A:Exit->Act->World->Prop}{a:Act}{w:World}(h:LWR r P c Q a w)(U:∀e a w,Q e a w->A e a w):LWR r P c A a w:=λb k cs Z =>
 let ⟨e,a',w',q,s⟩:=h b k cs Z;⟨e,a',w',U _ _ _ q,s⟩
theorem LXR.mono{A:QR}(h:LXR G P n l Y R b p fr H Q)(U:∀p o,Q p o->A p o):LXR G P n l Y R b p fr H A:=
 λB n0 r x I Z hY hR ρ0 w0 ρ a w s=>(h B n0 r x I Z hY hR ρ0 w0 ρ a w s).mono λ_ _ _ ⟨p,o,h1,h2⟩=>⟨p,o,U _ _ h1,h2⟩
end
section
open Go.Shelf Go.Sort
variable {α:Type}{g:Gb}{G:Nat}
def froz(R:Nat)(g:Gb):Gb:=λa=>if a=R then none else match g a with
 | some (.cells l _ z)=>some (.cells l false z)
 | _=>none
theorem a4c{R a:Nat}{x:Blk}(h:froz R g a=some x):a≠R/\∃l own z,g a=some (.cells l own z)/\x=.cells l false z:=by
 grind[froz]
theorem b3c{R a:Nat}{l:List AV}{own:Bool}{z:Nat}(A:a≠R)(h:g a=some (.cells l own z)):froz R g a=some (.cells l false z):=by
 simp_all[froz]
theorem b3d{W A:World}(hB:Below W.heap.size W A)(hd:W.drawn<=A.drawn):∃q a0,A=grow (W.drewN q) a0:=by
 refine⟨A.drawn-W.drawn,A.heap.extract W.heap.size A.heap.size,?_⟩;obtain⟨h1,h2,h3,h4,h5⟩:=hB
 cases A with
 | mk h a1 drawn os a2 =>
  cases W with
  | mk U a3 Z a0 a4 =>
   have e1:os=a0:=h1;have e2:a1=a3:=h2;have e3:a2=a4:=h3;have a5:U.size<=h.size:=h4;have a6:∀k,k<U.size->h[k]?=U[k]?:=h5;have e4:drawn=Z+(drawn-Z):=by grind
   have e5:h=U++h.extract U.size h.size:=by
    grind
   subst e1 e2 e3;show World.mk h a1 drawn os a2=World.mk (U++h.extract U.size h.size) a1 (Z+(drawn-Z)) os a2;grind
theorem U1{k:Nat}:∀(its:List (List AV)),(∀x∈its,x.length=k)->∀(i:Nat)(hi:i<its.length)(t:Nat),t<k->its.flatten[i*k+t]?=(its[i])[t]?
 | [],_,i,hi,_,_=>by grind
 | x::its,h,0,_,t,A=>by
  grind
 | x::its,h,i+1,hi,t,A=>by
  have hx:=h x (by simp);rw[e8r,Xq (by rw[hx,e6g];omega),hx,show (i+1)*k+t-k=i*k+t by rw[e6g];omega];simpa using U1 its (λy hy=>h y (by simp[hy])) i (by simpa using hi) t A
theorem U2{k:Nat}:∀(its:List (List AV)),(∀x∈its,x.length=k)->its.flatten.length=its.length*k
 | [],_=>by simp
 | x::its,h=>by
  rw[e8r,W0,h x (by simp),U2 its λy hy=>h y (by simp[hy]),Xk,e6g];omega
theorem U3[Inhabited α]{enc:α->List Value}{k:Nat}{w:World}{b off m j:Nat}{A:Array α}{h:Array Obj}(U:j<w.heap.size)(Z:j≠b):(sortWorldK enc k w b off m A h).heap[j]?=w.heap[j]?:=by
 show ((w.heap.modify b _)++h)[j]?=_;grind
theorem d8c[Inhabited α]{enc:α->List Value}{k:Nat}{w:World}{b off m:Nat}{h:Array α}{A:Array Obj}{c:Array Value}{e:TypeId}{U:Nat×Nat}(Z:w.heap[b]?=some (.cells c e U)):(sortWorldK enc k w b off m h A).heap[b]?=some (.cells (putCells id off (flatK enc k h) c) e U):=by
 have a0:=(e6d.1 Z).1;show ((w.heap.modify b _)++A)[b]?=_;rw[Array.getElem?_append,if_pos (by grind),Array.getElem?_modify,if_pos rfl,Z];rfl
theorem a4d[Inhabited α]{enc:α->List Value}{k:Nat}{w:World}{b off m:Nat}{A:Array α}{h:Array Obj}:(sortWorldK enc k w b off m A h).heap.size=w.heap.size+h.size:=by
 show ((w.heap.modify b _)++h).size=_;simp
theorem b3e{B:Nat}{ρ:Rn}{n:Nat}{w W:World}(s:Sim B G ρ ⟨.fn g,n⟩ w){R:Nat}{l:List AV}{z b o kk:Nat}(hg:g R=some (.cells l true z))(hr:ρ R=some (b,o,kk))(hW:∀j,j<w.heap.size->j≠b->W.heap[j]?=w.heap[j]?)(a3:w.heap.size<=W.heap.size):Sim W.heap.size G ρ ⟨.fn (froz R g),n⟩ W:=by
 refine⟨λa x hx=>?_,λa a' x x' U Z k1 o2 k2 A h2 a0 a1=>?_,λa ha=>s.fresh a ha,λa x ha hx=>?_,s.names,Wy _⟩
 .obtain⟨a0,l1,own,z1,A,rfl⟩:=a4c hx;rcases s.blk a _ A with h|⟨U,Z,k1,h2,h3⟩
  .grind
  .refine .inr ⟨U,Z,k1,h2,?_⟩;have hb:U≠b:=by
    rintro rfl;exact s.inj R a _ _ U o kk Z k1 hg A (Ne.symm a0) rfl hr h2
   have a2:=h3.lt;obtain⟨c,e,fz,e1,e2,_⟩:=h3;exact⟨c,e,fz,(hW _ a2 hb).trans e1,e2,λh=>by cases h⟩
 .obtain⟨_,l1,own,z1,_,rfl⟩:=a4c A;cases a1
 .obtain⟨_,l1,own,z1,A,_⟩:=a4c hx;exact s.glob a _ ha A
theorem allOne_mem:∀{l:List AV}{x:AV},allOne l=true->x∈l->oneC x=true
 | y::l,x,h,hx=>by
  have A:(match oneC y with|true=>allOne l|false=>false)=true:=h
  cases hy:oneC y with
  | false=>grind
  | true =>
   rw[hy] at A;rcases Xb.1 hx with rfl|hx
   .exact hy
   .exact allOne_mem A hx
theorem WC.sortK{P:Program}{R:Ren}(L:SlLaysF0.n6 P R)(k:Nat)(b0:0<k)(aE:∀w,(isAgg (R.t 24)).run P w=.ok true w)(zE:∀w,(Go.sizeOf (R.t 24)).run P w=.ok k w)(c:FuncId)(ec:∀args w,(callFunc c args).run P w=.ok (.enter c args) w)
  {its:List (List AV)} (h1:∀x∈its,x.length=k/\allOne x=true) (cf:Nat->Nat->Int) (hO:SWO (ltOf cf)) {g:Gb} {n Bn z:Nat} (hg:g Bn=some (.cells its.flatten true z)) {sv:AV} (c2:(∃cp,sv=.sl Bn 0 its.length cp)\/∃d,sv=.slq Bn 0 its.length d) (b1:0<its.length) (c6:its.length<1000000)
  (c7:∀(i j:Nat)(hi:i<its.length)(A:j<its.length),WC G P c [.agg its[i],.agg its[j]] ⟨.fn (froz Bn g),n⟩ λr=>∃g' n',r=.ret (.li (cf i j)) ⟨.fn g',n'⟩) :
  WC G P (R.f 6) [sv,.lit (.func (.func c) #[] #[])] ⟨.fn g,n⟩ λr=>∃is:List Nat,is.Perm (List.range its.length)/\(∀(i j:Nat)(_:i<j)(A:j<is.length),¬ cf is[j] (is[i]'(by omega))<0)/\r=.ret (.tup []) ⟨.fn (Ak g Bn (some (.cells (is.map λi=>its.getD i []).flatten true z))),n⟩:=by
 intro B ρ us w s v;obtain⟨u1,h6,e1,a4,u2,h7,e2,a5,e3⟩:=v;subst e3 e2;have c8:us=#[u1,u2]:=Array.toList_inj.1 (by simpa using e1);subst c8;have a5:u2=.func (.func c) #[] #[]:=a5;subst a5;obtain⟨b,o,kk,a6,hr,rfl⟩:∃b o kk a6,ρ Bn=some (b,o,kk)/\u1=.slice (some ⟨b,o,none⟩) its.length a6:=by
  rcases c2 with⟨cp,rfl⟩|⟨d,rfl⟩
  .obtain⟨b,o,kk,hr,_,e⟩:=a4;grind
  .obtain⟨b,o,kk,hr,_,e⟩:=a4;grind
 have c9:=s.at (H:=⟨.fn g,n⟩) hg hr;obtain⟨c0,e,fz,hb,hc,e0⟩:=c9;obtain⟨e5,e6,e7,h8⟩:=e0 rfl;have e8:=(e6d.1 hb).1;have e9:=U2 its λx hx=>(h1 x hx).1;have a2:∀(i:Nat)(hi:i<its.length)(t:Nat)(Z:t<k),∃u,c0[o+(i*k+t)]?=some u/\u.oneCell=true/\∀v,(its[i])[t]?=some v->VR ρ v u:=by
  intro i hi t Z;have h2:=h1 _ (W2 hi);have h3:=U1 its (λx hx=>(h1 x hx).1) i hi t Z;grind[a0e,allOne_mem]
 obtain⟨m,hm⟩:∃m,its.length=m:=⟨_,rfl⟩;rw[hm] at b1 c6 e9 |-;clear a4 e1
 haveI:Inhabited (Fin m):=⟨⟨0,b1⟩⟩
 let enc:Fin m->List Value:=λi=>(List.range k).map λt=>c0[o+(i.val*k+t)]!
 have g0:∀i:Fin m,(enc i).length=k:=λi=>by simp[enc]
 have b2:∀(i:Fin m)(t:Nat),t<k->((enc i)[t]!)=c0[o+(i.val*k+t)]!:=λi t Z=>by simp[enc,Z]
 have a7:∀{j:Nat}{u:Value},c0[j]?=some u->(c0[j]!)=u:=λ{j u} h=>by
  grind
 let d:Array (Fin m):=Array.ofFn λi=>i
 have a0:d.size=m:=by simp[d]
 have g1:∀i (hi:i<m),(d[i]!)=⟨i,hi⟩:=λi hi=>by simp[d,hi]
 have g2:∀x:Fin m,∀v∈enc x,v.oneCell'=true:=by
  intro x v hv;obtain⟨t,Z,rfl⟩:=Xc.1 hv;obtain⟨u,q1,q2,_⟩:=a2 x.val (by rw[hm];exact x.isLt) t (e8a.1 Z);rw[a7 q1,a0f];exact q2
 have hH:HoldsK enc k w b o d:=by
  intro j A;rw[size_flatK,a0] at A;have b3:j / k<m:=Nat.div_lt_of_lt_mul (by rw[e9n];exact A);have b4:j % k<k:=Xp _ b0;obtain⟨u,q1,_,_⟩:=a2 (j / k) (by rw[hm];exact b3) (j % k) b4;have a3:j / k*k+j % k=j:=by rw[e9n];exact Nat.div_add_mod j k
  rw[a3] at q1;rw[get_flatK _ _ _ _ (by rw[a0];exact A),g1 _ b3,b2 _ _ b4,a3,a7 q1];grind[a0g,Qk]
 let a8:Fin m->Fin m->Int:=λx y=>cf x.val y.val
 have g3:SWO (ltOf a8):=⟨λx=>hO.irrefl x.val,λx y z=>hO.trans x.val y.val z.val,λx y z=>hO.ntrans x.val y.val z.val⟩;have b5:∀x:Fin m,VRs ρ (its[x.val]'(by grind)) (enc x):=by
  intro x;refine Yw (by grind) λt v hv=>?_;grind
 have hC:CmpLays P c #[] enc k a8 b o d.size w:=by
  intro m2 os dk h9 x y;have g4:=b3e s hg hr (W:=sortWorldK enc k w b o m2 dk os) (λj A a9=>U3 A a9) (by simp[a4d]);have i0:=c7 x.val y.val (by grind) (by grind) _ ρ #[.agg (enc x).toArray,.agg (enc y).toArray] _ g4 ⟨_,_,rfl,⟨_,rfl,by simpa using b5 x⟩,_,_,rfl,⟨_,rfl,by simpa using b5 y⟩,rfl⟩;refine Calls.mono (by assumption) ?_;rintro e w' ⟨r,⟨g',n',rfl⟩,b6⟩
  cases e with
  | returned u =>
   obtain⟨i1,q1,q2,q3,q4⟩:=b6;refine⟨?_,b3d q1.below q1.keeps.2⟩;have:u=_:=q3;rw[this]
  | _=>exact b6.elim
 have b7:=AnyQ.slices_SortFunc L k aE zE enc g0 g2 a8 g3 c #[] b o a6 d w ec hC hH e8 (by rw[a0];omega);rw[a0] at b7;refine b7.mono ?_;rintro e' w' ⟨rfl,U,n2,os,hp,g5,rfl⟩;have a1:U.size=m:=by rw[hp.1,a0]
 have g6:U.toList.Perm d.toList:=by
  have:=hp.2.2
  rwa [show U.extract 0 m=U from (congrArg (λz=>U.extract 0 z) a1.symm).trans e9l,show d.extract 0 m=d from (congrArg (λz=>d.extract 0 z) a0.symm).trans e9l] at this
 have g7:d.toList.map Fin.val=List.range m:=by
  apply e9k
  .simp[d]
  .intro i h2 h3;simp[d]
 have b8:(U.toList.map Fin.val).length=m:=by simp[a1]
 have b9:∀q (hq:q<m),(U.toList.map Fin.val)[q]'(by rw[b8];exact hq)=(U[q]!).val:=by
  intro q hq;simp[a1,hq]
 refine⟨_,⟨U.toList.map Fin.val,g7 ▸ g6.map _,λi j g8 A=>?_,rfl⟩,?_⟩
 .rw[b8] at A;rw[b9 j A,b9 i (by omega)];have:=g5 i j (W3 _) g8 A;grind[ltOf]
 .have i2:((U.toList.map Fin.val).map λi=>its.getD i []).flatten.length=m*k:=by
   rw[U2 (k:=k)]
   all_goals simp_all
  have g9:KD w (sortWorldK enc k w b o n2 U os):=⟨λj ob A ho=>by
   have h0:=(e6d.1 A).1;by_cases c1:j=b
   .subst c1;rw[hb] at A;cases A;cases ho
   .rw[U3 h0 c1];exact A,e8h _ _⟩
  have h4:Below B w (sortWorldK enc k w b o n2 U os):=⟨rfl,rfl,rfl,by simp[a4d],λj A=>U3 (Xm A s.base) (by omega)⟩;refine⟨ρ,⟨λ_ _=>rfl,g9,h4⟩,?_,⟨_,rfl,rfl⟩,Wy _⟩;refine Sim.set (H:=⟨.fn g,n⟩) s (x:=.cells its.flatten true z) (y:=.cells ((U.toList.map Fin.val).map λi=>its.getD i []).flatten true z) hg hr rfl rfl (by simp[a4d]) (λj a9 A=>U3 A a9) ?_;refine⟨_,e,fz,d8c hb,λi v hv=>?_,λ_=>⟨e5,λj A=>e6 j (by grind[putCells]),by simpa[putCells] using e7,?_⟩⟩
  .have hi:i<m*k:=by
    grind
   have hq:i / k<m:=Nat.div_lt_of_lt_mul (by rw[e9n];exact hi);have Z:i % k<k:=Xp _ b0;have a3:i / k*k+i % k=i:=by rw[e9n];exact Nat.div_add_mod i k
   obtain⟨u0,p1,_,_⟩:=a2 (i / k) (by rw[hm];exact hq) (i % k) Z;rw[a3] at p1;obtain⟨u,q1,_,q3⟩:=a2 (U[i / k]!).val (by rw[hm];exact(U[i / k]!).isLt) (i % k) Z;refine⟨u,?_,q3 v ?_⟩
   .unfold putCells;rw[Array.getElem?_mapIdx,p1,e8s,if_pos ⟨by omega,by rw[size_flatK,a1];omega⟩,Nat.add_sub_cancel_left,get_flatK _ _ _ _ (by rw[a1];exact hi),b2 _ _ Z,a7 q1];rfl
   .have h5:=U1 (k:=k) ((U.toList.map Fin.val).map λi=>its.getD i []) (λx hx=>by
     obtain⟨i,hi,rfl⟩:=Xc.1 hx;obtain⟨q,_,rfl⟩:=Xc.1 hi;simp_all) (i / k) (by simp[a1];exact hq) (i % k) Z
    simp_all
  grind
theorem U4[Inhabited α]{enc:α->Value}{w:World}{b off m j:Nat}{A:Array α}{h:Array Obj}(U:j<w.heap.size)(Z:j≠b):(sortWorld enc w b off m A h).heap[j]?=w.heap[j]?:=by
 show ((w.heap.modify b _)++h)[j]?=_;grind
theorem d8d[Inhabited α]{enc:α->Value}{w:World}{b off m:Nat}{h:Array α}{A:Array Obj}{c:Array Value}{e:TypeId}{U:Nat×Nat}(Z:w.heap[b]?=some (.cells c e U)):(sortWorld enc w b off m h A).heap[b]?=some (.cells (putCells enc off h c) e U):=by
 have a0:=(e6d.1 Z).1;show ((w.heap.modify b _)++A)[b]?=_;rw[Array.getElem?_append,if_pos (by grind),Array.getElem?_modify,if_pos rfl,Z];rfl
theorem a4e[Inhabited α]{enc:α->Value}{w:World}{b off m:Nat}{A:Array α}{h:Array Obj}:(sortWorld enc w b off m A h).heap.size=w.heap.size+h.size:=by
 show ((w.heap.modify b _)++h).size=_;simp
theorem WC.sort1{P:Program}{R:Ren}(L:SlLaysF.n6 P R)(c:FuncId)(ec:∀args w,(callFunc c args).run P w=.ok (.enter c args) w)
  {its:List AV} (h1:allOne its=true) (cf:Nat->Nat->Int) (hO:SWO (ltOf cf)) {g:Gb} {n Bn z:Nat} (hg:g Bn=some (.cells its true z)) {sv:AV} (b5:(∃cp,sv=.sl Bn 0 its.length cp)\/∃d,sv=.slq Bn 0 its.length d) (a7:0<its.length) (b6:its.length<1000000)
  (b7:∀(i j:Nat)(hi:i<its.length)(A:j<its.length),WC G P c [its[i],its[j]] ⟨.fn (froz Bn g),n⟩ λr=>∃g' n',r=.ret (.li (cf i j)) ⟨.fn g',n'⟩) :
  WC G P (R.f 6) [sv,.lit (.func (.func c) #[] #[])] ⟨.fn g,n⟩ λr=>∃is:List Nat,is.Perm (List.range its.length)/\(∀(i j:Nat)(_:i<j)(A:j<is.length),¬ cf is[j] (is[i]'(by omega))<0)/\r=.ret (.tup []) ⟨.fn (Ak g Bn (some (.cells (is.map λi=>its.getD i (.lit undef)) true z))),n⟩:=by
 intro B ρ us w s v;obtain⟨u1,g5,e1,a2,u2,g6,e2,a3,e3⟩:=v;subst e3 e2;have b8:us=#[u1,u2]:=Array.toList_inj.1 (by simpa using e1);subst b8;have a3:u2=.func (.func c) #[] #[]:=a3;subst a3;obtain⟨b,o,kk,a4,hr,rfl⟩:∃b o kk a4,ρ Bn=some (b,o,kk)/\u1=.slice (some ⟨b,o,none⟩) its.length a4:=by
  rcases b5 with⟨cp,rfl⟩|⟨d,rfl⟩
  .obtain⟨b,o,kk,hr,_,e⟩:=a2;grind
  .obtain⟨b,o,kk,hr,_,e⟩:=a2;grind
 have b9:=s.at (H:=⟨.fn g,n⟩) hg hr;obtain⟨c0,e,fz,hb,hc,c1⟩:=b9;obtain⟨c2,c6,c7,g7⟩:=c1 rfl;have c8:=(e6d.1 hb).1;have a8:∀(i:Nat)(hi:i<its.length),∃u,c0[o+i]?=some u/\u.oneCell=true/\VR ρ its[i] u:=by
  intro i hi;obtain⟨u,Z,q2⟩:=hc i _ (W6 hi);exact⟨u,Z,a0e q2 (allOne_mem h1 (W2 _)),q2⟩
 obtain⟨m,hm⟩:∃m,its.length=m:=⟨_,rfl⟩;rw[hm] at a7 b6 |-;clear a2 e1
 haveI:Inhabited (Fin m):=⟨⟨0,a7⟩⟩
 let enc:Fin m->Value:=λi=>c0[o+i.val]!
 have c9:∀{j:Nat}{u:Value},c0[j]?=some u->(c0[j]!)=u:=λ{j u} h=>by
  grind
 let d:Array (Fin m):=Array.ofFn λi=>i
 have a0:d.size=m:=by simp[d]
 have g8:∀i (hi:i<m),(d[i]!)=⟨i,hi⟩:=λi hi=>by simp[d,hi]
 have e0:OneCell enc:=by
  intro x;grind[a0f]
 have hH:Holds enc w b o d:=by
  intro j A;grind[a0g,Qk]
 let a1:Fin m->Fin m->Int:=λx y=>cf x.val y.val
 have e5:SWO (ltOf a1):=⟨λx=>hO.irrefl x.val,λx y z=>hO.trans x.val y.val z.val,λx y z=>hO.ntrans x.val y.val z.val⟩;have a9:∀x:Fin m,VR ρ (its[x.val]'(by grind)) (enc x):=by
  grind
 have hC:CmpLays1 P c #[] enc a1 b o d.size w:=by
  intro m2 os dk g9 x y;have e6:=b3e s hg hr (W:=sortWorld enc w b o m2 dk os) (λj A a5=>U4 A a5) (by simp[a4e]);have e7:=b7 x.val y.val (by rw[hm];exact x.isLt) (by rw[hm];exact y.isLt) _ ρ #[enc x,enc y] _ e6 ⟨_,_,rfl,a9 x,_,_,rfl,a9 y,rfl⟩;refine Calls.mono (by simpa using e7) ?_;rintro e w' ⟨r,⟨g',n',rfl⟩,b0⟩
  cases e with
  | returned u =>
   obtain⟨h0,Z,q2,q3,q4⟩:=b0;refine⟨?_,b3d Z.below Z.keeps.2⟩;have:u=_:=q3;rw[this]
  | _=>exact b0.elim
 have b1:=Any.slices_SortFunc L enc e0 a1 e5 c #[] b o a4 d w ec hC hH c8 (by rw[a0];omega);rw[a0] at b1;refine b1.mono ?_;rintro e' w' ⟨rfl,U,n2,os,hp,e8,rfl⟩;have a6:U.size=m:=by rw[hp.1,a0]
 have e9:U.toList.Perm d.toList:=by
  have:=hp.2.2
  rwa [show U.extract 0 m=U from (congrArg (λz=>U.extract 0 z) a6.symm).trans e9l,show d.extract 0 m=d from (congrArg (λz=>d.extract 0 z) a0.symm).trans e9l] at this
 have g0:d.toList.map Fin.val=List.range m:=by
  apply e9k
  .simp[d]
  .intro i h2 h3;simp[d]
 have b2:(U.toList.map Fin.val).length=m:=by simp[a6]
 have b3:∀q (hq:q<m),(U.toList.map Fin.val)[q]'(by rw[b2];exact hq)=(U[q]!).val:=by
  grind
 refine⟨_,⟨U.toList.map Fin.val,g0 ▸ e9.map _,λi j g1 A=>?_,rfl⟩,?_⟩
 .rw[b2] at A;rw[b3 j A,b3 i (by omega)];have:=e8 i j (W3 _) g1 A;unfold ltOf at this;simpa[a1] using this
 .have g2:KD w (sortWorld enc w b o n2 U os):=⟨λj ob A ho=>by
   have g3:=(e6d.1 A).1;by_cases b4:j=b
   .subst b4;rw[hb] at A;cases A;cases ho
   .rw[U4 g3 b4];exact A,e8h _ _⟩
  have g4:Below B w (sortWorld enc w b o n2 U os):=⟨rfl,rfl,rfl,by simp[a4e],λj A=>U4 (Xm A s.base) (by omega)⟩;refine⟨ρ,⟨λ_ _=>rfl,g2,g4⟩,?_,⟨_,rfl,rfl⟩,Wy _⟩;refine Sim.set (H:=⟨.fn g,n⟩) s (x:=.cells its true z) (y:=.cells ((U.toList.map Fin.val).map λi=>its.getD i (.lit undef)) true z) hg hr rfl rfl (by simp[a4e]) (λj a5 A=>U4 A a5) ?_;refine⟨_,e,fz,d8d hb,λi v hv=>?_,λ_=>⟨c2,λj A=>c6 j (by simpa[putCells] using A),by simpa[putCells] using c7,?_⟩⟩
  .have hi:i<m:=by
    grind
   obtain⟨u0,p1,_,_⟩:=a8 i (by rw[hm];exact hi);obtain⟨u,Z,_,q3⟩:=a8 (U[i]!).val (by rw[hm];exact(U[i]!).isLt);refine⟨u,?_,?_⟩
   .unfold putCells;rw[Array.getElem?_mapIdx,p1,e8s,if_pos ⟨by omega,by rw[a6];omega⟩,Nat.add_sub_cancel_left];exact congrArg some (c9 Z)
   simp_all
  grind
end
section
variable {B G:Nat}{P:Program}{ρ:Rn}{H:Mem}{w:World}
structure Cut where
 f:Nat
 n:Nat
 args:List AV
 base:List (Nat×List AV)
 v:AV
 news:List (Nat×Blk)
 n1:Nat
mutual
def inV(p:Nat->Bool):AV->Bool
 | .lit _=>true
 | .es=>true
 | .ptr a _=>p a
 | .sl a _ _ _=>p a
 | .slq a _ _ _=>p a
 | .map a=>p a
 | .func _ x y=>inL p x&&inL p y
 | .iface _ v=>inV p v
 | .agg l=>inL p l
 | .tup l=>inL p l
def inL (p:Nat->Bool):List AV->Bool
 | []=>true
 | v::l=>inV p v&&inL p l
end
def only(p:Nat->Bool)(ρ:Rn):Rn:=λa=>if p a=true then ρ a else none
theorem Mm{p:Nat->Bool}{a:Nat}{ρ:Rn}(h:p a=true):only p ρ a=ρ a:=if_pos h
mutual
theorem R3{p:Nat->Bool}{ρ:Rn}:∀{v:AV}{u:Value},inV p v=true->VR ρ v u->VR (only p ρ) v u
 | .lit _,_,_,r=>r
 | .es,_,_,r=>r
 | .ptr a _,_,h,⟨b,o,k,e,r⟩=>⟨b,o,k,(Mm (by simpa[inV] using h)).trans e,r⟩
 | .sl a _ _ _,_,h,⟨b,o,k,e,r⟩=>⟨b,o,k,(Mm (by simpa[inV] using h)).trans e,r⟩
 | .slq a _ _ _,_,h,⟨b,o,k,e,r⟩=>⟨b,o,k,(Mm (by simpa[inV] using h)).trans e,r⟩
 | .map a,_,h,⟨b,o,k,e,r⟩=>⟨b,o,k,(Mm (by simpa[inV] using h)).trans e,r⟩
 | .func _ _ _,_,h,⟨A,U,e,r,q⟩=>by
  simp only[inV,W1] at h;exact⟨A,U,e,in_VRs h.1 r,in_VRs h.2 q⟩
 | .iface _ _,_,h,⟨u',e,r⟩=>⟨u',e,R3 (by simpa[inV] using h) r⟩
 | .agg _,_,h,⟨cs,e,r⟩=>⟨cs,e,in_VRs (by simpa[inV] using h) r⟩
 | .tup _,_,h,⟨cs,e,r⟩=>⟨cs,e,in_VRs (by simpa[inV] using h) r⟩
theorem in_VRs {p:Nat->Bool} {ρ:Rn}:∀{l:List AV}{us:List Value},inL p l=true->VRs ρ l us->VRs (only p ρ) l us
 | [],_,_,r=>r
 | _::_,_,h,⟨u,Z,e,r,q⟩=>by
  simp only[inL,W1] at h;exact⟨u,Z,e,R3 h.1 r,in_VRs h.2 q⟩
end
theorem a4f{p:Nat->Bool}:∀{l:List AV}{i:Nat}{v:AV},inL p l=true->l[i]?=some v->inV p v=true
 | [],i,v,_,h=>by grind
 | y::l,0,v,A,h=>by simp_all[inL]
 | y::l,i+1,v,A,h=>by simp only[inL,W1] at A;exact a4f A.2 (by simpa using h)
noncomputable def baseT:List (Nat×List AV)->T4 Blk->T4 Blk
 | [],t=>t
 | (a,l)::r,t=>P3 t a (.v a (.cells l false 0)) (baseT r)
noncomputable def N3(c:Cut):Mem:=⟨.tr (baseT c.base e4),c.n⟩
noncomputable def R4(H:Mem):List (Nat×List AV)->Bool
 | []=>true
 | (a,l)::r=>match H.get a with
  | some (.cells l' _ _)=>match eqAVs l' l with|true=>R4 H r|false=>false
  | _=>false
noncomputable def Pl(n1:Nat):List (Nat×Blk)->Mem->Mem
 | [],H=>⟨H.t,n1⟩
 | (a,b)::r,H=>H.setK a b (Pl n1 r)
noncomputable def Mn(H:Mem)(n:Nat)(p:Nat->Bool):List (Nat×Blk)->Bool
 | []=>true
 | (a,.cells l true z)::r=>match H.get a with
  | some b=>eqBlk b (.cells l true z)&&(Nat.ble n a&&(inL p l&&Mn H n p r))
  | none=>false
 | _=>false
def Ey(n:Nat)(l:List (Nat×Blk))(a:Nat):Bool:=match Nat.blt a n with|true=>true|false=>Gp a (l.map (·.1))
noncomputable def U5(c:Cut)(r:A1):Bool:=match r with
 | .ret v H=>eqAV v c.v&&(Nat.beq H.next c.n1&&(inV (Ey c.n c.news) c.v&&Mn H c.n (Ey c.n c.news) c.news))
 | _=>false
noncomputable def Kz(c:Cut)(args:List AV)(H:Mem):A1:=match eqAVs args c.args,R4 H c.base with
 | true,true=>.ret c.v (Pl c.n1 c.news H)
 | _,_=>.bad
noncomputable def R5(O:CallF)(l:List Cut):CallF:=
 List.rec (motive:=λ_=>CallF) O (λc _ ih f a H=>match Nat.beq f c.f with
  | true=>match Nat.beq H.next c.n with
   | true=>Kz c a H
   | false=>ih f a H
  | false=>ih f a H) l
theorem baseT_get:∀{l:List (Nat×List AV)} {t:T4 Blk} {a:Nat} {x:Blk},E2 (baseT l t) a=some x->(∃cs,(a,cs)∈l/\x=.cells cs false 0)\/E2 t a=some x
 | [],t,a,x,h=>.inr h
 | (b,cs)::r,t,a,x,h=>by
  unfold baseT at h;rw[S7] at h;rcases baseT_get h with⟨A,U,hx⟩|h
  .grind
  .rcases a0c _ _ _ _ _ h with⟨rfl,rfl⟩|⟨_,h⟩
   all_goals grind
theorem covers_spec:∀{l:List (Nat×List AV)},R4 H l=true->∀a cs,(a,cs)∈l->∃own z,H.get a=some (.cells cs own z)
 | (b,a1)::r,h,a,cs,A=>by
  unfold R4 at h;split at h
  .rename_i l' own z U;split at h
   .rename_i Z;have a0:=eqAVs_sound _ _ Z;subst a0;rcases Xb.1 A with e|A
    .cases e;exact⟨own,z,U⟩
    .exact covers_spec h a cs A
   .cases h
  .cases h
theorem Pm{A:Nat}:∀{l:List (Nat×Blk)} {H:Mem} {a:Nat} {x:Blk},(Pl A l H).get a=some x->(a,x)∈l\/(H.get a=some x/\∀y,(a,y) ∉ l)
 | [],H,a,x,h=>.inr ⟨h,λy hy=>by grind⟩
 | (b,y)::r,H,a,x,h=>by
  unfold Pl at h;rw[Yd] at h;rcases Pm h with h|⟨h,U⟩
  .grind
  .rcases Yf h with⟨rfl,rfl⟩|⟨Z,h⟩
   all_goals grind
theorem U6{h:Nat}:∀{l:List (Nat×Blk)} {H:Mem},(Pl h l H).next=h
 | [],H=>rfl
 | (b,y)::r,H=>by unfold Pl;rw[Yd];exact U6
theorem R6{n:Nat}{p:Nat->Bool}:∀{l:List (Nat×Blk)},Mn H n p l=true->∀a x,(a,x)∈l->H.get a=some x/\n<=a/\∃cs z,x=.cells cs true z/\inL p cs=true
 | (b,y)::r,h,a,x,A=>by
  cases y with
  | cells cs own z =>
   cases own with
   | false=>grind[Mn]
   | true =>
    unfold Mn at h;split at h
    .rename_i b' U;simp only[W1] at h;obtain⟨Z,h2,h3,h4⟩:=h;rcases Xb.1 A with e|A
     .cases e;exact⟨U.trans (congrArg some (a0u Z)),Wz h2,cs,z,rfl,h3⟩
     .exact R6 h4 a x A
    grind
  | map _ _=>grind[Mn]
  | siter _ _=>grind[Mn]
  | typ _ _ _=>grind[Mn]
theorem BR.only{p:Nat->Bool}{cs:List AV}{own:Bool}{z b o k B': Nat}(h:BR B' ρ (.cells cs own z) b o k w)(hp:inL p cs=true)(Z:B<=B'):BR B (only p ρ) (.cells cs own z) b o k w:=by
 obtain⟨c,e,fz,h1,h2,A⟩:=h;refine⟨c,e,fz,h1,λi v hi=>?_,λU=>⟨Xa Z (A U).1,(A U).2⟩⟩;grind[a4f,R3]
theorem d8e{O:CallF}{c:Cut}(hO:∀B,A8 B G P O)(a0:U5 c (O c.f c.args (N3 c))=true)(args:List AV)(H:Mem)(a7:H.next=c.n)(h:Kz c args H≠.bad):WC G P c.f args H λr=>r=Kz c args H:=by
 unfold Kz at h |-;split at h
 .rename_i ha b6;have b7:=eqAVs_sound _ _ ha;subst b7
  cases hr:O c.f c.args (N3 c) with
  | ret v H1 =>
   rw[hr] at a0;simp only[U5,W1] at a0;obtain⟨b1,a8,b8,a4⟩:=a0;have b1:=eqAV_sound _ _ b1;have a8:=Xe a8;intro B ρ us w s hv;have s2:Sim w.heap.size G ρ (N3 c) w:=by
    have U:∀a x,(N3 c).get a=some x->∃cs own z,x=.cells cs false 0/\H.get a=some (.cells cs own z):=by
     intro a x hx;rcases baseT_get (show E2 (baseT c.base e4) a=some x from hx) with⟨cs,U,rfl⟩|hx
     .obtain⟨own,z,hg⟩:=covers_spec b6 a cs U;grind
     grind[S8]
    refine⟨λa x hx=>?_,λa a' x x' b o k o' k' hx _ _ a5=>?_,λa ha=>s.fresh a (by rw[a7];exact ha),λa x a1 hx=>?_,by show G<=c.n;rw[<- a7];exact s.names,Wy _⟩
    .obtain⟨cs,own,z,rfl,hg⟩:=U a x hx;rcases s.blk a _ hg with hn|⟨b,o,k,h1,c',e,fz,Z,h3,_⟩
     .grind
     .exact .inr ⟨b,o,k,h1,c',e,fz,Z,h3,λh=>by cases h⟩
    .obtain⟨cs,own,z,rfl,hg⟩:=U a x hx;cases a5
    .obtain⟨cs,own,z,rfl,hg⟩:=U a x hx;exact s.glob a _ a1 hg
   refine(hO w.heap.size c.f c.args (N3 c) (by grind) ρ us w s2 hv).mono ?_;intro e w' hc;rw[hr] at hc;refine⟨_,rfl,?_⟩
   cases e with
   | returned u =>
    obtain⟨A,a3,a9,c2,b9⟩:=hc;have c6:c.n<=H1.next:=b9;have a6:∀a,a<c.n->only (Ey c.n c.news) A a=ρ a:=by
     intro a ha;rw[Mm (by grind[Ey,Nat.ble_eq_true_of_le,Nat.blt])];exact a3.same a ha
    have c0:∀a x,(a,x)∈c.news->only (Ey c.n c.news) A a=A a:=by
     intro a x U;refine Mm ?_;unfold Ey;split
     .rfl
     .exact Ur (Xc.2 ⟨_,U,rfl⟩)
    have c7:∀a y,only (Ey c.n c.news) A a=some y->a<c.n\/∃x,(a,x)∈c.news:=by
     intro a y hy;unfold only at hy;split at hy
     .rename_i hk;unfold Ey at hk;split at hk
      .simp_all
      .refine .inr ?_;have key:∀(l:List (Nat×Blk)),Gp a (l.map (·.1))=true->∃x,(a,x)∈l:=by
        intro l
        induction l with
        | nil=>intro h;cases h
        | cons q l ih =>
         grind[Gp,Nat.eq_of_beq_eq_true]
       grind
     grind
    have c1:VR A c.v u:=by grind
    refine⟨only (Ey c.n c.news) A,⟨λa ha=>a6 a (by grind),a3.keeps,a3.below.mono s.base⟩,?_,R3 b8 c1,by grind[U6]⟩;have c8:∀a x,H.get a=some x->a<c.n->only (Ey c.n c.news) A a=none\/∃b o k,ρ a=some (b,o,k)/\only (Ey c.n c.news) A a=some (b,o,k)/\b<w.heap.size/\BR B (only (Ey c.n c.news) A) x b o k w':=by
     intro a x hx a1;rcases s.blk a x hx with hn|⟨b,o,k,h1,Z⟩
     .grind
     .refine .inr ⟨b,o,k,h1,(a6 a a1).trans h1,Z.lt,Z.mono (λa' y hy=>?_) (a3.below.block b Z.lt)⟩;rw[a6 a' (by rw[<- a7];exact s.lt_next hy)];grind
    have c9:∀a x,(a,x)∈c.news->only (Ey c.n c.news) A a=none\/∃b o k,A a=some (b,o,k)/\only (Ey c.n c.news) A a=some (b,o,k)/\w.heap.size<=b/\BR B (only (Ey c.n c.news) A) x b o k w':=by
     intro a x U;obtain⟨h1,Z,cs,z,rfl,h3⟩:=R6 a4 a x U;rcases a9.blk a _ h1 with hn|⟨b,o,k,h4,h5⟩
     .grind
     .exact .inr ⟨b,o,k,h4,(c0 a _ U).trans h4,h5.above rfl,h5.only h3 s.base⟩
    refine⟨λa x hx=>?_,λa a' x x' b o k o' k' hx a2 b2 a5 b3 b4=>?_,λa ha=>?_,λa x a1 hx=>?_,by rw[U6,<- a8];exact Xa s.names (by grind),Xa s.base a3.below.size⟩
    .rcases Pm hx with U|⟨hx,e0⟩
     .grind
     .rcases e6z a c.n with a1|e1
      .grind
      .cases hy:only (Ey c.n c.news) A a with
       | none=>grind
       | some y =>
        grind
    .have old:∀a x y,H.get a=some x->(∀y,(a,y) ∉ c.news)->only (Ey c.n c.news) A a=some y->ρ a=some y/\y.1<w.heap.size:=by
      grind
     have new:∀a x y,(a,x)∈c.news->only (Ey c.n c.news) A a=some y->A a=some y/\w.heap.size<=y.1:=by
      grind
     rcases Pm hx with U|⟨hx,hn⟩
     .have h1:=new a x _ U b3;rcases Pm a2 with b0|⟨a2,b5⟩
      .have Z:=new a' x' _ b0 b4;exact a9.inj a a' x x' b o k o' k' (R6 a4 a x U).1 (R6 a4 a' x' b0).1 b2 a5 h1.1 Z.1
      grind
     .have h1:=old a x _ hx hn b3;rcases Pm a2 with b0|⟨a2,b5⟩
      .grind
      .have Z:=old a' x' _ a2 b5 b4;exact s.inj a a' x x' b o k o' k' hx a2 b2 a5 h1.1 Z.1
    .rw[U6] at ha;unfold only;split
     .exact a9.fresh a (by grind)
     .rfl
    .rcases Pm hx with U|⟨hx,hn⟩
     .have h1:=(R6 a4 a x U).2.1;have Z:=s.names;omega
     .rw[a6 a (by have Z:=s.names;omega)];exact s.glob a x a1 hx
   | _=>assumption
  | panic v H1=>rw[hr] at a0;cases a0
  | bad=>rw[hr] at a0;cases a0
 grind
theorem b3f{O:CallF}(Z:∀B,A8 B G P O):∀{l:List Cut},(∀c∈l,∀args H,H.next=c.n->Kz c args H≠.bad->WC G P c.f args H λr=>r=Kz c args H)->∀B,A8 B G P (R5 O l)
 | [],_,B=>Z B
 | c::l,h,B=>by
  have ih:=b3f Z (l:=l) (λc' a0=>h c' (e6o _ a0));intro f args H A ρ us w s U
  have he:R5 O (c::l) f args H=match Nat.beq f c.f with
   | true=>match Nat.beq H.next c.n with
    | true=>Kz c args H
    | false=>R5 O l f args H
   | false=>R5 O l f args H:=rfl
  rw[he] at A |-;split at A
  .rename_i hf;split at A
   .rename_i hn;have a1:=Xe hf;subst a1;refine(h c (e9h ..) args H (Xe hn) A B ρ us w s U).mono ?_;grind
   .exact ih B f args H A ρ us w s U
  .exact ih B f args H A ρ us w s U
structure Gt where
 f:Nat
 args:List AV
 base:List (Nat×List AV)
 v:AV
noncomputable def N4(G n:Nat)(c:Gt):Mem:=⟨.tr (baseT c.base e4),n⟩
def named(c:Gt)(a:Nat):Bool:=Gp a (c.base.map (·.1))
def U7(n:Nat)(p:Nat->Bool):List (Nat×List AV)->Bool
 | []=>true
 | (a,l)::r=>Nat.blt a n&&(inL p l&&U7 n p r)
noncomputable def U8(G n:Nat)(c:Gt)(r:A1):Bool:=match r with
 | .ret v _=>eqAV v c.v&&(plainV c.v&&(inL (named c) c.args&&(U7 n (named c) c.base&&Nat.ble G n)))
 | _=>false
noncomputable def Mo(c:Gt)(args:List AV)(H:Mem):A1:=match eqAVs args c.args with
 | true=>match R4 H c.base with
  | true=>.ret c.v H
  | false=>.bad
 | false=>.bad
noncomputable def R7(O:CallF)(l:List Gt):CallF:=
 List.rec (motive:=λ_=>CallF) O (λc _ ih f a H=>match Nat.beq f c.f with
  | true=>orR (Mo c a H) (ih f a H)
  | false=>ih f a H) l
theorem a4g{n:Nat}{p:Nat->Bool}:∀{l:List (Nat×List AV)},U7 n p l=true->∀a cs,(a,cs)∈l->a<n/\inL p cs=true
 | (b,m)::r,h,a,cs,A=>by
  simp only[U7,W1] at h;rcases Xb.1 A with e|A
  .simp_all
  .exact a4g h.2.2 a cs A
theorem b3g{a:Nat}:∀{l:List Nat},Gp a l=true->a∈l
 | b::l,h=>by
  unfold Gp at h;split at h
  .rename_i A;rw[Xe A];exact e9h ..
  .exact e6o _ (b3g h)
theorem d8f{O:CallF}{c:Gt}{n:Nat}(hO:∀B,A8 B G P O)(A:U8 G n c (O c.f c.args (N4 G n c))=true)(args:List AV)(H:Mem)(h:Mo c args H≠.bad):WC G P c.f args H λr=>r=Mo c args H:=by
 unfold Mo at h |-;split at h
 .rename_i ha;split at h
  .rename_i a3;have a1:=eqAVs_sound _ _ ha;subst a1
   cases hr:O c.f c.args (N4 G n c) with
   | ret v H1 =>
    rw[hr] at A;simp only[U8,W1] at A;obtain⟨a0,a4,a5,a2,hG⟩:=A;have a0:=eqAV_sound _ _ a0;intro B ρ us w s hv;have U:∀a x,(N4 G n c).get a=some x->∃cs own z,x=.cells cs false 0/\H.get a=some (.cells cs own z)/\a<n/\inL (named c) cs=true/\named c a=true:=by
     intro a x hx;rcases baseT_get (show E2 (baseT c.base e4) a=some x from hx) with⟨cs,U,rfl⟩|hx
     .obtain⟨own,z,Z⟩:=covers_spec a3 a cs U;obtain⟨h1,h2⟩:=a4g a2 a cs U;exact⟨cs,own,z,rfl,Z,h1,h2,Ur (Xc.2 ⟨_,U,rfl⟩)⟩
     grind[S8]
    have s2:Sim w.heap.size G (only (named c) ρ) (N4 G n c) w:=by
     refine⟨λa x hx=>?_,λa a' x x' b o k o' k' hx _ _ a6=>?_,λa ha=>?_,λa x a7 hx=>?_,Wz hG,Wy _⟩
     .obtain⟨cs,own,z,rfl,Z,h1,h2,h3⟩:=U a x hx;rw[Mm h3];rcases s.blk a _ Z with hn|⟨b,o,k,h4,c',e,fz,h5,h6,_⟩
      .grind
      .refine .inr ⟨b,o,k,h4,c',e,fz,h5,λi v hi=>?_,λh=>by cases h⟩;grind[a4f,R3]
     .obtain⟨cs,own,z,rfl,Z,_⟩:=U a x hx;cases a6
     .unfold only;split
      .rename_i hk;obtain⟨q,hq,e⟩:=Xc.1 (b3g hk);have:=(a4g a2 q.1 q.2 hq).1;have a1:n<=a:=ha;omega
      .rfl
     .obtain⟨cs,own,z,rfl,Z,h1,h2,h3⟩:=U a x hx;rw[Mm h3];exact s.glob a _ a7 Z
    refine(hO w.heap.size c.f c.args (N4 G n c) (by grind) _ us w s2 (in_VRs a5 hv)).mono ?_;intro e w' hc;rw[hr] at hc;refine⟨_,rfl,?_⟩
    cases e with
    | returned x =>
     obtain⟨a9,h1,h2,h3,h4⟩:=hc;have hb:=h1.below;rw[a0] at h3;refine⟨ρ,⟨λ_ _=>rfl,h1.keeps,hb.mono s.base⟩,?_,Jo a4 h3,Wy _⟩;refine s.other hb.size λa x b o k ha a8=>?_;exact hb.block b (s.at ha a8).lt
    | panicked b0=>assumption
    | outgrown=>assumption
   | panic v H1=>rw[hr] at A;cases A
   | bad=>rw[hr] at A;cases A
  grind
 grind
/- Groups. -/
def Ek(G:Nat)(P:Program)(l:List Cut):Prop:=∀c∈l,∀args H,H.next=c.n->Kz c args H≠.bad->WC G P c.f args H λr=>r=Kz c args H
def Gu(G:Nat)(P:Program)(l:List Gt):Prop:=∀c∈l,∀args H,Mo c args H≠.bad->WC G P c.f args H λr=>r=Mo c args H
theorem Ek.nil:Ek G P []:=λc h=>by cases h
theorem Gu.nil:Gu G P []:=λc h=>by cases h
theorem Ek.append{l m:List Cut}(h:Ek G P l)(k:Ek G P m):Ek G P (l++m):=λc A=>(W9.1 A).elim (h c) (k c)
theorem Gu.append{l m:List Gt}(h:Gu G P l)(k:Gu G P m):Gu G P (l++m):=λc A=>(W9.1 A).elim (h c) (k c)
noncomputable def N5(O:CallF)(l:List Cut):Bool:=List.rec (motive:=λ_=>Bool) true (λc _ ih=>U5 c (O c.f c.args (N3 c))&&ih) l
noncomputable def a4h(G n:Nat)(O:CallF)(l:List Gt):Bool:=List.rec (motive:=λ_=>Bool) true (λc _ ih=>U8 G n c (O c.f c.args (N4 G n c))&&ih) l
theorem Ek.run{O:CallF}(Z:∀B,A8 B G P O):∀{l:List Cut},N5 O l=true->Ek G P l
 | [],_=>.nil
 | c::l,h=>by
  have A:(U5 c (O c.f c.args (N3 c))&&N5 O l)=true:=h;rw[W1] at A;intro c' U;rcases Xb.1 U with rfl|U
  .exact d8e Z A.1
  .exact Ek.run Z A.2 c' U
theorem Gu.run{n:Nat}{O:CallF}(Z:∀B,A8 B G P O):∀{l:List Gt},a4h G n O l=true->Gu G P l
 | [],_=>.nil
 | c::l,h=>by
  have A:(U8 G n c (O c.f c.args (N4 G n c))&&a4h G n O l)=true:=h;rw[W1] at A;intro c' U;rcases Xb.1 U with rfl|U
  .exact d8f Z A.1
  .exact Gu.run Z A.2 c' U
theorem b3h{O:CallF}(hO:∀B,A8 B G P O):∀{l:List Gt},Gu G P l->∀B,A8 B G P (R7 O l)
 | [],_,B=>hO B
 | c::l,h,B=>by
  have ih:=b3h hO (l:=l) (λc' a0=>h c' (e6o _ a0));intro f args H A ρ us w s Z
  have he:R7 O (c::l) f args H=match Nat.beq f c.f with
   | true=>orR (Mo c args H) (R7 O l f args H)
   | false=>R7 O l f args H:=rfl
  rw[he] at A |-;split at A
  .rename_i hf;have a1:=Xe hf;subst a1
   cases hs:Mo c args H with
   | bad=>rw[hs] at A;exact ih B c.f args H A ρ us w s Z
   | ret v H1 =>
    refine(h c (e9h ..) args H (by grind) B ρ us w s Z).mono ?_;rintro e w' ⟨r,rfl,U⟩;rw[hs] at U;exact U
   | panic v H1 =>
    refine(h c (e9h ..) args H (by grind) B ρ us w s Z).mono ?_;rintro e w' ⟨r,rfl,U⟩;rw[hs] at U;exact U
  .exact ih B f args H A ρ us w s Z
noncomputable def Mp(fs:List Gt)(cs:List Cut):CallF:=R7 (R5 (λ_ _ _=>.bad) cs) fs
theorem N6{h:List Gt}{cs:List Cut}(A:Gu G P h)(U:Ek G P cs):∀B,A8 B G P (Mp h cs):=
 b3h (b3f (λB f args H Z=>absurd rfl Z) U) A
end
section
open Go.ChangeShapes Go.WideShapes Go.ChangeAt Go.RowKit
variable {H:Type}{enc:TypeId×Value→H}{P:Program}
theorem d8g{f:Func}{s:ChangeSpec}{a0 fresh a6 a7:Bool}{W A:World}{args:Array Value}{v:Value}{ds U:List (DataW H)}{h pa pv:List MemPlace}
  (hW:DataW.Whole enc P f.params.toList s.vars a0 W args.toList ds U h)
  (a1:∀(b:Nat)(sp:Nat->Bool)(hd:Bool),DataW.TrodAll enc P A b sp hd f.resultTypes.toList (v.resultList f.resultTypes.size) (s.fn H (ds++U)).results [])
  (a2:∀sp:Nat->Bool,(∀p∈h,sp p.block=true)->DataW.TrodAll enc P A 0 sp true f.params.toList args.toList (s.fn H (ds++U)).args pa)
  (a3:∀sp:Nat->Bool,(∀p∈h,sp p.block=true)->DataW.TrodVars enc P A sp s.vars (s.fn H (ds++U)).vars pv)
  (b0:h=pa++pv) (hB:Below W.heap.size W A)
  (a8:∀(j:Nat)(t:TypeId)(r:Value),f.resultTypes[j]?=some t->(v.resultList f.resultTypes.size)[j]?=some r->Value.okWide P A .any 0 t r) :
  s.post enc P f a0 fresh a6 a7 W args v A:=by
 have a9:∀p∈h,p.block<W.heap.size:=λp Z=>hW.lt p Z;have a4:∀p∈h,(λb=>decide (b<W.heap.size)) p.block=true:=λp Z=>by grind
 refine⟨ds,U,h,[],pa,pv,hW,a1 _ _ _,a2 _ a4,a3 _ a4,World.keptBut_mono (λp Z=>⟨Z,?_⟩) (hB.frame (·∈h)),λ_=>?_⟩
 .grind
 .obtain⟨_,_,_,_,_,hz,hn⟩:=hW;refine⟨a8,_,_,([]++pa)++pv,⟨[]++pa,pv,trodAll_append (a2 _ (λ_ _=>rfl)) (a1 _ _ _),a3 _ (λ_ _=>rfl),rfl,?_,?_⟩,?_⟩
  .intro b off Z;have a5:MemPlace.cell b off∈h:=by grind
   rw[hB.frozen (p:=⟨b,off,none⟩) (a9 _ a5)];exact hz b off a5
  all_goals grind
end
section
variable {P:Program}{H:Mem}{ev:Ev}{d:Option Tmp}{ty:TypeId}{p:String}{af:Array Edge}{g:Option (Nat×Bool)}
theorem b3i{x:AV×AV}:∀{es:List (AV×AV×Nat)} {i b:Nat},es[i]?=some (x.1,x.2,b)->Oj x es i=es
 | [],i,b,h=>by rfl
 | (k,v,c)::r,0,b,h=>by
  have h:some (k,v,c)=some (x.1,x.2,b):=h;cases h;rfl
 | e::r,i+1,b,h=>by
  show e::Oj x r i=e::r;rw[b3i (b:=b) (by simpa using h)]
theorem d8h{t U et:TypeId}{a:Nat}{s:ByteArray}{l:List (ByteArray×Nat)}{c:Nat}(ht:P.underlying t=some (.map U et))(hk:P.underlying U=some .string)(hg:H.get a=some (.map (Ch l) c))(Z:E9 s l=true):
  mapUpdate P H t (.map a) (.lit (.string s)) (.lit (.bool true))=some (H.upd a (.map (Ch l) c)):=by
 unfold mapUpdate;rw[ht];dsimp only[toLit];rw[hg];dsimp only;rw[a2h (n:=9999) hk];have e:Lc P U (.string s) (Ch l)=some (Gl s (l.map λx=>(x.1,AV.lit (.bool true),x.2)) 0):=a2g hk s _;rw[e];have A:=Uc s (l.map λx=>(x.1,AV.lit (.bool true),x.2)) 0
 cases a0:Gl s (l.map λx=>(x.1,AV.lit (.bool true),x.2)) 0 with
 | none =>
  exfalso;rw[a0] at A;unfold E9 at Z;rw[List.any_eq_true] at Z;obtain⟨x,hx,h⟩:=Z;exact A (x.1,.lit (.bool true),x.2) (Xc.2 ⟨x,hx,rfl⟩) (by grind)
 | some j =>
  rw[a0] at A;obtain⟨_,x,hx,a1⟩:=A;rw[Nat.sub_zero,e6r] at hx;obtain⟨y,hy,rfl⟩:=e6a.1 hx;have a1:y.1=s:=a1;have a2:(Ch l)[j]?=some (.lit (.string s),.lit (.bool true),y.2):=by
   grind[Mc,Ch]
  unfold S2;dsimp only;rw[Lk,a2];dsimp only;have hb:Instr.sameBits 10000 (.string s) (.string s)=true:=by
   simp[ba_lawful,Instr.sameBits]
  simp_all[b3i,Yd]
theorem d8i{t:TypeId}{m k x:Operand}{a:Nat}{s:ByteArray}{l:List (ByteArray×Nat)}{c:Nat}{A:ev m=some (.map a)}{U:ev k=some (.lit (.string s))}{hx:ev x=some (.lit (.bool true))}
  {Z:H.get a=some (.map (Ch l) c)} (h:O6 P t=true) (hn:E9 s l=true) :
  Q3 P H ev ⟨d,.mapUpdate t m k x,ty,p,af,g⟩ m k x a (.lit (.string s)) (.lit (.bool true)) (some (.map (Ch l) c)) A U hx Z=.skip (H.upd a (.map (Ch l) c)):=by
 show G3 P H t (ev m) (ev k) (ev x)=_;grind[a2i,G3,d8h]
attribute [simp] d8i
end
section
variable {P:Program}{H:Mem}{ev:Ev}{d:Option Tmp}{ty:TypeId}{p:String}{af:Array Edge}{g:Option (Nat×Bool)}
noncomputable def clI(P:Program)(t:TypeId):Option AV:=match Ft P t with
 | some (e,_,_)=>(match Cb P e with|some [v]=>some v|_=>none)
 | none=>none
noncomputable def clR(q:Option AV)(n off a:Nat)(ga:Option Blk)(H:Mem)(els:R):R:=match q,ga with
 | some v,some (.cells r true z)=>if 0<n/\off+n<=r.length/\allOne [v]=true then .val (.lit (.tuple #[])) (H.upd a (.cells (Aq r off (rep [v] n)) true z)) else els
 | _,_=>els
theorem d8j{x:Operand}{t:TypeId}:opV P H ev ⟨d,.call ⟨.builtin .clear,#[x],#[t]⟩,ty,p,af,g⟩=ex1 P H ev ⟨d,.call ⟨.builtin .clear,#[x],#[t]⟩,ty,p,af,g⟩ x (ev x) rfl:=(rfl)
theorem d8k{v:AV}(h:allOne [v]=true)(n:Nat):allOne (rep [v] n)=true:=by
 induction n with
 | zero=>rfl
 | succ n A=>simp_all
theorem d8l{x:Operand}{t:TypeId}{a off n c:Nat}{hx:ev x=some (.slq a off n c)}:
  ex1 P H ev ⟨d,.call ⟨.builtin .clear,#[x],#[t]⟩,ty,p,af,g⟩ x (some (.slq a off n c)) hx=clR (clI P t) n off a (H.get a) H (opV P H ev ⟨d,.call ⟨.builtin .clear,#[x],#[t]⟩,ty,p,af,g⟩):=by
 unfold clR;split
 .rename_i v r z A U;split
  .rename_i h;obtain⟨h4,h5,Z⟩:=h;show Br P H ev _ ⟨.builtin .clear,#[x],#[t]⟩=_;unfold Br;have e1:Bj ev (#[x]:Array Operand).toList=some [.slq a off n c]:=by
    simp_all
   rw[e1];dsimp only;unfold Fg;dsimp only;unfold S4;have e2:(#[t]:Array TypeId)[0]?=some t:=rfl;rw[e2];dsimp only;unfold clI at A;split at A
   .rename_i e sz a0 he;rw[he];dsimp only;split at A
    .rename_i v' hz;cases A;unfold S3;rw[hz];obtain⟨m,rfl⟩:∃m,n=m+1:=⟨n-1,by omega⟩;dsimp only;rw[U];dsimp only;unfold J8;rw[d8k Z];dsimp only;rw[Ll,if_pos (by grind[Gn]),Yd];rfl
    grind
   grind
  .rfl
 .rfl
theorem d8m{tk:Nat}(a0:tick=tk){q h:Option AV}{n off a:Nat}{A U:Option Blk}{H:Mem}{Z:R}(h1:q=h)(h2:A=U):clR q n off a A H Z=clR h n off a U H Z:=by grind
attribute [congr] d8m
theorem d8n{v:AV}{r:List AV}{z n off a m:Nat}{G:Gb}{h:R}(A:0<n)(U:off+n<=r.length)(Z:allOne [v]=true):
  clR (some v) n off a (some (.cells r true z)) ⟨.fn G,m⟩ h=.val (.lit (.tuple #[])) ⟨.fn (Ak G a (some (.cells (Aq r off (rep [v] n)) true z))),m⟩:=if_pos ⟨A,U,Z⟩
attribute [simp] d8j d8l d8n
end
section
variable {P:Program}{H:Mem}{ev:Ev}{d:Option Tmp}{ty:TypeId}{p:String}{af:Array Edge}{g:Option (Nat×Bool)}
def R8(s:ByteArray):List (ByteArray×Int×Nat)->Option Int
 | []=>none
 | x::l=>if s=x.1 then some x.2.1 else R8 s l
theorem b3j{s t:ByteArray}{v:Int}{c:Nat}:∀{l:List (ByteArray×Int×Nat)},R8 s (l++[(t,v,c)])=(R8 s l).or (if s=t then some v else none)
 | []=>by rfl
 | x::l=>by
  (simp_all[b3j,R8];grind)
end
end Go.Ai
