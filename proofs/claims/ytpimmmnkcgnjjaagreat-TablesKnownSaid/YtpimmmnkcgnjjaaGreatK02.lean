/- Parts of an interpreter and of a proof. No condition. -/
import Derived.Laws.Tables
import Derived.Laws.Append
import Derived.Laws.BytesString
import Derived.Laws.IdiomStrings
import Derived.Tactics
import Derived.Test.YtpimmmnkcgnjjaaGreatK01
set_option linter.all false
open Go.RowKit (Below)
namespace Go.Ai
abbrev Gb:=Nat→Option Blk
abbrev Wd:=List Int
abbrev Wq:=List Wd
abbrev Lq:=List (Wd×Wd)
abbrev Tq:=List (List (Int×Int))
abbrev AV.li (n:Int):AV:=.lit (.int .i64 n)
abbrev AV.nl:AV:=.lit (.slice none 0 0)
section
variable {B G:Nat}{ρ:Rn}{H:Mem}{w:World}{P:Program}
def NB(v:Option Value)(d n:Nat):Prop:=(v=none/\n=d)\/∃k,v=some (.int k n)
theorem c1c{k:IntKind}{n y:Nat}(h:n<=y)(f:BoundsCode)(w:World):(Instr.sliceBound (.int k n) y f).run P w=.ok n w:=by
 simp[Instr.sliceBound,asIntOf,h]
theorem Lj{A:Bool}{n c l h m:Nat}{lo hi f:Option Value}(D:NB lo 0 l)(hh:NB hi n h)(Q:NB f c m)(U:f≠none->hi≠none)(Z:l<=h)(h2:h<=m)(h3:m<=c)(w:World):
  (Instr.sliceBounds A n c lo hi f).run P w=.ok (l,h,m) w:=by
 rcases Q with⟨rfl,rfl⟩|⟨km,rfl⟩<;>rcases hh with⟨rfl,rfl⟩|⟨kh,rfl⟩<;>rcases D with⟨rfl,rfl⟩|⟨kl,rfl⟩ <;>
  first
  | (simp_all[c1c,Instr.sliceBounds])
  | grind
theorem c1d{lo hi f:Option AV}{a0 hi' A:Option Value}{n c l h m:Nat}(D:C2 lo hi f n c=some (l,h,m))
  (hl:∀v,lo=some v->∃u,a0=some u/\VR ρ v u) (a1:lo=none->a0=none)
  (hh:∀v,hi=some v->∃u,hi'=some u/\VR ρ v u) (a2:hi=none->hi'=none)
  (hm:∀v,f=some v->∃u,A=some u/\VR ρ v u) (a3:f=none->A=none) :
  NB a0 0 l/\NB hi' n h/\NB A c m/\(A≠none->hi'≠none)/\l<=h/\h<=m/\m<=c:=by
 unfold C2 at D;split at D
 .rename_i l' h' m' e1 e2 e3 e4;split at D
  .rename_i Q;cases D;simp only[W0] at Q;have nb:∀{v:Option AV}{U:Option Value}{d k:Nat},Iz v d=some k->(∀x,v=some x->∃u,U=some u/\VR ρ x u)->(v=none->U=none)->NB U d k:=by
    intro v U d k Z h1 h2
    cases v with
    | none=>simp[Iz] at Z;exact .inl ⟨h2 rfl,Z.symm⟩
    | some x =>
     simp only[Iz] at Z;obtain⟨u,hu,hv⟩:=h1 x rfl;obtain⟨kk,rfl⟩:=Ke Z hv;exact .inr ⟨kk,hu⟩
   refine⟨nb e1 hl a1,nb e2 hh a2,nb e3 hm a3,?_,Wz Q.1.1,Wz Q.1.2,Wz Q.2⟩;intro a4
   cases f with
   | none=>grind
   | some x=>cases hi with
    | none=>simp[Oe] at e4
    | some y=>grind
  grind
 grind
section one
variable {ev:Ev}{e:Operand→Value}{o:Oper} (s:Sim B G ρ H w) (he:EvR ρ ev e)
theorem Tj{size a off l h m:Nat}{v:AV}(f:I0 size a off (some (l,h,m))=some v):v=if m=l then .sl a off 0 0 else .sl a (off+l*size) (h-l) (m-l):=by
 unfold I0 at f;dsimp only at f;split at f
 all_goals (split<;>simp_all[Dy])
include s he
theorem c1e{t:TypeId}{x:Operand}{lo hi mx:Option Operand}(h:o.op=.slice t x lo hi mx):RS B G P ρ H w (Cw P H ev o t (ev x) lo hi mx) (execOp e o):=by
 unfold Cw;split
 .rename_i r f;obtain⟨u,h1,h2⟩:=Li (P:=P) (w:=w) (by grind) he f;grind[RS.quiet]
 .unfold Gg;split
  .rename_i v hv;split
   .rename_i a3 hi' a4 h1 h2 h3;have ho:∀{y:Option Operand}{y' : Option AV},Er ev y=some y'->(∀v,y'=some v->∃u,y.map e=some u/\VR ρ v u)/\(y'=none->y.map e=none):=by
     intro y y' hy
     cases y with
     | none=>grind[Er]
     | some y =>
      simp only[Er] at hy;grind
    have bs:∀{n c l hh m:Nat},C2 a3 hi' a4 n c=some (l,hh,m)->_:=λ{n c l hh m} A =>
     c1d A (ho h1).1 (ho h1).2 (ho h2).1 (ho h2).2 (ho h3).1 (ho h3).2
    refine Ya s λr f=>?_;unfold S4 at f;split at f
    .rename_i el hd;split at f
     .rename_i a1 a0;unfold I1 at f;split at f
      .rename_i a off n c;obtain⟨b,q,k,Z,a6,hu⟩:=he _ _ hv
       cases A:C2 a3 hi' a4 n c with
       | none=>rw[A] at f;cases f
       | some y =>
        obtain⟨l,hh,m⟩:=y;rw[A] at f;obtain⟨D,Q,b3,U,b5,b6,b7⟩:=bs A;have:=Tj f;subst this;refine⟨.slice (if m=l then some ⟨b,q+off,none⟩ else some ⟨b,q+off+l*a1.size,none⟩) (hh-l) (m-l),?_,?_⟩
        .simp[execOp,h,Instr.sliceAt,Instr.slice,Ax hd,hu,Lj D Q b3 U b5 b6 b7,Ca a0,Fu]
        .split
         .rename_i a5;exact⟨b,q,k,Z,Wy _,by grind⟩
         .exact⟨b,q,k,Z,by omega,by grind⟩
      .rename_i a off n d;obtain⟨b,q,k,Z,a6,hu⟩:=he _ _ hv;split at f
       .cases A:C2 a3 hi' none n n with
        | none=>rw[A] at f;cases f
        | some y =>
         obtain⟨l,hh,m⟩:=y;rw[A] at f;obtain⟨D,Q,b3,U,b5,b6,b7⟩:=bs A;have a7:=(ho h3).2 rfl;have a2:NB (mx.map e) (k-d) (k-d):=.inl ⟨a7,rfl⟩;unfold S3 at f;dsimp only at f;split at f
         .rename_i a8;simp only[Dy] at f;cases f;have a9:l<n:=by simp_all
          refine⟨.slice (some ⟨b,q+off+l*a1.size,none⟩) (hh-l) (k-d-l),?_,⟨b,q,k,Z,by omega,by grind⟩⟩;have b0:¬(k-d=l):=by omega
          simp[execOp,h,Instr.sliceAt,Instr.slice,Ax hd,hu,Lj D Q a2 U b5 (show hh<=k-d by omega) (Wy _),Ca a0,Fu,b0]
         .rename_i a8;cases f;have a9:¬ l<n:=λh0=>by
           have:Nat.blt l n=true:=e8f.symm ▸ (show l+1<=n from h0);grind
          have b8:hh-l=0:=by omega
          refine⟨.slice (if k-d=l then some ⟨b,q+off,none⟩ else some ⟨b,q+off+l*a1.size,none⟩) (hh-l) (k-d-l),?_,?_⟩
          .simp[execOp,h,Instr.sliceAt,Instr.slice,Ax hd,hu,Lj D Q a2 U b5 (show hh<=k-d by omega) (Wy _),Ca a0,Fu]
          .rw[b8];split<;>exact⟨_,_,rfl⟩
       .rename_i mv
        cases A:C2 a3 hi' (some mv) n n with
        | none=>rw[A] at f;cases f
        | some y =>
         obtain⟨l,hh,m⟩:=y;rw[A] at f;obtain⟨D,Q,b3,U,b5,b6,b7⟩:=bs A;have a2:NB (mx.map e) (k-d) m:=by
          rcases b3 with⟨h0,_⟩|h0
          .grind
          .exact .inr h0
         have:=Tj f;subst this;refine⟨.slice (if m=l then some ⟨b,q+off,none⟩ else some ⟨b,q+off+l*a1.size,none⟩) (hh-l) (m-l),?_,?_⟩
         .simp[execOp,h,Instr.sliceAt,Instr.slice,Ax hd,hu,Lj D Q a2 U b5 b6 (show m<=k-d by omega),Ca a0,Fu]
         .split
          .rename_i a5;exact⟨b,q,k,Z,Wy _,by grind⟩
          .exact⟨b,q,k,Z,by omega,by grind⟩
      .obtain⟨ad,c,hu⟩:=he _ _ hv
       cases A:C2 a3 hi' a4 0 0 with
       | none=>grind
       | some y =>
        obtain⟨l,hh,m⟩:=y;rw[A] at f;cases f;obtain⟨D,Q,b3,U,b5,b6,b7⟩:=bs A;obtain rfl:m=0:=by omega
        obtain rfl:hh=0:=by omega
        obtain rfl:l=0:=by omega
        rcases b3 with⟨h0,_⟩|h0
        .have a2:NB (mx.map e) c c:=.inl ⟨h0,rfl⟩;refine⟨.slice (if c=0 then some ad else some (ad.add 0)) 0 c,?_,by split<;>exact⟨_,_,rfl⟩⟩;simp[execOp,h,Instr.sliceAt,Instr.slice,Ax hd,hu,Lj D Q a2 U (Wy _) (W3 c) (Wy _),Ca a0]
        .have a2:NB (mx.map e) c 0:=.inr h0;refine⟨.slice (some ad) 0 0,?_,⟨_,_,rfl⟩⟩;simp[execOp,h,Instr.sliceAt,Instr.slice,Ax hd,hu,Lj D Q a2 U (Wy _) (Wy _) (W3 c),Ca a0]
      grind
     grind
    .rename_i c0 hd;split at f
     .rename_i n el a off b9;obtain⟨b,q,k,Z,hu⟩:=he _ _ hv;split at f
      .rename_i a1 a0
       cases A:C2 a3 hi' a4 n n with
       | none=>rw[A] at f;cases f
       | some y =>
        obtain⟨l,hh,m⟩:=y;rw[A] at f;obtain⟨D,Q,b3,U,b5,b6,b7⟩:=bs A;have:=Tj f;subst this;refine⟨.slice (some (if m=l then ⟨b,q+off,none⟩ else ⟨b,q+off+l*a1.size,none⟩)) (hh-l) (m-l),?_,?_⟩
        .simp[execOp,h,Instr.sliceAt,Instr.slice,Ax hd,Ax b9,asAddr,hu,Lj D Q b3 U b5 b6 b7,Ca a0,Fu]
        .split
         .rename_i a5;exact⟨b,q,k,Z,Wy _,by grind⟩
         .exact⟨b,q,k,Z,by omega,by grind⟩
      grind
     grind
    .rename_i n el hd;split at f
     .rename_i a1 a off a0;obtain⟨b,q,k,Z,hu⟩:=he _ _ hv
      cases A:C2 a3 hi' a4 n n with
      | none=>rw[A] at f;cases f
      | some y =>
       obtain⟨l,hh,m⟩:=y;rw[A] at f;obtain⟨D,Q,b3,U,b5,b6,b7⟩:=bs A;have:=Tj f;subst this;refine⟨.slice (some (if m=l then ⟨b,q+off,none⟩ else ⟨b,q+off+l*a1.size,none⟩)) (hh-l) (m-l),?_,?_⟩
       .simp[execOp,h,Instr.sliceAt,Ax hd,Instr.sureAddr,hu,Lj D Q b3 U b5 b6 b7,Ca a0,Fu]
       .split
        .rename_i a5;exact⟨b,q,k,Z,Wy _,by grind⟩
        .exact⟨b,q,k,Z,by omega,by grind⟩
     grind
    grind
   .trivial
  .trivial
end one
theorem a8b(off:Nat):∀(us:List Value)(k:Nat)(cs:Array Value),off+k+us.length<=cs.size ->
  ((us.zipIdx k).foldl (λcs (x:Value×Nat)=>cs.setIfInBounds (off+x.2) x.1) cs).size=cs.size /\
  ∀j,((us.zipIdx k).foldl (λcs (x:Value×Nat)=>cs.setIfInBounds (off+x.2) x.1) cs)[j]?=if off+k<=j/\j<off+k+us.length then us[j-(off+k)]? else cs[j]?
 | [],k,cs,_=>⟨rfl,λj=>by simp[if_neg]⟩
 | u::us,k,cs,h=>by
  simp only[Xi] at h;obtain⟨f,A⟩:=a8b off us (k+1) (cs.setIfInBounds (off+k) u) (by grind)
  (simp_all;grind)
def PR(ρ:Rn):List (Nat×AV)->List (Nat×Value)->Prop
 | [],ps=>ps=[]
 | (i,v)::l,ps=>∃u ps',ps=(i,u)::ps'/\VR ρ v u/\PR ρ l ps'
theorem Qr{Z place': Nat->Option (Nat×Nat)}(hp:∀i r,Z i=some r->place' i=some r):∀{parts:List (Nat×AV)} {ps:List (Nat×Value)} {cells l:List AV} {cs:Array Value},
  PR ρ parts ps->VRs ρ cells cs.toList->J6 Z cells parts=some l->∃A,Instr.fill place' cs ps=some A/\VRs ρ l A.toList/\A.size=cs.size
 | [],_,_,_,cs,Q,D,h=>by cases Q;cases h;exact⟨cs,rfl,D,rfl⟩
 | (i,v)::parts,_,cells,l,cs,⟨u,a4,Q,hv,a1⟩,D,h=>by
  subst Q;simp only[J6] at h;split at h
  .rename_i off size a2;split at h
   .rename_i a5;rw[Lh] at h;split at h
    .rename_i a6;have a0:=hv.cells;have a7:(cellsOf v).length=size:=by grind[C3,Nat.eq_of_beq_eq_true]
     have a8:u.cells.size=size:=by have:=a0.length;grind
     have a9:cs.size=cells.length:=by have:=D.length;grind
     obtain⟨f1,f2⟩:=a8b off u.cells.toList 0 cs (by grind);have a3:VRs ρ (cells.take off++cellsOf v++cells.drop (off+(cellsOf v).length)) ((u.cells.toList.zipIdx 0).foldl (λcs (x:Value×Nat)=>cs.setIfInBounds (off+x.2) x.1) cs).toList:=by
      refine Yn ?_ ?_
      .grind
      .intro j w f;rw[e7x,f2 j];by_cases h1:j<off
       .rw[if_neg (by omega)];rw[e5z,e5v (by grind),e7r,if_pos h1] at f;simpa using D.get _ f
       .by_cases h2:j<off+(cellsOf v).length
        .rw[if_pos (by grind)];rw[e5z,Xm (by grind),e5v (by grind)] at f;have U:min off cells.length=off:=by omega
         simp only[Xa,U] at f;exact a0.get _ f
        .rw[if_neg (by grind)];rw[Xm (by grind)] at f;have U:min off cells.length=off:=by omega
         simp only[W1,Xa,U,List.getElem?_drop] at f;have e2:off+(cellsOf v).length+(j-(off+(cellsOf v).length))=j:=by omega
         rw[e2] at f;simpa using D.get _ f
     obtain⟨A,h1,h2,h3⟩:=Qr hp a1 a3 h;refine⟨A,?_,h2,h3.trans f1⟩;simp only[Instr.fill,hp _ _ a2];rw[if_neg (by grind)];grind[Array.toList_zipIdx]
    grind
   grind
  grind
theorem a8c{t:TypeId}{l:List AV}(h:Br P t=some l)(w:World):∃z:Value,(zeroValue t).run P w=.ok z w/\VRs ρ l z.cells.toList:=by
 grind[Br,VRs.lits,Et]
section one
variable {ev:Ev}{e:Operand→Value}{o:Oper} (s:Sim B G ρ H w) (he:EvR ρ ev e)
include he in
theorem evalParts_PR:∀{l:List (Nat×Operand)} {vs:List (Nat×AV)},Cm ev l=some vs->PR ρ vs (l.map λ(i,x)=>(i,e x))
 | [],_,h=>by cases h;rfl
 | (i,x)::l,vs,h=>by
  simp only[Cm] at h;split at h
  .rename_i v f;split at h
   .rename_i ws A;cases h;exact⟨_,_,rfl,he _ _ f,evalParts_PR A⟩
   grind
  grind
include s he
theorem c1f{t:TypeId}{parts:Array (Nat×Operand)}(h:o.op=.build t parts):RS B G P ρ H w (Hb P H t (Cm ev parts.toList)) (execOp e o):=by
 unfold Hb;split
 .rename_i ps a0;have U:=evalParts_PR he a0;refine Ya s λv f=>?_;unfold build at f;split at f
  .rename_i a1 a4 hz hd;obtain⟨z,a2,A⟩:=a8c (ρ:=ρ) hz w;split at f
   .rename_i pl a3;unfold M3 at f;split at f
    .rename_i l D;cases f;obtain⟨cs,h1,Q,h3⟩:=Qr (place':=λi=>pl[i]?) (λi r Z=>by grind[Le]) U A D;refine⟨.agg cs,?_,⟨_,rfl,Q⟩⟩;have a5:=run_places (P:=P) w _ _ a3;simp_all[Ax,Instr.build,execOp,Array.mapM_eq_mapM_toList]
    grind
   grind
  .rename_i a1 n el hz hd;obtain⟨z,a2,A⟩:=a8c (ρ:=ρ) hz w;split at f
   .rename_i j hj;unfold M3 at f;split at f
    .rename_i l D;cases f;obtain⟨cs,h1,Q,h3⟩:=Qr (place':=λi=>some (i*j.size,j.size)) (λi r Z=>Z) U A D;refine⟨.agg cs,?_,⟨_,rfl,Q⟩⟩;simp_all[Ca,Ax,Instr.build,execOp]
    grind
   grind
  grind
 .trivial
end one
theorem Lk{t e:TypeId}{size bytes:Nat}(h:Fp P t=some (e,size,bytes)):
  P.underlying t=some (.slice e)/\∃i z,P.info? e=some i/\i.size=size/\i.bytes=bytes/\i.zero=some z/\z.cells.size=size:=by
 unfold Fp at h;split at h
 .rename_i f hd;split at h
  .rename_i i hi;split at h
   .rename_i z hz;split at h
    all_goals simp_all
   grind
  grind
 grind
theorem a8d(z:List AV):∀(n i:Nat),(rep z n)[i]?=if i<n*z.length then z[i % z.length]? else none
 | 0,i=>by simp[rep]
 | n+1,i=>by
  simp only[rep];by_cases h:i<z.length
  ·(simp_all[e8i];grind)
  (simp_all[Nat.mod_eq_sub_mod,a8d,Xm];grind)
theorem Oq(z:List AV):∀n,(rep z n).length=n*z.length
 | 0=>by simp[rep]
 | n+1=>by simp[rep,Oq z n,e8o,e9k]
theorem Ot{z:List AV}{f:Array Value}(h:VRs ρ z f.toList)(n:Nat):VRs ρ (rep z n) ((Array.range (n*f.size)).map (f[· % f.size]!)).toList:=by
 have A:f.size=z.length:=by have:=h.length;grind
 refine Yn (by grind[Oq]) λi v hi=>?_;rw[a8d] at hi;split at hi
 .rename_i D;obtain⟨u,Q,U⟩:=h.get _ hi;grind
 grind
theorem Qs{e:TypeId}{i:TypeInfo}{zv:Value}{n:Nat}{z:List AV}(hi:P.info? e=some i)(hz:i.zero=some zv)(h:Ea P e n=some z)(w:World):
  ∃f:Array Value,((if n=0 then pure #[] else do pure (<- zeroValue e).cells:Sem (Array Value))).run P w=.ok f w/\VRs ρ z f.toList/\(n≠0->f=zv.cells)/\(n=0->f=#[]):=by
 unfold Ea at h;split at h
 .rename_i D;cases h;exact⟨#[],by simp_all,rfl,λA=>absurd (Xd D) A,λ_=>rfl⟩
 .rename_i D;have A:n≠0:=by intro A;simp_all
  unfold Br at h;rw[hi] at h;dsimp only at h;rw[hz] at h;cases h;exact⟨zv.cells,by simp_all[Et],X9 _,λ_=>rfl,λQ=>absurd Q A⟩
section one
variable {ev:Ev}{e:Operand→Value}{o:Oper} (s:Sim B G ρ H w) (he:EvR ρ ev e)
include s he
theorem c1g{t:TypeId}{len:Nat}{parts:Array (Nat×Operand)}(h:o.op=.buildSlice t len parts):RS B G P ρ H w (Fq P H t len (Cm ev parts.toList)) (execOp e o):=by
 unfold Fq;split
 .rename_i el size bytes ps D Q;obtain⟨hd,i,zv,hi,rfl,rfl,hz,hzs⟩:=Lk D;have U:=evalParts_PR he Q;split
  .rename_i z Z a0;obtain⟨f,a4,a5,a6,a7⟩:=Qs (ρ:=ρ) hi hz a0 w;split
   .rename_i l hl;have a1:VRs ρ (rep z len) ((Array.range (len*i.size)).map (f[· % f.size]!)).toList:=by
     by_cases A:len*i.size=0
     .have a2:z=[]:=by simp_all[Ea]
      subst a2;rw[A];have:rep [] len=[]:=by have:=Oq [] len;simp_all
      grind
     grind[Ot]
    obtain⟨cs,h1,h2,h3⟩:=Qr (place':=λj=>some (j*i.size,i.size)) (λ_ _ hr=>hr) U a1 hl;have a8:len*i.size<=1048576:=Wz Z;unfold C9;rw[Xy];refine Th s (cells:=cs) (elem:=el) 0 0 (by simp) (.inl rfl) h2 (u:=.slice (some ⟨w.heap.size,0,none⟩) len len) ?_ ⟨_,_,_,Da _ _ _,Wy _,rfl⟩;have a3:¬(len*i.size > 2 ^ 24):=by omega
    simp only[execOp,h,Instr.buildSlice,Sem.run_bind,Ax hd,Result.andThen_ok,Ca hi];simp only[a3,if_false];by_cases A:len*i.size=0
    all_goals simp_all[newRow,Et]
   .trivial
  .trivial
 .trivial
theorem c1h{t:TypeId}{l c:Operand}(h:o.op=.makeSlice t l c):RS B G P ρ H w (Ec P H t (ev l) (ev c)) (execOp e o):=by
 unfold Ec;split
 .rename_i el size bytes n k Q U Z;obtain⟨hd,i,zv,hi,rfl,rfl,hz,hzs⟩:=Lk Q;have D:∀{x:Operand}{m:Nat},(ev x).bind natOf=some m->∃kk,e x=.int kk m:=by
   intro x m hx
   cases a7:ev x with
   | none=>grind
   | some v=>grind[Ke]
  obtain⟨k1,a0⟩:=D U;obtain⟨k2,a1⟩:=D Z;split
  .rename_i z f a2;simp only[W0] at f;have a3:n<=k:=Wz f.1.1;have a4:k<=1048576:=Wz f.1.2;have hb20:i.bytes<=1048576:=Wz f.2;obtain⟨A,a8,a9,b0,b1⟩:=Qs (ρ:=ρ) hi hz a2 w;have a5:VRs ρ (rep z k) ((Array.range (k*i.size)).map (A[· % A.size]!)).toList:=by
    by_cases h0:k*i.size=0
    .have a6:z=[]:=by simp_all[Ea]
     subst a6;rw[h0];have:rep [] k=[]:=by have:=Oq [] k;simp_all
     grind
    grind[Ot]
   unfold C9;rw[Xy];refine Th s (cells:=(Array.range (k*i.size)).map (A[· % A.size]!)) (elem:=el) 0 0 (by simp) (.inl rfl) a5 (u:=.slice (some ⟨w.heap.size,0,none⟩) n k) ?_ ⟨_,_,_,Da _ _ _,a3,rfl⟩;have w1:IntKind.i64.wrap (n:Int)=n:=Na (by omega);have w2:IntKind.i64.wrap (k:Int)=k:=Na (by omega);have b2:(i.bytes:Int)*k<=2 ^ 48:=by
    have:i.bytes*k<=1099511627776:=W6 (e6m hb20 a4) (by decide);grind
   simp only[execOp,h,Instr.makeSlice,Sem.run_bind,Ax hd,Result.andThen_ok,Gj hi,a0,a1,asInt,asIntOf,Sem.run_pure,w1,w2];have c1:¬((k:Int)<0):=by omega
   have c2:¬((n:Int)<0):=by omega
   have c3:¬((n:Int) > (k:Int)):=by omega
   have c4:¬((i.bytes:Int)*k > 2 ^ 48):=by omega
   simp only[c1,c2,c3,c4,decide_false,e7y,e8z,if_false,run_askRoom,Result.andThen_ok,Sem.run_bind,Ca hi,e7b]
   (split<;>simp_all[newRow,Et])
  .trivial
 .trivial
theorem c1i{t:TypeId}{r:Option Operand}(h:o.op=.makeMap t r):RS B G P ρ H w (Gf P H ev t r) (execOp e o):=by
 have key:(execOp e o).run P w=.ok (.value (.map (some w.heap.size))) { w with heap:=w.heap.push (.map #[] 0) } ->
   RS B G P ρ H w (H.newK (.map [] 0) λH2=>.val (.map H.next) H2) (execOp e o):=by
  intro hrun;rw[Xy];refine⟨upd ρ H.next (w.heap.size,0,0),_,_,hrun,Yh ρ _ _ w _ _ rfl rfl rfl rfl s.base,?_,⟨_,_,_,Da _ _ _,rfl⟩,W4 _⟩;exact s.alloc _ _ 0 _ rfl ⟨#[],by simp,rfl,s.base⟩
 unfold Gf;split
 .simp_all[Instr.makeMap,execOp]
 .rename_i x;split
  .rename_i k v kk n hd hv;have hu:=he _ _ hv;simp_all[VR,asIntOf,asInt,Ax,Instr.makeMap,execOp]
  .trivial
theorem c1j{t:TypeId}{x:Operand}(h:o.op=.range t x):RS B G P ρ H w (Qc P H t (ev x)) (execOp e o):=by
 unfold Qc;split
 .rename_i str hd hv;have hu:=he _ _ hv;simp only[VR] at hu;rw[Xy];refine⟨upd ρ H.next (w.heap.size,0,0),.pointer (some ⟨w.heap.size,0,none⟩),{ w with heap:=w.heap.push (.stringIter str 0) },?_,Yh ρ _ _ w _ _ rfl rfl rfl rfl s.base,?_,⟨_,_,_,Da _ _ _,rfl⟩,W4 _⟩
  .simp_all[Ax,Instr.range,execOp]
  .exact s.alloc _ _ 0 _ rfl ⟨by simp,s.base,rfl⟩
 .trivial
end one
theorem VRs.one{v:AV}{us:List Value}(h:VRs ρ [v] us):∃u,us=[u]/\VR ρ v u:=by
 obtain⟨u,A,e,D,f⟩:=h;cases f;grind
theorem VRs.two{v f:AV}{us:List Value}(h:VRs ρ [v,f] us):∃u u',us=[u,u']/\VR ρ v u/\VR ρ f u':=by
 obtain⟨u,D,e,Q,A⟩:=h;obtain⟨u',U,Z⟩:=A.one;grind
theorem Jc{e:Operand->Value}{o:Oper}{c:Call}{b:Builtin}(h:o.op=.call c)(f:c.callee=.builtin b):
  execOp e o=builtin b c.argTypes o.type (c.args.map λ|.const _=>true|_=>false) (c.args.map e):=by
 simp only[execOp,h,resolve,f];rfl
section one
variable {ev:Ev}{e:Operand→Value}{o:Oper} (s:Sim B G ρ H w) (he:EvR ρ ev e)
include s
variable {c:Call}{args:List AV}
theorem c1k{it:Operand}(he:EvR ρ ev e)(h:o.op=.next it true):RS B G P ρ H w (Qd H (ev it)) (execOp e o):=by
 unfold Qd;split
 .rename_i a hv;obtain⟨b,q,k,hr,hu⟩:=he _ _ hv;split
  .rename_i str pos hx;obtain⟨hb,hB,rfl⟩:=s.at hx hr;split
   .rename_i hlt;have hlt' : pos<str.size:=by simp_all
    unfold a6r;rw[X8];refine⟨ρ,.tuple #[.bool true,goInt pos,.int .i32 (Utf8.decode str pos).1],{ w with heap:=w.heap.setIfInBounds b (.stringIter str (pos+(Utf8.decode str pos).2)) },?_,⟨λ_ _=>rfl,Yv hb rfl (λj hj=>by grind),rfl,rfl,rfl,by simp,λj hj=>by grind⟩,?_,?_,Wy _⟩
    .simp[execOp,h,Instr.next,hu,getObj,setObj,Sem.run,hb,hlt']
    .have hlt2:b<w.heap.size:=(e5y.1 hb).1;refine s.set hx hr rfl rfl (by simp) (λj hj _=>by grind) ⟨by grind,hB,rfl⟩
    .exact⟨_,rfl,_,_,rfl,rfl,_,_,rfl,rfl,_,_,rfl,rfl,rfl⟩
   .rename_i hlt;have hlt' : ¬ pos<str.size:=λh0=>by
     have:Nat.blt pos str.size=true:=e8f.symm ▸ (show pos+1<=str.size from h0);grind
    refine Xz s (u:=.tuple #[.bool false]) ?_ ⟨_,rfl,_,_,rfl,rfl,rfl⟩;simp[execOp,h,Instr.next,hu,getObj,Sem.run,hb,hlt']
  .trivial
 .trivial
omit s in
theorem c1l{c:Call}(h:o.op=.call c):∀cs b,o.op≠.select cs b:=by grind
theorem c1m(h:o.op=.call c)(hc:c.callee=.builtin .len)(D:VRs ρ args (c.args.map e).toList):RS B G P ρ H w (G9 P H c args) (execOp e o):=by
 rw[Jc h hc];have Q:∀{n:Nat},(Builtin.len_ c.argTypes o.type (c.args.map e)).run P w=.ok (goInt n) w ->
   (builtin .len c.argTypes o.type (c.args.map λ|.const _=>true|_=>false) (c.args.map e)).run P w=.ok (.value (goInt n)) w:=λ{n} h=>by
  simp[builtin,h]
 have U:∀{u:Value},(c.args.map e).toList=[u]->(c.args.map e)[0]?=some u:=λ{u} h=>by
  rw[<- e7x,h];rfl
 have t0:∀{d:TypeDesc},(c.argTypes[0]?).bind P.underlying=some d->∃t,c.argTypes[0]?=some t/\P.underlying t=some d:=λ{d} h=>by
  grind
 unfold G9;split
 .rename_i a off n a6 el hd;obtain⟨u,f,b,q,k,Z,a1,rfl⟩:=D.one;obtain⟨t,ht,A⟩:=t0 hd;exact Xz s (Q (n:=n) (by simp[Builtin.len_,ht,U f,Ax A])) rfl
 .rename_i a off n d el hd;obtain⟨u,f,b,q,k,Z,a1,rfl⟩:=D.one;obtain⟨t,ht,A⟩:=t0 hd;exact Xz s (Q (n:=n) (by simp[Builtin.len_,ht,U f,Ax A])) rfl
 .rename_i el hd;obtain⟨u,f,b,q,rfl⟩:=D.one;obtain⟨t,ht,A⟩:=t0 hd;exact Xz s (Q (n:=0) (by simp[Builtin.len_,ht,U f,Ax A])) rfl
 .rename_i a k el hd;obtain⟨u,f,b,q,kk,Z,rfl⟩:=D.one;obtain⟨t,ht,A⟩:=t0 hd;split
  .rename_i es a7 hx;obtain⟨a2,hb,a3,hB⟩:=s.at hx Z;have a4:∀{l:List (AV×AV×Nat)} {m:List MapEntry},ER ρ l m->m.length=l.length:=by
    intro l
    induction l with
    | nil=>intro m h;cases h;rfl
    | cons x l ih=>intro m h;obtain⟨y,m',e,_,_,_,h'⟩:=h;grind
   have:=a4 a3;refine Xz s (Q (n:=es.length) ?_) rfl;have e2:a2.size=es.length:=by grind
   simp[Builtin.len_,ht,U f,Ax A,getObj,Sem.run,hb,e2]
  .trivial
 .rename_i a5 hd;obtain⟨u,f,rfl⟩:=D.one;obtain⟨t,ht,A⟩:=t0 hd;exact Xz s (Q (n:=a5.size) (by simp[Builtin.len_,ht,U f,Ax A])) rfl
 .trivial
theorem c1n(he:EvR ρ ev e)(h:o.op=.call c)(f:c.callee=.builtin .len)(A:VRs ρ args (c.args.map e).toList):RS B G P ρ H w (H9 P H ev o c args) (execOp e o):=by
 grind[H9,M9,c1m]
theorem c1o(he:EvR ρ ev e)(h:o.op=.call c)(D:c.callee=.builtin .cap)(Q:VRs ρ args (c.args.map e).toList):RS B G P ρ H w (K9 P H ev o c args) (execOp e o):=by
 unfold K9;split
 .rename_i r f;obtain⟨u,h1,h2⟩:=Li (P:=P) (w:=w) (c1l h) he f;grind[RS.quiet]
 .split
  .rename_i a off n A el hd;obtain⟨u,U,b,q,k,f,a1,rfl⟩:=Q.one
   cases ht:c.argTypes[0]? with
   | none=>grind
   | some t =>
    rw[ht] at hd;have Z:(c.args.map e)[0]?=some (.slice (some ⟨b,q+off,none⟩) n A):=by rw[<- e7x,U];rfl
    rw[Jc h D];exact Xz s (u:=goInt A) (by simp[builtin,Builtin.cap_,ht,Z,Ax (show P.underlying t=some (.slice el) from hd)]) rfl
  .trivial
end one
end
section
variable {B G:Nat}{ρ:Rn}{H:Mem}{w:World}{P:Program}
theorem Tk{x:AV}{n:Nat}{u:Value}(h:lenOf x=some n)(f:VR ρ x u)(w:World):(Builtin.lenOf u).run P w=.ok n w:=by
 unfold lenOf at h;split at h
 .obtain⟨_,_,_,_,_,rfl⟩:=f;cases h;rfl
 .obtain⟨_,_,_,_,_,rfl⟩:=f;cases h;rfl
 .obtain⟨_,_,rfl⟩:=f;cases h;rfl
 .cases f;cases h;rfl
 .cases f;cases h;rfl
 grind
theorem a0q{x:AV}{size n:Nat}{l:List AV}{u:Value}(s:Sim B G ρ H w)(h:Ci H size n x=some l)(A:VR ρ x u):
  ∃cs:Array Value,(∀f,f.heap=w.heap->(Builtin.firstCells size n u).run P f=.ok cs f)/\VRs ρ l cs.toList:=by
 unfold Ci at h;have key:∀{a off b q k:Nat}{Q:List AV}{own:Bool}{z:Nat}(m c:Nat),H.get a=some (.cells Q own z)->ρ a=some (b,q,k)->K5 Q (n*size) off none some=some l ->
   ∃cs:Array Value,(∀f,f.heap=w.heap->(Builtin.firstCells size n (.slice (some ⟨b,q+off,none⟩) m c)).run P f=.ok cs f)/\VRs ρ l cs.toList:=by
  intro a off b q k Q own z m c hx D U;rw[Ja] at U;split at U
  .rename_i Z;cases U;obtain⟨us,a1,a2,a3⟩:=(s.at hx D).sub Z;refine⟨us.toArray,λf a4=>?_,by grind⟩;grind[Builtin.firstCells,Tf,World.cell?]
  grind
 split at h
 .obtain⟨b,q,k,D,Z,rfl⟩:=A;split at h
  .rename_i hx;exact key _ _ hx D h
  grind
 .obtain⟨b,q,k,D,Z,rfl⟩:=A;split at h
  .rename_i hx;exact key _ _ hx D h
  grind
 .obtain⟨ad,c,rfl⟩:=A;split at h
  .rename_i h0;subst h0;cases h;exact⟨#[],λf _=>by simp[Builtin.firstCells,loadCells,loadCellsFrom],rfl⟩
  grind
 .cases A;cases h;exact⟨#[],λf _=>rfl,rfl⟩
 .cases A;cases h;rename_i a0;refine⟨(a0.extract 0 n).data.map λb=>.int .u8 b.toNat,λf _=>rfl,?_⟩;have:=X9 (ρ:=ρ) ((a0.extract 0 n).data.toList.map λb=>(.int .u8 b.toNat:Value));simp_all[Function.comp_def]
 grind
theorem a8e(newLen:Nat):∀(r c:Nat),Builtin.growBy newLen r c<=2 ^ r*(c+768)
 | 0,c=>by simp[Builtin.growBy]
 | r+1,c=>by
  simp only[Builtin.growBy];split
  .exact W6 (e8s c 768) (Nat.le_mul_of_pos_left _ (Nat.two_pow_pos _))
  .have h:=a8e newLen r (c+(c+768) / 4);have f:c+(c+768) / 4+768<=2*(c+768):=by omega
   have A:=e6m (Wy (2 ^ r)) f;grind
theorem a8f{f h:Nat}(A:f<=1048576)(D:h<=1048576):Builtin.nextslicecap f h<=33554432:=by
 unfold Builtin.nextslicecap;split
 .omega
 .split
  .omega
  .have Q:=a8e f 4 h;grind
variable {argTypes:Array TypeId}{args:Array Value}{ty sT xT el:TypeId}{dx:TypeDesc}{i:TypeInfo}{base:Option Addr}{sLen sCap n:Nat}{x:Value}{new old:Array Value}
theorem a8g(ht:argTypes[0]?=some sT)(hx:argTypes[1]?=some xT)(hd:P.underlying sT=some (.slice el))(hxd:P.underlying xT=some dx)(hni:∀k,dx≠.int k)
  (hi:P.info? el=some i) (ha0:args[0]?=some (.slice base sLen sCap)) (ha1:args[1]?=some x) (f:(Builtin.lenOf x).run P w=.ok n w) (h:sLen+n<=sCap)
  (A:(Builtin.firstCells i.size n x).run P w=.ok new w) :
  (Builtin.append_ argTypes ty args).run P w =
   ((match base with|some a=>storeCells (a.add (sLen*i.size)) new.toList|none=>pure ()).run P w).andThen λ_ D=>.ok (.slice base (sLen+n) sCap) D:=by
 cases base with
 | none=>simp[Builtin.append_,ht,hx,ha0,ha1,Ax hd,Ax hxd,Ca hi,f,h,A]
 | some a=>simp[Builtin.append_,ht,hx,ha0,ha1,Ax hd,Ax hxd,Ca hi,f,h,A]
theorem run_append_grow{zv:Value}(ht:argTypes[0]?=some sT)(hx:argTypes[1]?=some xT)(hd:P.underlying sT=some (.slice el))(hxd:P.underlying xT=some dx)(hni:∀k,dx≠.int k)
  (hi:P.info? el=some i) (hz:i.zero=some zv) (ha0:args[0]?=some (.slice base sLen sCap)) (ha1:args[1]?=some x) (A:(Builtin.lenOf x).run P w=.ok n w) (a2:sCap<sLen+n)
  (h:small (sLen+n) sCap i.bytes=true)
  (D:(Builtin.firstCells i.size sLen (.slice base sLen sCap)).run P w.drew=.ok old w.drew)
  (Q:(Builtin.firstCells i.size n x).run P w.drew=.ok new w.drew) :
  ∃f,sLen+n<=f/\(Builtin.append_ argTypes ty args).run P w =
   .ok (.slice (some ⟨w.heap.size,0,none⟩) (sLen+n) f) (w.drew.alloc (.cells (old++(new++Builtin.zeroCells zv.cells (f-(sLen+n)))) el)):=by
 simp only[small,W0,decide_eq_true_eq] at h;obtain⟨⟨U,Z⟩,h3⟩:=h;have a0:¬(sLen+n<=sCap):=by omega
 have a1:¬(281474976710656<Builtin.nextslicecap (sLen+n) sCap*i.bytes):=by
  have h5:=e6m (a8f U Z) h3;grind
 refine⟨(Question.appendCap (sLen+n) sCap el).cut (w.tape w.drawn (.appendCap (sLen+n) sCap el)),by simp[Question.cut],?_⟩;simp[Builtin.append_,ht,hx,ha0,ha1,Ax hd,Ax hxd,Ca hi,A,a0,Gj hi,a1,Question.forced,D,Q,Et hi hz,newRow];grind
section zeros
variable {k k' : IntKind}{zv:Value}
theorem a8h{n b:Nat}(f:n<=1048576)(h:b<=1048576):¬((n:Int)*(b:Int) > 281474976710656):=by
 have A:n*b<=1099511627776:=W6 (e6m f h) (by decide);grind
theorem a0r{n:Nat}(h:n<=1048576):IntKind.i64.wrap (n:Int)=n:=Na (by omega)
theorem c1p(ht:argTypes[0]?=some sT)(hx:argTypes[1]?=some xT)(hd:P.underlying sT=some (.slice el))(hxd:P.underlying xT=some (.int k))
  (hi:P.info? el=some i) (ha0:args[0]?=some (.slice base sLen sCap)) (ha1:args[1]?=some (.int k' 0)) (f:sLen<=sCap) :
  (Builtin.append_ argTypes ty args).run P w=.ok (.slice base sLen sCap) w:=by
 have w0:IntKind.i64.wrap 0=0:=a0r (n:=0) (by omega)
 cases base with
 | none=>simp[Builtin.append_,ht,hx,ha0,ha1,Ax hd,Ax hxd,Ca hi,Gj hi,asInt,asIntOf,w0,f]
 | some a=>simp[Builtin.append_,ht,hx,ha0,ha1,Ax hd,Ax hxd,Ca hi,Gj hi,asInt,asIntOf,w0,f,storeCells]
theorem c1q(ht:argTypes[0]?=some sT)(hx:argTypes[1]?=some xT)(hd:P.underlying sT=some (.slice el))(hxd:P.underlying xT=some (.int k))
  (hi:P.info? el=some i) (hz:i.zero=some zv) (ha0:args[0]?=some (.slice base sLen sCap)) (ha1:args[1]?=some (.int k' n)) (f:n<=1048576) (U:i.bytes<=1048576) (h:n*i.size≠0) (A:sLen+n<=sCap) :
  (Builtin.append_ argTypes ty args).run P w =
   ((match base with|some a=>storeCells (a.add (sLen*i.size)) (Builtin.zeroCells zv.cells n).toList|none=>pure ()).run P w).andThen λ_ Z=>.ok (.slice base (sLen+n) sCap) Z:=by
 have D:=a0r f;have Q:¬((n:Int)<0):=by omega
 have c2:=a8h f U;have c3:¬(281474976710656<(n:Int)*(i.bytes:Int)):=c2
 cases base with
 | none=>simp[Builtin.append_,ht,hx,ha0,ha1,Ax hd,Ax hxd,Ca hi,Gj hi,asInt,asIntOf,D,Q,c3,A,h,Et hi hz]
 | some a=>simp[Builtin.append_,ht,hx,ha0,ha1,Ax hd,Ax hxd,Ca hi,Gj hi,asInt,asIntOf,D,Q,c3,A,h,Et hi hz]
theorem c1r(ht:argTypes[0]?=some sT)(hx:argTypes[1]?=some xT)(hd:P.underlying sT=some (.slice el))(hxd:P.underlying xT=some (.int k))
  (hi:P.info? el=some i) (hz:i.zero=some zv) (ha0:args[0]?=some (.slice base sLen sCap)) (ha1:args[1]?=some (.int k' n)) (h:n<=1048576) (Q:n*i.size≠0) (a2:sCap<sLen+n)
  (A:small (sLen+n) sCap i.bytes=true)
  (U:(Builtin.firstCells i.size sLen (.slice base sLen sCap)).run P w.drew=.ok old w.drew) :
  ∃f,sLen+n<=f/\(Builtin.append_ argTypes ty args).run P w =
   .ok (.slice (some ⟨w.heap.size,0,none⟩) (sLen+n) f) (w.drew.alloc (.cells (old++(Builtin.zeroCells zv.cells n++Builtin.zeroCells zv.cells (f-(sLen+n)))) el)):=by
 simp only[small,W0,decide_eq_true_eq] at A;obtain⟨⟨Z,h2⟩,D⟩:=A;have a0:¬(sLen+n<=sCap):=by omega
 have a1:¬(281474976710656<Builtin.nextslicecap (sLen+n) sCap*i.bytes):=by
  have h5:=e6m (a8f Z h2) D;grind
 have w1:=a0r h;have c1:¬((n:Int)<0):=by omega
 have c3:¬(281474976710656<(n:Int)*(i.bytes:Int)):=a8h h D;refine⟨(Question.appendCap (sLen+n) sCap el).cut (w.tape w.drawn (.appendCap (sLen+n) sCap el)),by simp[Question.cut],?_⟩;simp[Builtin.append_,ht,hx,ha0,ha1,Ax hd,Ax hxd,Ca hi,a0,Gj hi,a1,Question.forced,U,Et hi hz,newRow,asInt,asIntOf,w1,c1,c3,Q];grind
end zeros
end
section
variable {B G:Nat}{ρ:Rn}{H:Mem}{w:World}{P:Program}
variable {u:Value}{l:List AV}{x k:AV}{es:List (AV×AV×Nat)}{b:Nat}{argTypes:Array TypeId}{args:Array Value}{ty src dst:TypeId}
def VS(B G:Nat)(P:Program)(ρ:Rn)(H:Mem)(w:World)(r:Option (AV×Mem))(m:Sem Value):Prop:=
 ∀v H',r=some (v,H')->∃ρ' u w',m.run P w=.ok u w'/\Ext B H.next ρ w ρ' w'/\Sim B G ρ' H' w'/\VR ρ' v u/\H.next<=H'.next
theorem Tl{v:AV}{m:Sem Value}(s:Sim B G ρ H w)(h:m.run P w=.ok u w)(f:VR ρ v u):VS B G P ρ H w (some (v,H)) m:=by
 intro A H' e;cases e;exact⟨ρ,u,w,h,X6 _ _ _ _,s,f,Wy _⟩
theorem Bs{m:Sem Value}:VS B G P ρ H w none m:=λ_ _ e=>by cases e
theorem a0s{cells:Array Value}{el:TypeId}{m:Sem Value}{n size f:Nat}(s:Sim B G ρ H w)(U:n<=f)(A:VRs ρ l cells.toList)(h:Array Value)
  (Z:l.length=n*size) (a0:h.size=(f-n)*size)
  (D:m.run P w=.ok (.slice (some ⟨w.heap.size,0,none⟩) n f) (w.drew.alloc (.cells (cells++h) el))):VS B G P ρ H w (H8 H l n size) m:=by
 unfold H8;rw[Xy];intro v H' e;cases e;have a1:cells.size=n*size:=by have:=A.length;grind
 have a2:n*size+(f-n)*size=f*size:=by rw[<- e6d];grind
 refine⟨upd ρ H.next (w.heap.size,0,f),_,_,D,Yh ρ _ _ w _ (.cells (cells++h) el) rfl rfl rfl rfl s.base,?_,⟨_,_,_,Da _ _ _,by omega,rfl⟩,W4 _⟩;refine s.alloc _ (.cells (cells++h) el) f _ rfl ⟨cells++h,el,(0,0),a7o w _ _ rfl,?_,λ_=>⟨s.base,by simp,?_,?_⟩⟩
 .intro i v hi;obtain⟨u,hu,Q⟩:=A.get i hi;have a3:i<cells.size:=by
   grind
  exact⟨u,by grind,Q.mono (Jb s.none)⟩
 all_goals grind
theorem Sim.drew(s:Sim B G ρ H w):Sim B G ρ H w.drew:=s.heap rfl
theorem a0t(z:Array Value)(n:Nat):(Builtin.zeroCells z n).size=n*z.size:=by simp[Builtin.zeroCells]
theorem Qt{a:Nat}{new:List AV}{z off q k:Nat}{vs:List Value}{v:AV}{m:Sem Value}(s:Sim B G ρ H w)(A:H.get a=some (.cells l true z))(D:ρ a=some (b,q,k))
  (h:VRs ρ new vs) (Q:VR ρ v u) (U:∀f,(storeCells ⟨b,q+off,none⟩ vs).run P w=.ok () f->m.run P w=.ok u f):VS B G P ρ H w (J7 H a l z off new v) m:=by
 unfold Go.Ai.J7;split
 .rename_i Z;rw[Lh];split
  .rename_i a0;rw[X8];intro v' H' e;cases e;obtain⟨f,h1,h2,h3⟩:=a7r (P:=P) s A D a0 h (allOne_VRs h Z);exact⟨ρ,u,f,U f h1,h2,h3,Q,Wy _⟩
  simp[Bs]
 simp[Bs]
section app
variable {argTypes:Array TypeId}{args:Array Value}{ty sT xT el:TypeId}{dx:TypeDesc}{i:TypeInfo}{zv:Value}{n:Nat}{x:AV}{xu su:Value}{st:AV}{new:List AV}
 (ht:argTypes[0]?=some sT) (hx:argTypes[1]?=some xT) (hd:P.underlying sT=some (.slice el)) (hxd:P.underlying xT=some dx) (hni:∀ k,dx≠.int k)
 (hi:P.info? el=some i) (hz:i.zero=some zv) (hzs:zv.cells.size=i.size) (ha0:args[0]?=some su) (ha1:args[1]?=some xu)
include ht hx hd hxd hni hi hz hzs ha0 ha1
omit ht hx hd hxd hni hi ha0 ha1 hz in
theorem a8i{cs:Array Value}(s:Sim B G ρ H w)(a3:VR ρ st su)(g8:n≠0)(g9:i.size≠0)(Q:VRs ρ new cs.toList)
  (a4:∀{base:Option Addr}{sLen sCap:Nat},su=.slice base sLen sCap->sLen+n<=sCap->(Builtin.append_ argTypes ty args).run P w =
   ((match base with|some a=>storeCells (a.add (sLen*i.size)) cs.toList|none=>pure ()).run P w).andThen λ_ w'=>.ok (.slice base (sLen+n) sCap) w')
  (a5:∀{base:Option Addr}{sLen sCap:Nat}{old:Array Value},su=.slice base sLen sCap->sCap<sLen+n->small (sLen+n) sCap i.bytes=true ->
   (Builtin.firstCells i.size sLen (.slice base sLen sCap)).run P w.drew=.ok old w.drew->∃A,sLen+n<=A/\(Builtin.append_ argTypes ty args).run P w =
   .ok (.slice (some ⟨w.heap.size,0,none⟩) (sLen+n) A) (w.drew.alloc (.cells (old++(cs++Builtin.zeroCells zv.cells (A-(sLen+n)))) el))) :
  VS B G P ρ H w (Dx H i.size i.bytes n st new) (Builtin.append_ argTypes ty args):=by
 unfold Dx;split
 .rename_i hl;have h4:new.length=n*i.size:=by grind[C3,Nat.eq_of_beq_eq_true]
  split
  ·
   cases a3;unfold S6;split
   .rename_i a2;obtain⟨A,a1,a6⟩:=a5 rfl (by omega) (by grind) (old:=#[]) rfl;simp only[e6s] at a6 a1;grind[a0t,a0s]
   simp[Bs]
  ·
   rename_i a off k A;obtain⟨b,q,kk,h,b9,rfl⟩:=a3;unfold P5;split
   .rename_i U;have a0:k+n<=A:=Wz U;split
    .rename_i l z D;refine Qt s D h Q ⟨b,q,kk,h,a0,rfl⟩ λw' c0=>?_;rw[a4 rfl a0];simp_all[Fu,e7w]
    simp[Bs]
   .rename_i U;have a0:A<k+n:=Nat.not_le.1 λh0=>by
     grind[Nat.ble_eq]
    split
    .rename_i l own z D a2;rw[Ja];split
     .rename_i a7;rw[Ql];obtain⟨us,a8,a9,b0⟩:=(s.at D h).sub a7;have b2:(Builtin.firstCells i.size k (.slice (some ⟨b,q+off,none⟩) k A)).run P w.drew=.ok us.toArray w.drew:=by
       rw[Builtin.firstCells,<- a8];exact Tf us λj v f=>b0 j v f
      obtain⟨b3,a1,a6⟩:=a5 rfl a0 a2 b2;refine a0s (el:=el) s a1 (cells:=us.toArray++cs) (by simpa using a9.append Q) (Builtin.zeroCells zv.cells (b3 - (k+n))) ?_ (by grind[a0t]) ?_
      all_goals grind
     simp[Bs]
    simp[Bs]
  ·
   rename_i a off k d;obtain⟨b,q,K,h,b9,rfl⟩:=a3;unfold S7;split
   .rename_i l z D;have c1:=s.at D h;obtain⟨c,e,fz,b5,c2,c6⟩:=c1;obtain⟨hB,c7,hK,c8⟩:=c6 rfl;split
    .rename_i Z h2;simp only[W0] at Z;have b6:z=i.size:=Xd Z.1;have c9:off=d*i.size:=Xd Z.2;have h5:off+(k+n)*i.size<=l.length:=by simp_all[C3]
     have U:k+n<=K-d:=by
      rcases c8 with h0|h0
      .omega
      .rw[b6] at h0;have:(d+(k+n))*i.size<=K*i.size:=by grind
       have:=Nat.le_of_mul_le_mul_right this (by omega);omega
     refine Qt s D h Q ⟨b,q,K,h,by omega,rfl⟩ λw' c0=>?_;rw[a4 rfl U];simp_all[Fu,e7w]
    .rename_i Z h2 h3;simp only[W0] at Z h3;have b6:z=i.size:=Xd Z.1;have c9:off=d*i.size:=Xd Z.2;have h6:off+k*i.size=l.length:=by grind[C3,Nat.eq_of_beq_eq_true]
     have a2:=h3.1.2;have e5:=allOne_VRs Q h3.2;rw[Ja];split
     .rename_i a7;rw[Ql,Mem.delK_eq];obtain⟨us,a8,a9,b0⟩:=(s.at D h).sub a7;by_cases U:k+n<=K-d
      ·
       have h7:q+off+k*i.size+cs.toList.length<=c.size:=by
        have e1:cs.toList.length=n*i.size:=by have:=Q.length;omega
        have e2:(d+(k+n))*i.size<=K*i.size:=e7v _ (by omega);grind
       obtain⟨w',c',h8,e6,e7,h9,b7,i0,g2,g3,g4⟩:=a0n (P:=P) b (q+off+k*i.size) e fz cs.toList 0 c w b5 c7 (by omega) e5;unfold H8;rw[Xy];intro v H' e0;cases e0;have e8:=s.rm a;have e9:Ext B H.next ρ w (upd ρ H.next (b,q+off,K-d)) w':=⟨λj f=>C4 _ _ (by omega),Yv b5 rfl (λj f=>b7 j f),g2,g3,g4,by omega,λj f=>b7 j (by omega)⟩;refine⟨upd ρ H.next (b,q+off,K-d),.slice (some ⟨b,q+off,none⟩) (k+n) (K-d),w',?_,e9,?_,⟨_,_,_,Da _ _ _,by omega,by simp⟩,W4 _⟩
       .rw[a4 rfl U];simp_all[Fu]
       .refine e8.add (by omega) ?_ ⟨c',e,fz,e6,?_,λ_=>⟨hB,by grind,?_,?_⟩⟩
        .intro j y b1 o1 k1 hy g0;obtain⟨g1,hy⟩:=Yj hy;have i1:b1≠b:=by
          rintro rfl;exact s.inj a j _ y b1 q K o1 k1 D hy (Ne.symm g1) rfl h g0
         grind
        .intro j v f;have g5:((l.drop off).take (k*i.size)).length=k*i.size:=by grind
         have b8:=Jb (x:=(b,q+off,K-d)) s.none;by_cases g6:j<k*i.size
         .rw[e5v (by omega)] at f;rw[e7r,if_pos g6,List.getElem?_drop] at f;obtain⟨u,hu,b4⟩:=c2 _ _ f;refine⟨u,?_,b4.mono b8⟩;grind
         .rw[Xm (by omega),g5] at f;obtain⟨u,hu,b4⟩:=Q.get _ f;have i2:=(W8.1 hu).1;refine⟨u,?_,b4.mono b8⟩;grind
        .rw[e7];have e2:(K-d)*i.size+d*i.size=K*i.size:=by rw[<- e6d];grind
         grind
        .right;have e2:(k+n)*i.size<=(K-d)*i.size:=e7v _ U;grind
      .have a0:K-d<k+n:=by omega
       have b2:(Builtin.firstCells i.size k (.slice (some ⟨b,q+off,none⟩) k (K-d))).run P w.drew=.ok us.toArray w.drew:=by
        rw[Builtin.firstCells,<- a8];exact Tf us λj v f=>b0 j v f
       have g7:small (k+n) (K-d) i.bytes=true:=by
        simp only[small,W0,decide_eq_true_eq] at a2 |-;omega
       obtain⟨b3,a1,a6⟩:=a5 rfl a0 g7 b2;refine a0s (el:=el) (H:=H.rm a) (s.rm a) a1 (cells:=us.toArray++cs) (by simpa using a9.append Q) (Builtin.zeroCells zv.cells (b3 - (k+n))) ?_ (by grind[a0t]) ?_
       all_goals grind
     grind
    simp[Bs]
   simp[Bs]
  simp[Bs]
 simp[Bs]
theorem c1s(s:Sim B G ρ H w)(D:VR ρ st su)(f:VR ρ x xu)(Q:lenOf x=some n)(U:n≠0)(Z:i.size≠0)(hf:Ci H i.size n x=some new):
  VS B G P ρ H w (Dx H i.size i.bytes n st new) (Builtin.append_ argTypes ty args):=by
 obtain⟨cs,h,a0⟩:=a0q (P:=P) s hf f;have A:=Tk (P:=P) Q f w;exact a8i (el:=el) hzs s D U Z a0
  (λe a1=>a8g (P:=P) (w:=w) (ty:=ty) ht hx hd hxd hni hi (by grind) ha1 A a1 (h w rfl))
  (λe a2 a3 a4=>run_append_grow (P:=P) (w:=w) (ty:=ty) ht hx hd hxd hni hi hz (by grind) ha1 A a2 a3 a4 (h _ rfl))
end app
theorem a0u{v:AV}(h:isSlice v=true)(f:VR ρ v u):∃base n c,u=.slice base n c/\n<=c:=by
 unfold isSlice at h;split at h
 .obtain⟨_,_,_,_,A,rfl⟩:=f;grind
 .obtain⟨_,_,_,_,A,rfl⟩:=f;grind
 .cases f;grind
 grind
theorem c1t{size:Nat}(h:lenOf x=some 0)(f:VR ρ x u)(w:World):(Builtin.firstCells size 0 u).run P w=.ok #[] w:=by
 unfold lenOf at h;split at h
 .obtain⟨_,_,_,_,_,rfl⟩:=f;simp[Builtin.firstCells,loadCells,loadCellsFrom]
 .obtain⟨_,_,_,_,_,rfl⟩:=f;simp[Builtin.firstCells,loadCells,loadCellsFrom]
 .obtain⟨_,_,rfl⟩:=f;simp[Builtin.firstCells,loadCells,loadCellsFrom]
 .cases f;rfl
 .rename_i A;cases f;simp[Builtin.firstCells]
 grind
theorem c1u{sT:TypeId}{st:AV}{su xu:Value}(s:Sim B G ρ H w)(ht:argTypes[0]?=some sT)
  (ha0:args[0]?=some su) (ha1:args[1]?=some xu) (h:VR ρ st su) (A:VR ρ x xu) :
  VS B G P ρ H w (append P H sT argTypes[1]? st x) (Builtin.append_ argTypes ty args):=by
 unfold append;split
 .rename_i el size bytes Q U;obtain⟨hd,i,zv,hi,rfl,rfl,hz,hzs⟩:=Lk Q;unfold S8 at U
  cases hx:argTypes[1]? with
  | none=>grind
  | some xT =>
   rw[hx] at U;have Z:∃dx,P.underlying xT=some dx/\∀k,dx≠.int k:=by
    grind
   obtain⟨dx,hxd,hni⟩:=Z;unfold D9;split
   .rename_i f;split
    .rename_i a0;obtain⟨base,n,c,rfl,a3⟩:=a0u a0 h;refine Tl s ?_ h;rw[a8g (P:=P) (w:=w) (ty:=ty) ht hx hd hxd hni hi ha0 ha1 (Tk f A w) (by omega) (c1t f A w)]
     (split<;>rfl)
    simp[Bs]
   .rename_i n a1 f;split
    .rename_i new a7 hf;refine c1s ht hx hd hxd hni hi hz hzs ha0 ha1 s h A f (λD=>a1 (by rw[D])) (λD=>?_) hf;simp_all
    simp[Bs]
   simp[Bs]
 .rename_i el size bytes Q U;split
  .rename_i a4;obtain⟨hd,i,zv,hi,rfl,rfl,hz,hzs⟩:=Lk Q;unfold Wu at a4
   cases hx:argTypes[1]? with
   | none=>grind
   | some xT =>
    rw[hx] at a4;have Z:∃k,P.underlying xT=some (.int k):=by
     grind
    obtain⟨k,hxd⟩:=Z;unfold Wv;split
    .rename_i f;obtain⟨k',rfl⟩:=Ke f A;split
     .rename_i a0;obtain⟨base,n,c,rfl,a3⟩:=a0u a0 h;exact Tl s (c1p (P:=P) (w:=w) (ty:=ty) ht hx hd hxd hi ha0 ha1 a3) h
     simp[Bs]
    .rename_i n a1 f;obtain⟨k',rfl⟩:=Ke f A;split
     .rename_i z a7 hc b6;simp only[W0] at hc;have a5:n<=1048576:=Wz hc.1;have hb20:i.bytes<=1048576:=Wz hc.2;have hs:i.size≠0:=λD=>by simp_all
      have a6:n≠0:=λD=>a1 (by rw[D]);have a2:n*i.size≠0:=Nat.mul_ne_zero a6 hs;have a8:Ea P el (n*i.size)=some z:=by
       grind[Ea,Nat.eq_of_beq_eq_true]
      obtain⟨zs,_,a9,b0,_⟩:=Qs (ρ:=ρ) hi hz a8 w;have b1:=b0 a2;subst b1;exact a8i (el:=el) (cs:=Builtin.zeroCells zv.cells n) hzs s h a6 hs (Ot a9 n)
       (λe b2=>c1q (P:=P) (w:=w) (ty:=ty) ht hx hd hxd hi hz (by grind) ha1 a5 hb20 a2 b2)
       (λe b3 b4 b5=>c1r (P:=P) (w:=w) (ty:=ty) ht hx hd hxd hi hz (by grind) ha1 a5 a2 b3 b4 b5)
     simp[Bs]
    simp[Bs]
  simp[Bs]
 simp[Bs]
theorem c1v{dT:TypeId}{d:AV}{A xu:Value}(s:Sim B G ρ H w)(ht:argTypes[0]?=some dT)
  (ha0:args[0]?=some A) (ha1:args[1]?=some xu) (D:VR ρ d A) (h:VR ρ x xu) :
  VS B G P ρ H w (copy P H dT d x) (Builtin.copy_ argTypes ty args):=by
 unfold copy;split
 .rename_i el size bytes n k a4 U hk;obtain⟨hd,i,zv,hi,rfl,rfl,hz,hzs⟩:=Lk a4;have a7:=Tk (P:=P) U h w;have Z:∀{base:Option Addr}{k' c:Nat}{cells:Array Value},A=.slice base k' c->k'=k->(Builtin.firstCells i.size (Nat.min n k) xu).run P w=.ok cells w ->
    (Builtin.copy_ argTypes ty args).run P w=((match base with|some a=>storeCells a cells.toList|none=>pure ()).run P w).andThen λ_ w'=>.ok (goInt (Nat.min n k)) w':=by
   intro base k' c cells f a8 Q
   (split<;>simp_all[Ca,Ax,Builtin.copy_])
  have a0:∀{base:Option Addr}{k' c:Nat},A=.slice base k' c->k'=k:=by
   intro base k' c f;have:=Tk (P:=P) hk D w;grind[Sem.run_pure,Builtin.lenOf]
  split
  .rename_i hm;split
   .rename_i a5;obtain⟨base,k',c,f,a1⟩:=a0u a5 D;have Q:(Builtin.firstCells i.size (Nat.min n k) xu).run P w=.ok #[] w:=by
     rw[hm];unfold lenOf at U;split at U
     .obtain⟨_,_,_,_,_,rfl⟩:=h;simp[Builtin.firstCells,loadCells,loadCellsFrom]
     .obtain⟨_,_,_,_,_,rfl⟩:=h;simp[Builtin.firstCells,loadCells,loadCellsFrom]
     .obtain⟨_,_,rfl⟩:=h;simp[Builtin.firstCells,loadCells,loadCellsFrom]
     .cases h;rfl
     .rename_i a9;cases h;simp[Builtin.firstCells]
     grind
    refine Tl (u:=goInt 0) s ?_ rfl;rw[Z f (a0 f) Q,hm]
    (split<;>rfl)
   simp[Bs]
  .rename_i m b0;split
   .rename_i l b1 Q;obtain⟨cs,a2,a3⟩:=a0q (P:=P) s Q h;unfold a6o;split
    .rename_i a off k1 c1;obtain⟨b,q,K,hr,a1,f⟩:=D;split
     .rename_i c z hb;refine Qt s hb hr a3 rfl λw' a6=>?_;rw[Z f (a0 f) (a2 w rfl)];simp[*]
     simp[Bs]
    .rename_i a off k1 d1;obtain⟨b,q,K,hr,a1,f⟩:=D;split
     .rename_i c z hb;refine Qt s hb hr a3 rfl λw' a6=>?_;rw[Z f (a0 f) (a2 w rfl)];simp[*]
     simp[Bs]
    simp[Bs]
   simp[Bs]
 simp[Bs]
theorem c1w{Z el:TypeId}{sz a1:Nat}{d:AV}{f:Value}(s:Sim B G ρ H w)(ht:argTypes[0]?=some Z)(a2:Fp P Z=some (el,sz,a1))
  (ha0:args[0]?=some f) (a0:VR ρ d f):VS B G P ρ H w (S9 P H el d) (Builtin.clear_ argTypes ty args):=by
 obtain⟨hd,i,zv,hi,rfl,rfl,hz,hzs⟩:=Lk a2;have a3:∀z,Br P el=some z->VRs ρ z zv.cells.toList:=by
  intro z h;unfold Br at h;rw[hi] at h;dsimp only at h;rw[hz] at h;cases h;exact X9 _
 have go:∀{a off n:Nat}{cp:Nat}{b q K:Nat}{z:List AV}{c:List AV} {k:Nat},Br P el=some z->H.get a=some (.cells c true k)->ρ a=some (b,q,K)->f=.slice (some ⟨b,q+off,none⟩) (n+1) cp ->
   VS B G P ρ H w (J7 H a c k off (rep z (n+1)) (.lit (.tuple #[]))) (Builtin.clear_ argTypes ty args):=by
  intro a off n cp b q K z c k h1 h2 h3 h4;refine Qt s h2 h3 (Ot (a3 z h1) (n+1)) rfl λw' a4=>?_;rw[h4] at ha0;have a5:(storeCells ⟨b,q+off,none⟩ (Builtin.zeroCells zv.cells (n+1)).toList).run P w=.ok () w':=a4;simp[Builtin.clear_,ht,ha0,Ax hd,Et hi hz,a5]
 unfold S9;split
 .rename_i z A;obtain⟨b,q,K,D,a6,Q⟩:=a0;split
  .rename_i U;exact go A U D Q
  .exact Bs
 .rename_i z A;obtain⟨b,q,K,D,a6,Q⟩:=a0;split
  .rename_i U;exact go A U D Q
  .exact Bs
 .exact Bs
theorem c1x{v:AV}{b:List UInt8}(h:bytesOf (v::l)=some b):∃n r,v=.lit (.int .u8 n)/\bytesOf l=some r/\b=UInt8.ofNat n.toNat::r:=by
 unfold bytesOf at h;grind
theorem bytesOf_ints:∀ {l:List AV} {b:List UInt8} {us:List Value},bytesOf l=some b→VRs ρ l us →
  ∃ ns:Wd,us=ns.map (Value.int .u8)∧∀ r:ByteArray,ns.foldl (fun r n=>r.push (UInt8.ofNat n.toNat)) r=⟨r.data++b.toArray⟩
 | [],b,us,h,hv=>by cases h; cases hv; simp
 | v :: l,b,us,h,⟨u,us',e,hv,hr⟩=>by
  subst e;obtain ⟨n,r,rfl,hb,rfl⟩:=c1x h;cases hv;obtain ⟨ns,rfl,hf⟩:=bytesOf_ints hb hr;exact ⟨n :: ns,rfl,fun r=>by simp_all⟩
theorem c1y{e:TypeId}{f:ByteArray}(s:Sim B G ρ H w)(D:P.underlying src=some .string)(hd:P.underlying dst=some (.slice e))(he:P.underlying e=some (.int .u8)):
  VS B G P ρ H w (H8 H (f.data.toList.map λb=>.lit (.int .u8 b.toNat)) f.size 1) (Go.convert src dst (.string f)):=by
 unfold H8;rw[Xy];intro v H' Q;cases Q;have U:=run_bytes_of_string (P:=P) w src dst e f D hd he;have Z:f.size<=grownCap w f.size 0 e:=by simp[grownCap,Question.cut]
 have a0:f.data.size=f.size:=rfl;have a1:(bytesRow f (grownCap w f.size 0 e)).size=grownCap w f.size 0 e:=by grind[bytesRow]
 refine⟨upd ρ H.next (w.heap.size,0,grownCap w f.size 0 e),_,_,U,Yh ρ _ _ w _ _ rfl rfl rfl rfl s.base,?_,⟨_,_,_,Da _ _ _,by omega,by simp⟩,W4 _⟩;refine s.alloc _ _ (grownCap w f.size 0 e) _ rfl ⟨bytesRow f (grownCap w f.size 0 e),e,_,a7o w _ _ rfl,?_,λ_=>⟨s.base,by grind,by omega,.inr ?_⟩⟩
 .intro j v h;rw[e6j] at h
  cases A:f.data.toList[j]? with
  | none=>grind
  | some b =>
   rw[A] at h;cases h;have a2:=(W8.1 A).1;have a3:j<f.data.size:=by grind
   refine⟨_,?_,rfl⟩;simp_all[bytesRow_at]
 grind
theorem c1z{e:TypeId}{n:Nat}{b:List UInt8}(s:Sim B G ρ H w)(hx:VR ρ x u)(D:P.underlying src=some (.slice e))(hd:P.underlying dst=some .string)
  (he:P.underlying e=some (.int .u8)) (h:lenOf x=some n) (A:Ci H 1 n x=some l) (Q:bytesOf l=some b) (a1:∀U,x≠.lit (.string U)) :
  (Go.convert src dst u).run P w=.ok (.string ⟨b.toArray⟩) w:=by
 obtain⟨cs,Z,a0⟩:=a0q (P:=P) s A hx;obtain⟨ns,a2,a3⟩:=bytesOf_ints Q a0;have hr:=Z w rfl;have key:∀{a:Addr}{c:Nat},u=.slice (some a) n c->(Go.convert src dst u).run P w=.ok (.string ⟨b.toArray⟩) w:=by
  intro a c f;subst f;rw[run_convert_bytes_string w src dst e (some a) n c D he hd,run_bytesToString w a n c ns ?_]
  .simp_all
  (simp_all[Builtin.firstCells];grind)
 unfold lenOf at h;split at h
 .obtain⟨_,_,_,_,_,f⟩:=hx;grind
 .obtain⟨_,_,_,_,_,f⟩:=hx;grind
 .obtain⟨_,_,f⟩:=hx;grind
 .cases hx;cases h;simp only[Ci] at A;cases A;cases Q;rw[run_convert_bytes_string w src dst e none _ _ D he hd];rfl
 all_goals grind
theorem c2a(s:Sim B G ρ H w)(hx:VR ρ x u):VS B G P ρ H w (convert P H src dst x) (Go.convert src dst u):=by
 unfold Go.Ai.convert;split
 .rename_i e Q f hd;cases hx;grind[Bs,c1y]
 .exact Bs
 .rename_i y e U f hd;split
  .rename_i he;split
   .rename_i n h;split
    .rename_i l A;split
     .rename_i b D;exact Tl s (c1z s hx (by grind) (by grind) he h A D (by grind)) rfl
     simp[Bs]
    simp[Bs]
   simp[Bs]
  simp[Bs]
 simp[Bs]
section one
variable {ev:Ev}{e:Operand→Value}{o:Oper} (s:Sim B G ρ H w) (he:EvR ρ ev e)
include s he
theorem c2b{src dst:TypeId}{x:Operand}(h:o.op=.convert src dst x):RS B G P ρ H w (Eb P H ev o src dst (ev x)) (execOp e o):=by
 unfold Eb;split
 .rename_i r f;obtain⟨u,D,A⟩:=Li (P:=P) (w:=w) (by grind) he f;grind[RS.quiet]
 .split
  .rename_i v Q;have key:=c2a (P:=P) (src:=src) (dst:=dst) s (he _ _ Q);split
   .rename_i r H' f;obtain⟨U,u,Z,D,A,h3,h4,h5⟩:=key r H' f;exact⟨U,u,Z,by simp_all[execOp],A,h3,h4,h5⟩
   .trivial
  .trivial
end one
theorem a8j{h D:Type}(m:Sem h)(f:h->Sem D):Ap P (m.bind f)=match Ap P m with|some a=>Ap P (f a)|none=>none:=by
 induction m with
 | pure a=>rfl
 | program k A=>grind[Ap,Sem.bind]
 | mark m k A=>assumption
 | choose q k A=>grind[Ap,Sem.bind]
 | _=>simp[Sem.bind,Ap]
theorem a8k(f:TypeDesc)(k:Value):∀(D A:List MapEntry)(i:Nat),D.map (·.key)=A.map (·.key) ->
  match Instr.findNow f k D i with
  | none=>Instr.findNow f k A i=none
  | some none=>Instr.findNow f k A i=some none
  | some (some (j,_))=>∃e,A[j-i]?=some e/\i<=j/\Instr.findNow f k A i=some (some (j,e.val))
 | [],[],i,_=>rfl
 | [],_::_,_,h=>by grind
 | _::_,[],_,h=>by grind
 | a::D,b::A,i,h=>by
  simp only[e6o,List.cons.injEq] at h;obtain⟨Q,U⟩:=h;simp only[Instr.findNow,Q]
  cases hs:Instr.sameNow f k b.key with
  | none=>rfl
  | some t=>cases t with
   | true=>grind
   | false =>
    have:=a8k f k D A (i+1) U;dsimp only;revert this
    cases Instr.findNow f k D (i+1) with
    | none=>exact id
    | some r=>cases r with
     | none=>exact id
     | some y =>
      obtain⟨j,v⟩:=y;rintro⟨e,he,a0,Z⟩;exact⟨e,by rw[show j-i=(j-(i+1))+1 by omega];simpa using he,by omega,Z⟩
theorem a8l(D:TypeId)(k:Value):∀(U A:List MapEntry)(i:Nat)(r:Option (Nat×Value)),U.map (·.key)=A.map (·.key)->Ap P (Instr.findAsking D k U i)=some r->∀w:World,
  match r with
  | none=>(Instr.findAsking D k A i).run P w=.ok none w
  | some (j,_)=>∃e,A[j-i]?=some e/\i<=j/\(Instr.findAsking D k A i).run P w=.ok (some (j,e.val)) w
 | [],[],i,r,_,Q,w=>by simp only[Instr.findAsking] at Q;cases Q;rfl
 | [],_::_,_,_,h,_,_=>by grind
 | _::_,[],_,_,h,_,_=>by grind
 | a::U,b::A,i,r,h,Q,w=>by
  simp only[e6o,List.cons.injEq] at h;obtain⟨hk,hl⟩:=h;simp only[Instr.findAsking,hk] at Q |-;have f:=Q;change Ap P (Sem.bind _ _)=_ at f;rw[a8j] at f
  cases Z:Ap P (Op.equal D k b.key) with
  | none=>grind
  | some t =>
   rw[Z] at f;have a0:=Qp Z w
   cases t with
   | true =>
    simp only[if_true] at f;cases f;simp_all
   | false =>
    simp only[e8z,if_false] at f;have:=a8l D k U A (i+1) r hl f w
    cases r with
    | none=>simp_all
    | some y =>
     obtain⟨j,v⟩:=y;obtain⟨e,he,a1,hr⟩:=this;exact⟨e,by grind,by omega,by simp_all⟩
theorem a8m{D:TypeId}{k:Value}{Q A:List MapEntry}{r:Option (Nat×Value)}(h:Q.map (·.key)=A.map (·.key))(Z:Ap P (Instr.findKey D k Q)=some r)(w:World):
  match r with
  | none=>(Instr.findKey D k A).run P w=.ok none w
  | some (j,_)=>∃e,A[j]?=some e/\(Instr.findKey D k A).run P w=.ok (some (j,e.val)) w:=by
 unfold Instr.findKey at Z |-;have f:=Z;change Ap P (Sem.bind _ _)=_ at f;rw[a8j] at f
 cases hq:Ap P (underlying D) with
 | none=>grind
 | some d =>
  rw[hq] at f;have a0:=Qp hq w;have U:=a8k d k Q A 0 h;dsimp only at f
  cases hf:Instr.findNow d k Q 0 with
  | some x =>
   rw[hf] at f U
   cases x with
   | none =>
    cases f;simp_all
   | some y =>
    obtain⟨j,v⟩:=y;cases f;obtain⟨e,he,_,hr⟩:=U;simp_all
  | none =>
   rw[hf] at f U;dsimp only at U f;have:=a8l D k Q A 0 r h f w
   (split<;>simp_all)
theorem ER.keys:∀ {es:List (AV×AV×Nat)} {l:List MapEntry} {ks:List Value},ER ρ es l→litAll (es.map (·.1))=some ks→l.map (·.key)=ks
 | [],_,_,h,hk=>by cases h; cases hk; rfl
 | (k,v,b) :: es,_,ks,⟨e,l',he,h1,h2,h3,h4⟩,hk=>by
  subst he;simp only [e6o] at hk
  cases k with
  | lit x =>
   simp only [litAll] at hk;split at hk
   ·rename_i ws hw; cases hk; cases h1; simp [ER.keys h4 hw]
   grind
  | _=>simp [litAll] at hk
theorem ER.get:∀ {es:List (AV×AV×Nat)} {l:List MapEntry} {i:Nat} {k v:AV} {b:Nat} {e:MapEntry},ER ρ es l→es[i]?=some (k,v,b)→l[i]?=some e→VR ρ k e.key∧VR ρ v e.val
 | [],_,i,_,_,_,_,_,h,_=>by grind
 | (k,v,b) :: es,_,0,_,_,_,_,⟨e,l',he,h1,h2,h3,h4⟩,h,h'=>by grind
 | (k,v,b) :: es,_,i+1,_,_,_,_,⟨e,l',he,h1,h2,h3,h4⟩,h,h'=>by subst he; simp at h h'; exact ER.get h4 h h'
theorem ER.length:∀ {es:List (AV×AV×Nat)} {l:List MapEntry},ER ρ es l→l.length=es.length
 | [],_,h=>by cases h; rfl
 | _ :: _,_,⟨e,l',he,_,_,_,h4⟩=>by subst he; simp [ER.length h4]
theorem ER.snoc:∀ {es:List (AV×AV×Nat)} {l:List MapEntry} {k v:AV} {b:Nat} {e:MapEntry},ER ρ es l→VR ρ k e.key→VR ρ v e.val→e.born=b→ER ρ (es++[(k,v,b)]) (l++[e])
 | [],_,_,_,_,e,h,h1,h2,h3=>by cases h; exact ⟨e,[],rfl,h1,h2,h3,rfl⟩
 | _ :: _,_,_,_,_,_,⟨e,l',he,a,b,c,d⟩,h1,h2,h3=>by subst he; exact ⟨e,_,rfl,a,b,c,ER.snoc d h1 h2 h3⟩
theorem ER.set{v:AV}{ku vu:Value}(A:VR ρ k ku)(D:VR ρ v vu):∀{es:List (AV×AV×Nat)} {l:List MapEntry} (i:Nat),ER ρ es l->ER ρ (Of (k,v) es i) (l.modify i λe=>{ e with key:=ku,val:=vu })
 | [],_,i,h=>by cases h;simp[Of];rfl
 | (_,_,b)::_,_,0,⟨e,f,he,_,_,c,d⟩=>by subst he;exact⟨{ e with key:=ku,val:=vu },f,by simp,A,D,c,d⟩
 | _::_,_,i+1,⟨e,f,he,a,b,c,d⟩=>by subst he;exact⟨e,f.modify i λe=>{ e with key:=ku,val:=vu },by simp,a,b,c,ER.set A D i d⟩
theorem a8n{f:TypeId}{k:Value}{l:List MapEntry}{r:Option Nat}(h:K7 P f k es=some r)(he:ER ρ es l)(w:World):
  match r with
  | none=>(Instr.findKey f k l).run P w=.ok none w
  | some j=>∃e,l[j]?=some e/\(Instr.findKey f k l).run P w=.ok (some (j,e.val)) w:=by
 unfold K7 at h;split at h
 .rename_i D U;have Z:=he.keys U;have Q:(D.map λq=>({ key:=q,val:=undef,born:=0 }:MapEntry)).map (·.key)=l.map (·.key):=by
   rw[Z,e8v];exact List.map_id' D
  split at h
  .rename_i i v A;cases h;exact a8m Q A w
  .rename_i A;cases h;exact a8m Q A w
  grind
 grind
section one
variable {ev:Ev}{e:Operand→Value}{o:Oper} (s:Sim B G ρ H w) (he:EvR ρ ev e)
include s he
theorem c2c{t:TypeId}{m k:Operand}{A:Bool}(h:o.op=.lookup t m k A):RS B G P ρ H w (E8 P H ev o t (ev m) (ev k) A) (execOp e o):=by
 unfold E8;split
 .rename_i m' k' hm hk;refine Ya s λr f=>?_;unfold Qa at f;split at f
  .rename_i v hv;cases f;exact Li (by grind) he hv
  .unfold lookup at f;split at f
   .rename_i key elem a kv hd a1;obtain⟨b,q,K,a2,a8⟩:=he _ _ hm;have a9:=a0o a1 (he _ _ hk);split at f
    .rename_i es a3 hx;obtain⟨Q,hb,D,hB⟩:=s.at hx a2;split at f
     .rename_i x i a4 a5;have b1:=D.length;have b2:Q.isEmpty=es.isEmpty:=by
       (simp_all[Array.isEmpty];grind)
      have b3:=Qp a4 w;have U:=a8n a5 D w;have b4:(getObj b).run P w=.ok (.map Q a3) w:=by grind[Sem.run,getObj]
      unfold P6 at f
      cases i with
      | some j =>
       dsimp only at f;obtain⟨Z,a6,b5⟩:=U;rw[Le] at f;split at f
       .rename_i k0 v0 b0 a7;cases f;have a0:=(D.get a7 a6).2;cases A
        .exact⟨Z.val,by simp_all[Ax,Instr.lookup,execOp],a0⟩
        .exact⟨.tuple #[Z.val,.bool true],by simp_all[Ax,Instr.lookup,execOp],⟨_,rfl,_,_,rfl,a0,_,_,rfl,rfl,rfl⟩⟩
       grind
      | none =>
       dsimp only at f U;split at f
       .rename_i z hz;cases f;unfold K8 at hz;split at hz
        .rename_i b6 b7;cases A
         .exact⟨z,by simp_all[Et,Ax,Instr.lookup,execOp],rfl⟩
         .exact⟨.tuple #[z,.bool false],by simp_all[Et,Ax,Instr.lookup,execOp],⟨_,rfl,_,_,rfl,rfl,_,_,rfl,rfl,rfl⟩⟩
        grind
       grind
     grind
    grind
   grind
 .trivial
theorem a8o{t:TypeId}{m k x:Operand}(h:o.op=.mapUpdate t m k x\/o.op=.insert t m k x):RS B G P ρ H w (Ft P H t (ev m) (ev k) (ev x)) (execOp e o):=by
 have hexec:execOp e o=(do Instr.mapUpdate t (e m) (e k) (e x);pure .skip):=by grind[execOp]
 rw[hexec];unfold Ft;split
 .rename_i m' k' x' hm hk hx;split
  .rename_i H' hu;unfold mapUpdate at hu;split at hu
   .rename_i key elem a kv hd hkv;obtain⟨b,q,K,hrr,hmu⟩:=he _ _ hm;have hku:=a0o hkv (he _ _ hk);split at hu
    .rename_i es clock hmx;obtain⟨es',hb,her,hB⟩:=s.at hmx hrr;split at hu
     .rename_i y i hck hfk;have hck':=Qp hck w;have hf:=a8n hfk her w;have hget:(getObj b).run P w=.ok (.map es' clock) w:=by grind[Sem.run,getObj]
      have hblt:b<w.heap.size:=(e5y.1 hb).1;have fin:∀(es1:List (AV×AV×Nat)) (es2:Array MapEntry) (c2:Nat),ER ρ es1 es2.toList ->
        (Instr.mapUpdate t (e m) (e k) (e x)).run P w=.ok () { w with heap:=w.heap.setIfInBounds b (.map es2 c2) } ->
        RS B G P ρ H w (.skip (H.upd a (.map es1 c2))) (do Instr.mapUpdate t (e m) (e k) (e x);pure .skip):=by
       intro es1 es2 c2 hE hrun;refine⟨ρ,{ w with heap:=w.heap.setIfInBounds b (.map es2 c2) },by simp_all,⟨λ_ _=>rfl,Yv hb rfl (λj hj=>by grind),rfl,rfl,rfl,by simp,λj hj=>by grind⟩,?_,Wy _⟩;exact s.set hmx hrr rfl rfl (by simp) (λj hj _=>by grind) ⟨es2,by grind,hE,hB⟩
      split at hu
      .rename_i blk hblk;rw[X8] at hu;cases hu;unfold P7 at hblk
       cases i with
       | some j =>
        dsimp only at hblk;obtain⟨en,hen,hrun⟩:=hf;rw[Le] at hblk;split at hblk
        .rename_i old v0 b0 hes;split at hblk
         .rename_i hsb;cases hblk;have hold:=(her.get hes hen).1;simp only[VR] at hold;refine fin _ (es'.modify j λen=>{ en with key:=kv,val:=e x }) _ ?_ ?_
          .have:=ER.set (ρ:=ρ) (k:=.lit kv) (v:=x') (ku:=kv) (vu:=e x) rfl (he _ _ hx) j her;grind
          .have hen' : es'[j]?=some en:=by grind
           simp[Instr.mapUpdate,Ax hd,hmu,hku,hget,hck',hrun,hen',hold,Instr.keyThatStays,hsb,setObj,Sem.run,hb]
         grind
        grind
       | none =>
        dsimp only at hblk hf;cases hblk;refine fin _ (es'.push { key:=kv,val:=e x,born:=clock }) _ ?_ ?_
        .have:=ER.snoc (k:=.lit kv) (v:=x') (b:=clock) (e:={ key:=kv,val:=e x,born:=clock }) her rfl (he _ _ hx) rfl;grind
        .simp[Instr.mapUpdate,Ax hd,hmu,hku,hget,hck',hf,setObj,Sem.run,hb]
      grind
     grind
    grind
   grind
  .trivial
 .trivial
end one
theorem Tm{f:FuncId}(h:Ao P f=true)(args:Array Value)(w:World):(callFunc f args).run P w=.ok (.enter f args) w:=by
 unfold Ao at h;split at h
 ·(simp_all[callFunc];grind)
 grind
section one
variable {ev:Ev}{e:Operand→Value}{o:Oper} (s:Sim B G ρ H w) (he:EvR ρ ev e)
include s
omit s in
theorem a0v{f:FuncId}{args:List AV}{us:Array Value}{m:Sem Next}(D:m.run P w=(callFunc f us).run P w)(A:VRs ρ args us.toList):RS B G P ρ H w (I3 P H f args) m:=by
 unfold I3;split
 .rename_i h;exact⟨us,by grind[Tm],A,rfl⟩
 .trivial
omit s in
theorem c2d{d:Option TypeDesc}(h:P8 d=some true):∃e,d=some (.pointer e):=by
 unfold P8 at h;grind
omit s in
theorem c2e{d:Option TypeDesc}(h:P8 d=some false):∃t,d=some t/\∀e,t≠.pointer e:=by
 unfold P8 at h;grind
omit s in
theorem c2f{t:TypeId}{A:String}{f:FuncId}{u:Value}(h:Wx P t A=some f)(n:Nat)(w:World):(method (n+1) t u A).run P w=.ok (f,u) w:=by
 unfold Wx at h;split at h
 .rename_i i hi;split at h
  .rename_i m hm;have base:∀(D:Bool),m.path.isEmpty=true->m.func=some (f,D)->(receiverAt t (.val u) D (some ((A.splitOn ".").getLastD A))).run P w=.ok u w->(method (n+1) t u A).run P w=.ok (f,u) w:=by
    simp_all[follow,Gj,method]
   unfold a6p at h;split at h
   .rename_i f' D U Z;split at h
    .rename_i Q;cases h;obtain⟨el,hd⟩:=c2d Q;simp_all[Place.get,Ax,receiverAt]
    .rename_i Q;cases h;obtain⟨d,hd,a0⟩:=c2e Q;refine base false U Z ?_;cases d<;>first|exact absurd rfl (a0 _)|simp[receiverAt,Ax hd,Place.get]
    grind
   grind
  grind
 grind
omit s in
theorem c2g(a:Value)(b:Array Value):(#[a]++b).extract 1 (#[a]++b).size=b:=by
 simp
include he
theorem c2h{c:Call}(h:o.op=.call c):RS B G P ρ H w (Bj P H ev o c) (execOp e o):=by
 unfold Bj;split
 .trivial
 .rename_i args a4;have a1:VRs ρ args (c.args.map e).toList:=by simpa using evals_VRs he a4
  split
  .rename_i b U;unfold E7;have a3:∀{x y:AV},args=[x,y]->∃u u',(c.args.map e)[0]?=some u/\(c.args.map e)[1]?=some u'/\VR ρ x u/\VR ρ y u':=by
    intro x y ha;subst ha;obtain⟨u,u',hl,A,h2⟩:=a1.two;exact⟨u,u',by rw[<- e7x,hl];rfl,by rw[<- e7x,hl];rfl,A,h2⟩
   split
   .unfold P9;split
    .rename_i x y st Z;obtain⟨u,u',Q,A,hx,hy⟩:=a3 rfl;have key:=c1u (P:=P) (ty:=o.type) s Z Q A hx hy;split
     .rename_i v H' D;obtain⟨a0,r,w',g1,g2,g3,g4,g5⟩:=key v H' D;exact⟨a0,r,w',by simp_all[Jc,builtin],g2,g3,g4,g5⟩
     .trivial
    .trivial
   .unfold a0a;split
    .rename_i x y st Z;obtain⟨u,u',Q,A,hx,hy⟩:=a3 rfl;have key:=c1v (P:=P) (ty:=o.type) s Z Q A hx hy;split
     .rename_i v H' D;obtain⟨a0,r,w',g1,g2,g3,g4,g5⟩:=key v H' D;exact⟨a0,r,w',by simp_all[Jc,builtin],g2,g3,g4,g5⟩
     .trivial
    .trivial
   .unfold Ta;split
    .rename_i x st Z;obtain⟨u,us,hl,hx,hn⟩:=a1;have Q:(c.args.map e)[0]?=some u:=by rw[<- e7x,hl];rfl
     split
     .rename_i el _ _ a5;have key:=c1w (P:=P) (ty:=o.type) s Z a5 Q hx;split
      .rename_i v H' D;obtain⟨a0,r,w',g1,g2,g3,g4,g5⟩:=key v H' D;exact⟨a0,r,w',by rw[Jc h U];simp[builtin,g1],g2,g3,g4,g5⟩
      .trivial
     .trivial
    .trivial
   .grind[c1n]
   .grind[c1o]
   .show (execOp e o).run P w=.ok .recover w;rw[Jc h U];rfl
   grind[M9]
  .rename_i a6 a7 U;unfold Tb;split
   .rename_i r D;split
    .rename_i t v hi;have hv:∃u,e a6=.iface t u/\VR ρ v u:=by
      unfold ifaceOf at hi;split at hi
      .cases hi;exact he _ _ D
      .cases hi;have:=he _ _ D;simp only[VR] at this;exact⟨_,this,rfl⟩
      grind
     obtain⟨u,hu,a8⟩:=hv;split
     .rename_i f hm;refine a0v (us:=#[u]++c.args.map e) ?_ (by grind[VRs.cons]);have hd:Made.depth=99+1:=rfl;simp only[execOp,h,resolve,U,hu,Sem.run_bind,Sem.run_pure,Result.andThen_ok,invoke,callMethod];have Q:(#[Value.iface t u]++c.args.map e)[0]?=some (Value.iface t u):=by grind
      rw[Q];simp only[c2g,Sem.run_bind,run_program,Result.andThen_ok,hd,<- e7w,c2f hm (P.types.size+99) w]
     .trivial
    .trivial
   .trivial
  .rename_i f U;unfold La;split
   .rename_i g first a2 hf;have:=he _ _ hf;simp only[VR] at this;refine a0v (us:=first++c.args.map e++a2) ?_ ?_
    .grind[invoke,Deferred.ofValue,resolve,execOp]
    .have A:=(X9 (ρ:=ρ) first.toList).append a1;simpa using A.append (X9 (ρ:=ρ) a2.toList)
   .rename_i g first a2 hf;obtain⟨f',c',hu,A,h2⟩:=he _ _ hf;refine a0v (us:=f'++c.args.map e++c') ?_ ?_
    .grind[invoke,Deferred.ofValue,resolve,execOp]
    .simpa using (A.append a1).append h2
   .trivial
omit s in
theorem c2i{c:Call}(h:o.op=.defer c):RS B G P ρ H w (Og H ev c) (execOp e o):=by
 unfold Og;split
 .rename_i args f U hc;have D:VRs ρ args (c.args.map e).toList:=by simpa using evals_VRs he U
  split
  .rename_i fn first Q A;obtain⟨Z,c',hu,h1,h2⟩:=he _ _ A;exact⟨c',Z++c.args.map e,by simp_all[Deferred.ofValue,resolve,execOp],h2,by simpa using h1.append D,rfl⟩
  .rename_i fn first Q A;have:=he _ _ A;simp only[VR] at this;exact⟨Q,first++c.args.map e,by simp_all[Deferred.ofValue,resolve,execOp],X9 _,by simpa using (X9 (ρ:=ρ) first.toList).append D,rfl⟩
  .trivial
 .trivial
theorem Ig(hG:G=P.globals.size):RS B G P ρ H w (opV P H ev o) (execOp e o):=by
 unfold opV
 cases h:o.op with
 | move x=>exact a7s s he (by grind[execOp])
 | assign x=>exact a7s s he (by grind[execOp])
 | pick c a b=>exact c0f s he h
 | alloc t=>exact c0h s h
 | box t x=>exact c0g s he h
 | build t ps=>exact c1f s he h
 | buildSlice t n ps=>exact c1g s he h
 | insert t m k x=>exact a8o s he (.inr h)
 | load t a=>exact c0i s hG he h
 | store t a x=>exact c0j s he h
 | ready g=>trivial
 | waits g=>trivial
 | nilCheck x=>exact c0k s he h
 | binOp A t x y ty=>exact c1b s he h
 | unOp A t x=>exact M9 s he (by grind)
 | convert a b x=>exact c2b s he h
 | sliceToArrayPointer t x=>trivial
 | makeInterface t x=>exact c0l s he h
 | makeFunc fn a b=>exact c0m s he h
 | makeMap t r=>exact c1i s he h
 | makeChan t x=>trivial
 | makeSlice t l c=>exact c1h s he h
 | slice t x lo hi U=>exact c1e s he h
 | fieldAddr t x f=>exact c0p s he h
 | field t x f=>exact c0r s he h
 | indexAddr t x i=>exact c0q s he h
 | index t x i=>exact c0s s he h
 | lookup t m k D=>exact c2c s he h
 | mapUpdate t m k x=>exact a8o s he (.inl h)
 | mapEntry t m k=>trivial
 | entryStore t m a x=>trivial
 | range t x=>exact c1j s he h
 | next Q b=>cases b with
  | true=>exact c1k s he h
  | false=>trivial
 | entry Q=>trivial
 | typeAssert x t a D=>exact c0t s he h
 | extract x i=>exact c0n s he h
 | call c=>exact c2h s he h
 | go c=>trivial
 | defer c=>exact c2i he h
 | panic x=>exact c0o he h
 | send a b=>trivial
 | recv t x b=>trivial
 | select a b=>trivial
end one
end
section
variable {P:Program}{ev:Ev}{o:Oper}
def Dz(f:Mem->R):Prop:=∀H v H',f H=.val v H'->H'=H/\∀H2,f H2=.val v H2
theorem Ih(r:Option AV):Dz (λH=>ofOpt H r):=by
 intro H v H' h
 cases r with
 | none=>cases h
 | some x=>cases h;exact⟨rfl,λ_=>rfl⟩
theorem free_bad:Dz (λ_=>R.bad):=λ_ _ _ h=>by cases h
theorem Gk(v:AV):Dz (λH=>R.val v H):=λ_ _ _ h=>by grind
theorem a0w(h:freeOp o.op=true):Dz (λH=>opV P H ev o):=by
 unfold opV
 cases D:o.op with
 | move x=>show Dz (λH=>Ed H (ev x));unfold Ed;(split<;>simp_all[Gk,free_bad])
 | assign x=>show Dz (λH=>Ed H (ev x));unfold Ed;(split<;>simp_all[Gk,free_bad])
 | pick c a b =>
  show Dz (λH=>Gx H (ev c) (ev a) (ev b));unfold Gx
  (split<;>simp_all[free_bad,Ih])
 | build t ps =>
  show Dz (λH=>Hb P H t (Cm ev ps.toList));unfold Hb
  (split<;>simp_all[free_bad,Ih])
 | nilCheck x =>
  show Dz (λH=>I5 P H ev o (ev x));unfold I5
  (split<;>simp_all[Ih,Gk])
 | binOp A t x y ty =>
  show Dz (λH=>Bc P H ev o A t (ev x) (ev y));unfold Bc;split
  .exact Gk _
  .split
   .exact Gk _
   .unfold Oh;split
    ·(split<;>simp_all[free_bad,Gk])
    simp[free_bad]
 | unOp A t x=>exact Ih _
 | makeInterface t x =>
  show Dz (λH=>J8 P H t (ev x));unfold J8
  (split<;>simp_all[free_bad,Gk])
 | makeFunc fn a b =>
  show Dz (λH=>Ib H fn (Be ev a.toList) (Be ev b.toList));unfold Ib
  (split<;>simp_all[free_bad,Gk])
 | slice t x lo hi Q =>
  show Dz (λH=>Cw P H ev o t (ev x) lo hi Q);unfold Cw;split
  .exact Gk _
  .unfold Gg;split
   ·(split<;>simp_all[free_bad,Ih])
   simp[free_bad]
 | fieldAddr t x f =>
  show Dz (λH=>Gy P H ev o t (ev x) f);unfold Gy Gh;split
  ·(split<;>simp_all[Ih,Gk])
  simp[free_bad]
 | field t x f =>
  show Dz (λH=>J9 P H t (ev x) f);unfold J9
  (split<;>simp_all[free_bad,Ih])
 | indexAddr t x i =>
  show Dz (λH=>Di P H ev o t (ev x) (ev i));unfold Di Gh;split
  ·(split<;>simp_all[Ih,Gk])
  simp[free_bad]
 | index t x i =>
  show Dz (λH=>I6 P H ev o t (ev x) (ev i));unfold I6;split
  ·(split<;>simp_all[Ih,Gk])
  simp[free_bad]
 | typeAssert x t a U =>
  show Dz (λH=>I7 P H ev o (ev x) a U);unfold I7;split
  .exact Gk _
  (split<;>simp_all[free_bad,Ih])
 | extract x i =>
  show Dz (λH=>Ic H (ev x) i);unfold Ic;split
  .exact Ih _
  ·(split<;>simp_all[free_bad,Gk])
  simp[free_bad]
 | _=>rw[D] at h;cases h
theorem eqV_sound:∀(n:Nat)(a b:Value),eqV n a b=true->a=b:=by
 intro n
 induction n with
 | zero =>
  intro a b h;unfold eqV at h;grind
 | succ n f =>
  intro a b h;unfold eqV at h;grind
end
theorem a8p(f:List Nat)(j:Nat):∀(l:List Edge)(s:Nat),
  (l.foldl (λs e=>match Region.binds .any e with|true=>s ||| 2 ^ e.on ||| f.getD e.on 0|false=>s) s).testBit j=true ->
  s.testBit j=true\/∃e∈l,Region.binds .any e=true/\(e.on=j\/(f.getD e.on 0).testBit j=true)
 | [],s,h=>.inl h
 | e::l,s,h=>by
  simp only[List.foldl_cons] at h;rcases a8p f j l _ h with A|⟨D,Q,U⟩
  all_goals grind
theorem ancs_spec:∀(l:List Oper)(f:List Nat)(i j:Nat),A1 (ancs f l) i j=true ->
  (i<f.length/\A1 f i j=true)\/∃o e,f.length<=i/\l[i-f.length]?=some o/\e∈o.after.toList/\Region.binds .any e=true/\(e.on=j\/(e.on<i/\A1 (ancs f l) e.on j=true))
 | [],f,i,j,h=>by
  have h' : A1 f i j=true:=h;grind[A1]
 | o::l,f,i,j,h=>by
  have pre:∀(l:List Oper)(f:List Nat)(k:Nat),k<f.length->(ancs f l).getD k 0=f.getD k 0:=by
   intro l
   induction l with
   | nil=>intro f k _;rfl
   | cons o l ih =>
    grind[ancs]
  rcases ancs_spec l (f++[a0b f o]) i j h with⟨D,A⟩|⟨Q,e,D,A,U⟩
  .simp only[W1,Xj] at D;rcases e6y i f.length with Z|Z
   .grind[A1]
   .right;have hi:i=f.length:=by omega
    subst hi;unfold A1 at A;simp only[Xo] at A;rw[Xm (Wy _)] at A;simp only[e6n,List.getElem?_cons_zero,e9h] at A;unfold a0b at A;rcases a8p f j _ 0 A with h5|⟨e,he,hb,a0⟩
    .grind
    (simp_all[A1];grind)
  .right;simp only[W1,Xj] at D A;refine⟨Q,e,by omega,?_,U⟩;grind
theorem Tn{ops:Array Oper}{listed:Nat->Prop}(f:∀i o,listed i->ops[i]?=some o->∀e∈o.after.toList,Region.binds .any e=true->listed e.on):
  ∀(i:Nat)(o:Oper)(j:Nat),ops[i]?=some o->(∀e∈o.after.toList,Region.binds .any e=true->listed e.on)->A1 (ancs [] ops.toList) i j=true->listed j:=by
 intro i
 induction i using Nat.strongRecOn with
 | _ i A =>
  intro o j D Q h;rcases ancs_spec ops.toList [] i j h with⟨U,_⟩|⟨Z,e,_,h2,he,hb,a0⟩
  all_goals grind
mutual
theorem eqAV_sound:∀(a b:AV),eqAV a b=true->a=b
 | .lit a,b,h=>by cases b<;>simp[eqAV] at h;rw[eqV_sound 4 _ _ h]
 | .ptr a i,b,h=>by cases b<;>simp[eqAV] at h;simp[h]
 | .sl a i n c,b,h=>by cases b<;>simp[eqAV] at h;simp[h]
 | .slq a i n c,b,h=>by cases b<;>simp[eqAV] at h;simp[h]
 | .es,b,h=>by cases b<;>simp[eqAV] at h;rfl
 | .map a,b,h=>by cases b<;>simp[eqAV] at h;simp[h]
 | .func f x y,b,h=>by
  cases b<;>simp[eqAV] at h;rename_i g u v;rw[h.1.1,eqAVs_sound x u h.1.2,eqAVs_sound y v h.2]
 | .iface t x,b,h=>by
  cases b<;>simp[eqAV] at h;rename_i u y;rw[h.1,eqAV_sound x y h.2]
 | .agg l,b,h=>by cases b<;>simp[eqAV] at h;rename_i m;rw[eqAVs_sound l m h]
 | .tup l,b,h=>by cases b<;>simp[eqAV] at h;rename_i m;rw[eqAVs_sound l m h]
theorem eqAVs_sound:∀(a b:List AV),eqAVs a b=true->a=b
 | [],b,h=>by cases b<;>simp[eqAVs] at h;rfl
 | x::l,b,h=>by
  cases b<;>simp[eqAVs] at h;rename_i y m;rw[eqAV_sound x y h.1,eqAVs_sound l m h.2]
end
section
variable {B G:Nat}{ρ:Rn}{H:Mem}{w:World}{P:Program}
def ND(B:Nat)(P:Program)(ρ:Rn)(w:World)(f:Nat->AV)(x:Blk)(m:Sem Next):Prop:=
 ∃ob k u w',m.run P w=.ok (.value u) w'/\w'.heap=w.heap.push ob/\w'.os=w.os/\w'.tape=w.tape/\w'.output=w.output/\w.drawn<=w'.drawn /\
  ∀nm,ρ nm=none->BR B (upd ρ nm (w.heap.size,0,k)) x w.heap.size 0 k w'/\VR (upd ρ nm (w.heap.size,0,k)) (f nm) u
theorem Tp{l:List AV}{cells:Array Value}{elem:TypeId}{m:Sem Next}{f:Nat->AV}{u:Value}(hB:B<=w.heap.size)(hc:VRs ρ l cells.toList)
  (hrun:m.run P w=.ok (.value u) { w with heap:=w.heap.push (.cells cells elem) }) (hv:∀nm,VR (upd ρ nm (w.heap.size,0,0)) (f nm) u) :
  ND B P ρ w f (.cells l true 0) m:=by
 refine⟨.cells cells elem,0,u,_,hrun,rfl,rfl,rfl,rfl,Wy _,λnm hn=>⟨⟨cells,elem,(0,0),by simp,?_,λ_=>⟨hB,by simp,by simp,.inl rfl⟩⟩,hv nm⟩⟩;intro i v hi;obtain⟨u,hu,hv⟩:=hc.get i hi;exact⟨u,by grind,hv.mono (Jb hn)⟩
def New(B:Nat)(P:Program)(ev:Ev)(o:Oper)(H:Mem)(v:AV)(H' : Mem):Prop:=
 ∃f x,v=f H.next/\H'=H.add x/\∀(ρ:Rn)(w:World)(e:Operand->Value),EvR ρ ev e->B<=w.heap.size->ND B P ρ w f x (execOp e o)
variable {ev:Ev}{o:Oper}{v:AV}{H' : Mem}
theorem c2j{t:TypeId}{x:Operand}(h:o.op=.box t x)(f:Ha H (ev x)=.val v H'):New B P ev o H v H':=by
 unfold Ha at f;split at f
 .rename_i y hy;unfold C9 at f;rw[Xy] at f;cases f;refine⟨λn=>.ptr n 0,_,rfl,rfl,λρ w e he A=>?_⟩;refine Tp A (cells:=(e x).cells) (elem:=t) (he _ _ hy).cells (u:=.pointer (some ⟨w.heap.size,0,none⟩)) ?_ λD=>⟨_,_,_,Da _ _ _,rfl⟩;simp[execOp,h,Instr.box,newVar,newRow]
 grind
theorem c2k{t:TypeId}(h:o.op=.alloc t)(f:I4 P H t=.val v H'):New B P ev o H v H':=by
 unfold I4 at f;split at f
 .rename_i l A;unfold Br at A;split at A
  .rename_i i hi;split at A
   .rename_i zv hz;cases A;unfold C9 at f;rw[Xy] at f;cases f;refine⟨λn=>.ptr n 0,_,rfl,rfl,λρ w e he D=>?_⟩;refine Tp D (cells:=zv.cells) (elem:=t) (X9 _) (u:=.pointer (some ⟨w.heap.size,0,none⟩)) ?_ λQ=>⟨_,_,_,Da _ _ _,rfl⟩;simp_all[Et,newRow,newVar,Instr.alloc,execOp]
   grind
  grind
 grind
theorem c2l{t:TypeId}{r:Option Operand}(h:o.op=.makeMap t r)(hv:Gf P H ev t r=.val v H'):New B P ev o H v H':=by
 have key:(∀(ρ:Rn)(w:World)(e:Operand->Value),EvR ρ ev e->(execOp e o).run P w=.ok (.value (.map (some w.heap.size))) { w with heap:=w.heap.push (.map #[] 0) }) ->
   (H.newK (.map [] 0) λH2=>R.val (.map H.next) H2)=.val v H'->New B P ev o H v H':=by
  intro hrun hv;rw[Xy] at hv;cases hv;refine⟨λn=>.map n,_,rfl,rfl,λρ w e he hB=>?_⟩;exact⟨_,0,_,_,hrun ρ w e he,rfl,rfl,rfl,rfl,Wy _,λnm hn=>⟨⟨#[],by simp,rfl,hB⟩,⟨_,_,_,Da _ _ _,rfl⟩⟩⟩
 unfold Gf at hv;split at hv
 .simp_all[Instr.makeMap,execOp]
 .rename_i x;split at hv
  .rename_i k y kk n hd hy;refine key (λρ w e he=>?_) hv;have hu:=he _ _ hy;simp_all[VR,asIntOf,asInt,Ax,Instr.makeMap,execOp]
  grind
theorem c2m{t:TypeId}{len:Nat}{parts:Array (Nat×Operand)}(h:o.op=.buildSlice t len parts)(f:Fq P H t len (Cm ev parts.toList)=.val v H'):New B P ev o H v H':=by
 unfold Fq at f;split at f
 .rename_i el size bytes ps Q U;obtain⟨hd,i,zv,hi,rfl,rfl,hz,hzs⟩:=Lk Q;split at f
  .rename_i z Z a0;split at f
   .rename_i l hl;unfold C9 at f;rw[Xy] at f;cases f;refine⟨λn=>.sl n 0 len len,_,rfl,rfl,λρ w e he hB=>?_⟩;have a1:=evalParts_PR he U;obtain⟨A,a5,a6,a7,a8⟩:=Qs (ρ:=ρ) hi hz a0 w;have a2:VRs ρ (rep z len) ((Array.range (len*i.size)).map (A[· % A.size]!)).toList:=by
     by_cases D:len*i.size=0
     .have a3:z=[]:=by simp_all[Ea]
      subst a3;rw[D];have:rep [] len=[]:=by have:=Oq [] len;simp_all
      grind
     grind[Ot]
    obtain⟨cs,h1,h2,h3⟩:=Qr (place':=λj=>some (j*i.size,i.size)) (λ_ _ hr=>hr) a1 a2 hl;have a9:len*i.size<=1048576:=Wz Z;refine Tp hB (cells:=cs) (elem:=el) h2 (u:=.slice (some ⟨w.heap.size,0,none⟩) len len) ?_ λnm=>⟨_,_,_,Da _ _ _,Wy _,rfl⟩;have a4:¬(len*i.size > 2 ^ 24):=by omega
    simp only[execOp,h,Instr.buildSlice,Sem.run_bind,Ax hd,Result.andThen_ok,Ca hi];simp only[a4,if_false];by_cases D:len*i.size=0
    all_goals simp_all[newRow,Et]
   grind
  grind
 grind
theorem c2n{t:TypeId}{l c:Operand}(h:o.op=.makeSlice t l c)(f:Ec P H t (ev l) (ev c)=.val v H'):New B P ev o H v H':=by
 unfold Ec at f;split at f
 .rename_i el size bytes n k Z hn hk;obtain⟨hd,i,zv,hi,rfl,rfl,hz,hzs⟩:=Lk Z;split at f
  .rename_i z A a0;unfold C9 at f;rw[Xy] at f;cases f;refine⟨λQ=>.sl Q 0 n k,_,rfl,rfl,λρ w e he hB=>?_⟩;have U:∀{x:Operand}{m:Nat},(ev x).bind natOf=some m->∃kk,e x=.int kk m:=by
    intro x m hx
    cases a7:ev x with
    | none=>grind
    | some v=>grind[Ke]
   obtain⟨k1,a1⟩:=U hn;obtain⟨k2,a2⟩:=U hk;simp only[W0] at A;have a3:n<=k:=Wz A.1.1;have a4:k<=1048576:=Wz A.1.2;have hb20:i.bytes<=1048576:=Wz A.2;obtain⟨D,a8,a9,b0,b1⟩:=Qs (ρ:=ρ) hi hz a0 w;have a5:VRs ρ (rep z k) ((Array.range (k*i.size)).map (D[· % D.size]!)).toList:=by
    by_cases h0:k*i.size=0
    .have a6:z=[]:=by simp_all[Ea]
     subst a6;rw[h0];have:rep [] k=[]:=by have:=Oq [] k;simp_all
     grind
    grind[Ot]
   refine Tp hB (cells:=(Array.range (k*i.size)).map (D[· % D.size]!)) (elem:=el) a5 (u:=.slice (some ⟨w.heap.size,0,none⟩) n k) ?_ λQ=>⟨_,_,_,Da _ _ _,a3,rfl⟩;have w1:IntKind.i64.wrap (n:Int)=n:=Na (by omega);have w2:IntKind.i64.wrap (k:Int)=k:=Na (by omega);have b2:(i.bytes:Int)*k<=2 ^ 48:=by
    have:i.bytes*k<=1099511627776:=W6 (e6m hb20 a4) (by decide);grind
   simp only[execOp,h,Instr.makeSlice,Sem.run_bind,Ax hd,Result.andThen_ok,Gj hi,a1,a2,asInt,asIntOf,Sem.run_pure,w1,w2];have c1:¬((k:Int)<0):=by omega
   have c2:¬((n:Int)<0):=by omega
   have c3:¬((n:Int) > (k:Int)):=by omega
   have c4:¬((i.bytes:Int)*k > 2 ^ 48):=by omega
   simp only[c1,c2,c3,c4,decide_false,e7y,e8z,if_false,run_askRoom,Result.andThen_ok,Sem.run_bind,Ca hi,e7b]
   (split<;>simp_all[newRow,Et])
  grind
 grind
theorem a8q{f:Op}(h:cls f=.alloc):(∃t,f=.alloc t)\/(∃t x,f=.box t x)\/(∃t n ps,f=.buildSlice t n ps)\/(∃t l c,f=.makeSlice t l c)\/(∃t r,f=.makeMap t r):=by
 (simp_all[cls];grind)
theorem a0x(h:cls o.op=.alloc)(A:opV P H ev o=.val v H'):New B P ev o H v H':=by
 unfold opV at A;rcases a8q h with⟨t,f⟩|⟨t,x,f⟩|⟨t,n,ps,f⟩|⟨t,l,c,f⟩|⟨t,r,f⟩<;>rw[f] at A
 .exact c2k f A
 .exact c2j f A
 .exact c2m f A
 .exact c2n f A
 .exact c2l f A
end
def Gr(r r' : T2 AV):Prop:=∀j v,B9 r j=some v->B9 r' j=some v
theorem Gr.refl(r:T2 AV):Gr r r:=λ_ _ h=>h
abbrev Yo:=@Gr.refl
theorem Gr.trans{a b c:T2 AV}(h:Gr a b)(k:Gr b c):Gr a c:=λj v e=>k j v (h j v e)
theorem Ll{res:T2 AV}{i:Nat}{v:AV}{K:T2 AV->Out}{out:Out}(h:I8 res i v K=out)(a0:out≠.bad):
  ∃f,K f=out/\Gr res f/\B9 f i=some v:=by
 unfold I8 at h;split at h
 .rename_i he;rw[M8] at h;refine⟨_,h,?_,?_⟩
  .intro j y A;unfold B9 at A |-;have a1:d0 i=d0 j->d1 i=d1 j->False:=by
    intro Q U;unfold a6v at he;rw[Q,U] at he
    cases Z:gN (d1 j) (gN (d0 j) res) with
    | e=>rw[Z] at A;cases A
    | v k x=>simp_all
   unfold u2;rcases X1 (d0 i) (d0 j) with D|D
   .rw[D,Fb];rcases X1 (d1 i) (d1 j) with h1|h1
    all_goals grind[Fc]
   grind[Fc]
  .unfold B9;rw[a0h];show Bool.rec (motive:=λ_=>Option AV) none (some v) (Nat.beq i i)=some v;simp
 grind
theorem Lm{t:Nat}:∀{l:List Oper}{k j:Nat},Gz t l k=some j->k<=j/\∃o,l[j-k]?=some o/\o.dst=some t
 | [],_,_,h=>by cases h
 | o::l,k,j,h=>by
  unfold Gz at h
  cases hd:o.dst with
  | none =>
   rw[hd] at h;obtain⟨f,A,D,Q⟩:=Lm h;grind
  | some d =>
   rw[hd] at h;dsimp only at h
   cases U:Nat.beq d t with
   | true =>
    simp_all
   | false =>
    rw[U] at h;obtain⟨f,A,D,Q⟩:=Lm h;grind
theorem Lp{ops:List Oper}:∀{l:List Oper}{k:Nat},fit ops l k=true->∀i o,l[i]?=some o->Ka ops o (k+i)=true
 | [],_,_,i,o,h=>by grind
 | x::l,k,h,i,o,f=>by
  simp only[fit,W0] at h
  cases i with
  | zero=>grind
  | succ i =>
   have:=Lp h.2 i o (by grind);grind
theorem mem_chainOf:∀{l:List Oper}{k i:Nat},i∈chainOf l k↔k<=i/\∃o,l[i-k]?=some o/\Cj o.op=true
 | [],k,i=>by simp[chainOf]
 | x::l,k,i=>by
  have f:=@mem_chainOf l (k+1) i;have h:∀{o:Oper},k+1<=i->((x::l)[i-k]?=some o↔l[i-(k+1)]?=some o):=by
   grind
  unfold chainOf;grind
theorem Ii{tab cs:List Nat}{s:Nat}:∀{l:List Oper}{k i:Nat},i∈Es tab cs s l k↔k<=i/\∃o,l[i-k]?=some o/\Cj o.op=false/\Ee tab i cs=s
 | [],k,i=>by simp[Es]
 | x::l,k,i=>by
  have f:=@Ii tab cs s l (k+1) i;have h:∀{o:Oper},k+1<=i->((x::l)[i-k]?=some o↔l[i-(k+1)]?=some o):=by
   grind
  have A:(!Cj x.op&&Nat.beq (Ee tab k cs) s)=true↔Cj x.op=false/\Ee tab k cs=s:=by
   simp
  unfold Es;grind
theorem a8r{tab:List Nat}{i:Nat}:∀{l:List Nat},(∀c∈l,A1 tab i c=false)->Ee tab i l=0
 | [],_=>rfl
 | c::l,h=>by
  unfold Ee;rw[h c (by simp)];exact a8r λc f=>h c (by simp[f])
theorem a0y{tab:List Nat}{i:Nat}{cs:List Nat}(h:∀c∈cs,A1 tab i c=false):∀{dn:List Nat},Ee tab i (dn++cs)<=dn.length
 | []=>by simp_all[a8r]
 | c::dn=>by
  have f:=a0y h (dn:=dn);rw[e8r];unfold Ee;split<;>simp<;>omega
theorem Qu{tab:List Nat}{c:Nat}{cs:List Nat}:∀{dn:List Nat},Ie tab (dn++c::cs)=true->∀j∈cs,∃p∈c::cs,A1 tab j p=true
 | [],h,j,f=>by
  have:∀(c:Nat)(cs:List Nat),Ie tab (c::cs)=true->∀j∈cs,∃p∈c::cs,A1 tab j p=true:=by
   intro c cs
   induction cs generalizing c with
   | nil=>grind
   | cons d cs A =>
    intro h j f;simp only[Ie,W0] at h;grind
  grind
 | d::dn,h,j,f=>by
  refine Qu (dn:=dn) ?_ j f
  cases dn with
  | nil=>simp_all[Ie]
  | cons x dn=>simp_all[Ie]
section
variable {B G:Nat}{P:Program}{ops:Array Oper}{tab:List Nat}{fr0:Fr}
def Ls(B:Nat)(P:Program)(ops:Array Oper)(tab:List Nat)(fr0:Fr)(res:T2 AV)(held:List Nat)(als:Als)(i:Nat)(o:Oper):Prop:=
  ∃r0 v,Gr r0 res/\B9 res i=some v /\
    ((Ol tab r0 i o=some false/\v=.lit undef) \/
     (Ol tab r0 i o=some true /\
      ((cls o.op=.free/\∀H,opV P H (env ops tab fr0 r0 i) o=.val v H) \/
       (cls o.op=.gen/\A3 P (env ops tab fr0 r0 i) o=some v) \/
       (cls o.op=.read/\i∈held) \/
       (∃f x nm,(∀(ρ:Rn)(w:World)(e:Operand->Value),EvR ρ (env ops tab fr0 r0 i) e->B<=w.heap.size->ND B P ρ w f x (execOp e o))/\v=f nm/\(i,nm,x)∈als))))
theorem Ls.mono{res Q:T2 AV}{held U:List Nat}{als Z:Als}{i:Nat}{o:Oper}(h:Ls B P ops tab fr0 res held als i o)(hg:Gr res Q)
  (hh:i∈held->i∈U) (ha:∀D x,(i,D,x)∈als->(i,D,x)∈Z):Ls B P ops tab fr0 Q U Z i o:=by
 obtain⟨r0,v,h1,h2,h3⟩:=h;refine⟨r0,v,h1.trans hg,hg _ _ h2,h3.imp id λ⟨h4,A⟩=>⟨h4,A.imp id λA=>A.imp id λA=>A.imp ?_ ?_⟩⟩
 .grind
 .exact λ⟨f,x,D,a,b,c⟩=>⟨f,x,D,a,b,ha _ _ c⟩
structure Ph (H H' : Mem):Prop where
 sim:∀{B G:Nat}{ρ:Rn}{w:World},Sim B G ρ H w->Sim B G ρ H' w
 le:H.next<=H'.next
theorem Ph.refl(H:Mem):Ph H H:=⟨id,Wy _⟩
abbrev Yd:=@Ph.refl
theorem Ph.trans{a b c:Mem}(h:Ph a b)(k:Ph b c):Ph a c:=⟨λs=>k.sim (h.sim s),W6 h.le k.le⟩
theorem Ph.add(H:Mem)(x:Blk):Ph H (H.add x):=by
 refine⟨λ{B G ρ w} s=>?_,W4 _⟩;refine⟨?_,?_,λa f=>s.fresh a (Nat.le_of_succ_le f),?_,e7l s.names,s.base⟩
 .intro a y hy;rcases X2 hy with⟨rfl,rfl⟩|⟨A,hy⟩
  .exact .inl s.none
  .exact s.blk a y hy
 .intro a Z y y' b o k o' k' h h' A ho Q U;rcases X2 h with⟨D,_⟩|⟨_,g⟩
  .subst D;rw[s.none] at Q;grind
  .rcases X2 h' with⟨D,_⟩|⟨_,g'⟩
   .subst D;rw[s.none] at U;grind
   .exact s.inj a Z y y' b o k o' k' g g' A ho Q U
 .intro a y f hy;rcases X2 hy with⟨rfl,_⟩|⟨A,hy⟩
  .have:=s.names;omega
  .exact s.glob a y f hy
structure Ef (n:Nat) (H:Mem) (als:Als):Prop where
 lo:∀x∈als,n<=x.2.1
 hi:∀x∈als,x.2.1<H.next
 own:∀x∈als,∀y∈als,x.2.1=y.2.1->x=y
theorem Ef.nil(n:Nat)(H:Mem):Ef n H []:=⟨(λ_ h=>(by cases h)),(λ_ h=>(by cases h)),(λ_ h=>(by cases h))⟩
theorem Ef.sub{n:Nat}{H H': Mem}{als A:Als}(h:Ef n H als)(f:∀x∈A,x∈als)(D:H.next<=H'.next):Ef n H' A:=
 ⟨λx hx=>h.lo x (f x hx),λx hx=>Xg (h.hi x (f x hx)) D,λx hx y hy=>h.own x (f x hx) y (f y hy)⟩
theorem Ef.cons{n:Nat}{H:Mem}{als:Als}(h:Ef n H als)(f:n<=H.next)(i:Nat)(x b:Blk):Ef n (H.add b) ((i,H.next,x)::als):=by
 refine⟨?_,?_,?_⟩
 .intro y hy;rcases Xb.1 hy with rfl|hy
  .grind
  .exact h.lo y hy
 .intro y hy;rcases Xb.1 hy with rfl|hy
  .exact e8w _
  .exact e7n (h.hi y hy)
 .intro y hy z hz e;rcases Xb.1 hy with rfl|hy<;>rcases Xb.1 hz with rfl|hz
  .rfl
  .have:=h.hi z hz;grind
  .have:=h.hi y hy;grind
  .exact h.own y hy z hz e
structure Found (B:Nat) (P:Program) (ops:Array Oper) (tab:List Nat) (fr0:Fr) (L:List Nat) (res:T2 AV) (H:Mem) (held:List Nat) (als:Als) (res' : T2 AV) (H' : Mem) (held' : List Nat) (als' : Als):Prop where
 gr:Gr res res'
 ph:Ph H H'
 keepH:∀i∈held,i∈held'
 keepA:∀x∈als,x∈als'
 new:∀x∈als',x∈als\/H.next<=x.2.1
 ok:∀n,n<=H.next->Ef n H als->Ef n H' als'
 known:∀i∈L,∀o,ops[i]?=some o->Ls B P ops tab fr0 res' held' als' i o
variable {L:List Nat}{res:T2 AV}{H:Mem}{held:List Nat}{als:Als}{K:StF}{out:Out}
theorem c2o{i:Nat}{o:Oper}(ho:ops[i]?=some o)(hk:Cj o.op=false)(hn:cls o.op≠.no)(h:a0e P ops tab fr0 i res H held als K=out)(a2:out≠.bad):
  ∃A H' a0 a1,K A H' a0 a1=out/\Found B P ops tab fr0 [i] res H held als A H' a0 a1:=by
 have only:∀{A:T2 AV}{a0:List Nat}{a1:Als},Ls B P ops tab fr0 A a0 a1 i o->∀j∈[i],∀o',ops[j]?=some o'->Ls B P ops tab fr0 A a0 a1 j o':=by
  grind
 unfold a0e at h;rw[ho] at h;dsimp only at h;split at h
 .rename_i hw;obtain⟨A,U,D,Z⟩:=Ll h a2;exact⟨A,H,held,als,U,D,Yd _,λ_ h=>h,λ_ h=>h,λ_ h=>.inl h,λ_ _ h=>h,only ⟨res,_,D,Z,.inl ⟨hw,rfl⟩⟩⟩
 .rename_i hw;split at h
  .rename_i hc;split at h
   .rename_i v H' Q;split at h
    .rename_i b hb;obtain⟨f,x,e1,e2,a3⟩:=a0x (B:=B) hc Q;subst e1;subst e2;have a4:b=x:=by
      rcases X2 hb with⟨_,e⟩|⟨e,_⟩
      all_goals grind
     subst a4;obtain⟨A,U,D,Z⟩:=Ll h a2;refine⟨A,_,held,_,U,D,Ph.add _ _,λ_ h=>h,λ_ h=>e6h _ h,?_,λn hn hk=>hk.cons hn i b b,only ?_⟩
     .grind
     .exact⟨res,_,D,Z,.inr ⟨hw,.inr (.inr (.inr ⟨f,b,H.next,a3,rfl,by simp⟩))⟩⟩
    grind
   grind
  .rename_i hc;split at h
   .rename_i v Q;obtain⟨A,U,D,Z⟩:=Ll h a2;refine⟨A,H,i::held,als,U,D,Yd _,λ_ h=>e6h _ h,λ_ h=>h,λ_ h=>.inl h,λ_ _ h=>h,only ?_⟩;exact⟨res,_,D,Z,.inr ⟨hw,.inr (.inr (.inl ⟨hc,by simp⟩))⟩⟩
   grind
  .rename_i a6 a7;split at h
   .rename_i v Q;obtain⟨A,U,D,Z⟩:=Ll h a2;refine⟨A,H,held,als,U,D,Yd _,λ_ h=>h,λ_ h=>h,λ_ h=>.inl h,λ_ _ h=>h,only ?_⟩;refine⟨res,_,D,Z,.inr ⟨hw,?_⟩⟩
    cases hc:cls o.op with
    | free =>
     left;refine⟨rfl,?_⟩;unfold quiet at Q;rw[hc] at Q;dsimp only at Q;have hf:freeOp o.op=true:=by
      cases hf:freeOp o.op with
      | true=>rfl
      | false =>
       (simp_all[cls];grind)
     split at Q
     .rename_i v' H' a5;cases Q;intro H2;have a8:=a0w hf H v H' a5;grind
     grind
    | gen =>
     right;left;refine⟨rfl,?_⟩;grind[quiet]
    | read=>grind
    | alloc=>grind
    | chain=>grind[Cj]
    | no=>grind
   grind
 grind
theorem stage_sound:∀(L:List Nat)(res:T2 AV)(H:Mem)(held:List Nat)(als:Als),(∀i∈L,∃o,ops[i]?=some o/\Cj o.op=false/\cls o.op≠.no) ->
  Qi P ops tab fr0 L res H held als K=out->out≠.bad ->
  ∃Q H' U Z,K Q H' U Z=out/\Found B P ops tab fr0 L res H held als Q H' U Z
 | [],res,H,held,als,_,h,_=>⟨res,H,held,als,h,Yo _,Yd _,λ_ h=>h,λ_ h=>h,λ_ h=>.inl h,λ_ _ h=>h,λ_ h=>by cases h⟩
 | i::L,res,H,held,als,hL,h,a0=>by
  obtain⟨o,ho,A,f⟩:=hL i (by simp);obtain⟨r1,H1,a2,a3,h1,f1⟩:=c2o (B:=B) ho A f h a0;obtain⟨r2,H2,a4,a5,h2,f2⟩:=stage_sound L r1 H1 a2 a3 (λi hi=>hL i (by grind)) h1 a0;refine⟨r2,H2,a4,a5,h2,f1.gr.trans f2.gr,f1.ph.trans f2.ph,λi hi=>f2.keepH i (f1.keepH i hi),λx hx=>f2.keepA x (f1.keepA x hx),?_,?_,?_⟩
  .intro x hx;rcases f2.new x hx with h|h
   .exact f1.new x h
   .exact .inr (W6 f1.ph.le h)
  .intro n f A;exact f2.ok n (W6 f f1.ph.le) (f1.ok n f A)
  .intro j D o' a1;rcases Xb.1 D with rfl|D
   .exact(f1.known j (by simp) o' a1).mono f2.gr (λh=>f2.keepH _ h) λnm x h=>f2.keepA _ h
   .exact f2.known j D o' a1
end
section
variable {B G:Nat}{P:Program}
variable {ρ':Rn}{o:Oper}{ops:Array Oper}
def DR(ρ:Rn):List Dfr->List Deferred->Prop
 | [],ds=>ds=[]
 | (fn,cap,args)::l,ds=>∃(cs as:Array Value)(ds' : List Deferred),ds = { target:=.fn fn cs,args:=as }::ds'/\VRs ρ cap cs.toList/\VRs ρ args as.toList/\DR ρ l ds'
theorem DR.mono{ρ:Rn}(h:Sub ρ ρ'):∀{l:List Dfr}{ds:List Deferred},DR ρ l ds->DR ρ' l ds
 | [],_,r=>r
 | _::_,_,⟨cs,as,f,e,a,b,c⟩=>⟨cs,as,f,e,a.mono h,b.mono h,DR.mono h c⟩
structure Dj (n:Nat) (ρ:Rn) (fr:Fr) (a:Act):Prop where
 slot:∀t v,fr.get t=some v->t<n->VR ρ v (a.tmps.getD t undef)
 dfr:DR ρ fr.defers a.defers
 size:n<=a.tmps.size
 only:∀t v,fr.get t=some v->t<n
structure St (B G n n0:Nat) (ρ0:Rn) (w0:World) (ρ:Rn) (fr:Fr) (H:Mem) (a:Act) (w:World):Prop where
 ext:Ext B n0 ρ0 w0 ρ w
 sim:Sim B G ρ H w
 frel:Dj n ρ fr a
 le:n0<=H.next
variable {n n0:Nat}{ρ0 ρ:Rn}{w0 w:World}{fr:Fr}{H:Mem}{a:Act}
theorem St.ev(s:St B G n n0 ρ0 w0 ρ fr H a w):EvR ρ fr.ev a.eval:=by
 intro x v h
 cases x with
 | tmp t=>exact s.frel.slot t v h (s.frel.only t v h)
 | const c=>cases h;rfl
 | global g=>cases h;rfl
 | func f=>cases h;rfl
theorem Dj.put{u:Value}{v:AV}{d:Option Tmp}(h:Dj n ρ fr a)(hd:∀t,d=some t->t<n)(D:VR ρ v u):Dj n ρ (fr.put d v) (a.put d u):=by
 cases d with
 | none=>exact h
 | some t =>
  have ht:=hd t rfl;refine⟨?_,?_,?_,?_⟩
  .intro j y hy f;rcases Yg hy with⟨rfl,rfl⟩|⟨A,hy⟩
   .show VR ρ y ((a.tmps.setIfInBounds j u).getD j undef);have:j<a.tmps.size:=Xg ht h.size;simp_all
   .show VR ρ y ((a.tmps.setIfInBounds t u).getD j undef);rw[Array.getD_eq_getD_getElem?,Array.getElem?_setIfInBounds];have:=h.slot j y hy f
    (split<;>simp_all)
  .show DR ρ (fr.upd t v).defers a.defers;rw[Yk];exact h.dfr
  .show n<=(a.tmps.setIfInBounds t u).size;simp;exact h.size
  .intro j y hy;rcases Yg hy with⟨rfl,rfl⟩|⟨A,hy⟩
   .grind
   .exact h.only j y hy
theorem Dj.mono(h:Dj n ρ fr a)(f:Sub ρ ρ'):Dj n ρ' fr a:=
 ⟨λt v A ht=>(h.slot t v A ht).mono f,h.dfr.mono f,h.size,h.only⟩
theorem St.step{H': Mem}{f:World}{v:AV}{u:Value}{d:Option Tmp}(s:St B G n n0 ρ0 w0 ρ fr H a w)(he:Ext B H.next ρ w ρ' f)(h:Sim B G ρ' H' f)(A:VR ρ' v u)(D:H.next<=H'.next)
  (hd:∀t,d=some t->t<n):St B G n n0 ρ0 w0 ρ' (fr.put d v) H' (a.put d u) f:=
 ⟨s.ext.trans he s.le,h,(s.frel.mono (he.sub s.sim)).put hd A,W6 s.le D⟩
def C5(B G n n0:Nat)(ρ0:Rn)(w0:World)(out:Out):Exit->Act->World->Prop:=λe a' w' =>
 match out,e with
 | .norm fr H,.normal=>∃ρ',St B G n n0 ρ0 w0 ρ' fr H a' w'
 | .exit id fr H,.exit id'=>id'=id/\∃ρ',St B G n n0 ρ0 w0 ρ' fr H a' w'
 | .ret fr H,.ret=>∃ρ',St B G n n0 ρ0 w0 ρ' fr H a' w'
 | .panic v fr H,.panic chain=>∃ρ' u,chain=[{ v:=u,recovered:=false }]/\VR ρ' v u/\St B G n n0 ρ0 w0 ρ' fr H a' w'
 | _,_=>False
def Jd(B G n0:Nat)(ρ0:Rn)(w0:World)(r:Ay):Ending->World->Prop:=λe w' =>
 match r,e with
 | .ret v H,.returned u=>∃ρ',Ext B n0 ρ0 w0 ρ' w'/\Sim B G ρ' H w'/\VR ρ' v u/\n0<=H.next
 | .panic v H,.panicked chain=>∃ρ' u,chain=[{ v:=u,recovered:=false }]/\VR ρ' v u/\Ext B n0 ρ0 w0 ρ' w'/\Sim B G ρ' H w'/\n0<=H.next
 | _,_=>False
def A4(B G:Nat)(P:Program)(callf:CallF):Prop:=∀f args H,callf f args H≠.bad->∀(ρ:Rn)(us:Array Value)(w:World),Sim B G ρ H w->VRs ρ args us.toList ->
 Calls P f us w (Jd B G H.next ρ w (callf f args H))
theorem Fe(h:B6 n o=true):∀t,o.dst=some t->t<n:=by
 intro t ht;simp_all[B6]
theorem Tr{g:Nat×Bool}{b:Bool}(s:St B G n n0 ρ0 w0 ρ fr H a w)(Z:o.guard=some g)(h:Lb ops fr g=some b):
  Region.wanted o (yielded ops a.tmps)=b:=by
 obtain⟨j,a0⟩:=g;have D:∀{d:Tmp}{v:AV},fr.get d=some v->∃u,a.tmps[d]?=some u/\VR ρ v u:=by
  intro d v f;have Q:=s.frel.only d v f;have:=s.frel.slot d v f Q;have a3:d<a.tmps.size:=Xg Q s.frel.size;simp_all
 unfold Lb at h;split at h
 .rename_i U hy;unfold a0c at hy;split at hy
  .rename_i oj a1;split at hy
   .rename_i d hd;split at hy
    .rename_i bb A;cases hy;obtain⟨u,hu,f⟩:=D A;cases f;have a2:yielded ops a.tmps j=some U:=by grind[yielded]
     simp only[Region.wanted,Z,a2];revert h;cases U<;>cases a0<;>simp<;>exact λh=>h ▸ rfl
    grind
   grind
  grind
 .split at h
  .rename_i oj a1;split at h
   .rename_i d hd;split at h
    .rename_i vs A;cases h;obtain⟨u,hu,f⟩:=D A;cases f;grind[yielded,Region.wanted]
    grind
   grind
  grind
theorem He(ρ:Rn):VR ρ (.lit undef) undef:=rfl
theorem a8s{callf:CallF}{a2:List Oper}{k:Fr->Mem->Out}{out:Out}(hc:A4 B G P callf)(hG:G=P.globals.size)(a5:B6 n o=true)
  (s:St B G n n0 ρ0 w0 ρ fr H a w)
  (hk:∀(a3:Fr)(H' : Mem)(ρ' : Rn)(a' : Act)(w' : World),St B G n n0 ρ0 w0 ρ' a3 H' a' w'->k a3 H'=out->wpList P ops (C5 B G n n0 ρ0 w0 out) a2 a' w')
  (h:after callf o fr k (opV P H fr.ev o)=out) (a4:out≠.bad) :
  o.wp P a w (wpList P ops (C5 B G n n0 ρ0 w0 out) a2) (C5 B G n n0 ρ0 w0 out):=by
 have D:=Ig (o:=o) s.sim s.ev hG;have hd:=Fe a5;unfold Oper.wp;unfold after at h
 cases Z:opV P H fr.ev o with
 | val v H' =>
  rw[Z] at D h;obtain⟨ρ',u,w',U,Q,h3,h4,h5⟩:=D;rw[U];have A:k (fr.put o.dst v) H'=out:=by
   have:(fr.putK o.dst v λfr=>k fr H')=out:=h;grind[Fr.putK_eq]
  exact hk _ _ _ _ _ (s.step Q h3 h4 h5 hd) A
 | skip H' =>
  rw[Z] at D h;obtain⟨ρ',w',U,Q,h3,h5⟩:=D;rw[U];have A:k (fr.put o.dst (.lit undef)) H'=out:=by
   have:(fr.putK o.dst (.lit undef) λfr=>k fr H')=out:=h;grind[Fr.putK_eq]
  exact hk _ _ _ _ _ (s.step Q h3 (He _) h5 hd) A
 | enter f args H' =>
  rw[Z] at D h;obtain⟨us,U,Q,rfl⟩:=D;rw[U]
  have A:(match callf f args H' with
   | .ret v H=>fr.putK o.dst v λfr=>k fr H
   | .panic v H=>.panic v fr H
   | .bad=>.bad)=out:=h
  cases a0:callf f args H' with
  | bad=>grind
  | ret v H2 =>
   rw[a0] at A;dsimp only at A;rw[X3] at A;have:=hc f args H' (by grind) ρ us w s.sim Q;rw[a0] at this;refine this.mono λe w' he=>?_
   cases e with
   | returned u =>
    obtain⟨ρ',g1,g2,g3,g4⟩:=he;exact hk _ _ _ _ _ (s.step g1 g2 g3 g4 hd) A
   | panicked a6=>exact he.elim
   | outgrown=>exact he.elim
  | panic v H2 =>
   rw[a0] at A;dsimp only at A;have:=hc f args H' (by grind) ρ us w s.sim Q;rw[a0] at this;refine this.mono λe w' he=>?_
   cases e with
   | returned u=>exact he.elim
   | panicked a6 =>
    obtain⟨ρ',u,g0,g1,g2,g3,g4⟩:=he;subst A;exact⟨ρ',u,g0,g1,s.ext.trans g2 s.le,g3,s.frel.mono (g2.sub s.sim),W6 s.le g4⟩
   | outgrown=>exact he.elim
 | dfr fn a1 args H' =>
  rw[Z] at D h;obtain⟨cs,as,U,Q,h3,rfl⟩:=D;rw[U];have A:k ((fr.defer (fn,a1,args)).put o.dst (.lit undef)) H'=out:=by
   have:((fr.defer (fn,a1,args)).putK o.dst (.lit undef) λfr=>k fr H')=out:=h;grind[Fr.putK_eq]
  have hf:Dj n ρ (fr.defer (fn,a1,args)) { a with defers:={ target:=.fn fn cs,args:=as }::a.defers }:=
   ⟨λt v hv ht=>s.frel.slot t v (by grind[Fr.get_defer]) ht,by rw[Y4];exact⟨cs,as,_,rfl,Q,h3,s.frel.dfr⟩,s.frel.size,
    λt v hv=>s.frel.only t v (by grind[Fr.get_defer])⟩
  exact hk _ _ _ _ _ ⟨s.ext,s.sim,hf.put hd (He _),s.le⟩ A
 | recover=>rw[Z] at h;exact absurd h.symm a4
 | panic v H' =>
  rw[Z] at D h;obtain⟨u,U,Q,rfl⟩:=D;rw[U];have A:Out.panic v fr H'=out:=h;subst A;exact⟨ρ,u,rfl,Q,s⟩
 | bad=>rw[Z] at h;exact absurd h.symm a4
theorem a0z{callf:CallF}(hc:A4 B G P callf)(hG:G=P.globals.size){out:Out}(a0:out≠.bad):∀(l:List Oper)(fr:Fr)(H:Mem)(ρ:Rn)(a:Act) (w:World),
  (∀o∈l,B6 n o=true)->St B G n n0 ρ0 w0 ρ fr H a w->Oj P callf ops l fr H=out->wpList P ops (C5 B G n n0 ρ0 w0 out) l a w
 | [],fr,H,ρ,a,w,_,s,h=>by
  have:Out.norm fr H=out:=h;subst this;exact wpList_nil ⟨ρ,s⟩
 | o::l,fr,H,ρ,a,w,hd,s,h=>by
  have f:Lc P callf ops o fr H (Oj P callf ops l)=out:=h;have a1:=hd o (by simp);have A:∀(D:Fr)(H' : Mem)(ρ' : Rn)(Q:Act)(U:World),St B G n n0 ρ0 w0 ρ' D H' Q U->Oj P callf ops l D H'=out->wpList P ops (C5 B G n n0 ρ0 w0 out) l Q U:=
   λD H' ρ' Q U s' A=>a0z hc hG a0 l D H' ρ' Q U (λo ho=>hd o (by grind)) s' A
  unfold Lc at f;unfold wpList
  cases hg:o.guard with
  | none =>
   rw[hg] at f;rw[if_pos (by grind[Region.wanted])];exact .inl (a8s hc hG a1 s A f a0)
  | some g =>
   rw[hg] at f;have Z:Qf P callf ops o fr H (Oj P callf ops l) g=out:=f;unfold Qf at Z;split at Z
   .rename_i hw;rw[if_pos (Tr s hg hw)];grind[a8s]
   .rename_i hw;rw[if_neg (by grind[Tr])];rw[X3] at Z;exact A _ _ _ _ _ ⟨s.ext,s.sim,s.frel.put (Fe a1) (He _),s.le⟩ Z
   grind
end
section
variable {B G:Nat}{P:Program}{ops:Array Oper}{tab:List Nat}{fr0:Fr}{callf:CallF}
variable {H:Mem}{c:Nat}
theorem a8t{ev:Ev}{o:Oper}{H': Mem}{v:AV}(h:cls o.op=.read)(f:opV P H ev o=.val v H'):H'=H:=by
 have Z:∀{r:Option AV},ofOpt H r=.val v H'->H'=H:=by
  intro r D
  cases r with
  | none=>cases D
  | some x=>cases D;rfl
 unfold opV at f;cases Q:o.op<;>rw[Q] at h f<;>first|(simp[cls,freeOp] at h;done)|skip
 .rename_i t x;have A:Fs P H t (ev x)=.val v H':=f
  (simp_all[Fs];grind)
 .rename_i t m k U;have A:E8 P H ev o t (ev m) (ev k) U=.val v H':=f
  (simp_all[E8];grind)
 .rename_i c;have A:Bj P H ev o c=.val v H':=f;unfold Bj at A;split at A
  .grind
  .rename_i args _;simp only[cls,freeOp] at h;split at A
   ·(simp_all[E7,K9,G9,H9];grind)
   all_goals grind
noncomputable def nxt(P:Program)(callf:CallF)(ops:Array Oper)(tab:List Nat)(fr:Fr)(all:List Nat)(k:Nat)(cs:List Nat)(res:T2 AV)(H:Mem)(held:List Nat)(als:Als):Out:=
 match cs with
 | []=>fin res H ops.toList 0 fr
 | c::cs=>act P callf ops tab fr c res H λres H=>Qj P callf ops tab fr all (k+1) cs res H (Hc tab c held) (Gi tab c als)
noncomputable def gate(P:Program)(callf:CallF)(ops:Array Oper)(tab:List Nat)(fr:Fr)(all:List Nat)(k:Nat)(cs:List Nat)(res:T2 AV)(H:Mem)(held:List Nat)(als:Als):Out:=
 match M5 P ops tab fr res H held&&M6 H als with
 | true=>nxt P callf ops tab fr all k cs res H held als
 | false=>.bad
theorem a8u(f:List Nat)(k:Nat)(cs:List Nat)(res:T2 AV)(H:Mem)(held:List Nat)(als:Als):
  Qj P callf ops tab fr0 f k cs res H held als=Qi P ops tab fr0 (Es tab f k ops.toList 0) res H held als λres H held als=>gate P callf ops tab fr0 f k cs res H held als:=by
 cases cs<;>rfl
theorem a8v{res:T2 AV}:∀{held:List Nat},M5 P ops tab fr0 res H held=true->∀i∈held,∃o v,ops[i]?=some o/\B9 res i=some v/\quiet P H (env ops tab fr0 res i) o=some v
 | [],_,_,h=>by cases h
 | j::held,h,i,hi=>by
  unfold M5 at h;split at h
  .rename_i o v f A;split at h
   .rename_i Q D;split at h
    .rename_i he;rcases Xb.1 hi with rfl|hi
     .exact⟨o,v,f,A,by rw[D,eqAV_sound _ _ he]⟩
     .exact a8v h i hi
    grind
   grind
  grind
theorem a1a{a b:Blk}(h:eqBlk a b=true):a=b:=by
 unfold eqBlk at h;split at h
 .simp only[W0] at h;rw[eqAVs_sound _ _ h.1.1,eq_of_beq h.1.2,Xd h.2]
 all_goals simp_all
theorem a8w:∀{als:Als},M6 H als=true->∀i f x,(i,f,x)∈als->H.get f=some x
 | [],_,_,_,_,h=>by cases h
 | (j,a,b)::als,h,i,f,x,hx=>by
  unfold M6 at h;split at h
  .rename_i D A;split at h
   .rename_i he;rcases Xb.1 hx with e|hx
    .cases e;rw[A,a1a he]
    .exact a8w h i f x hx
   .cases h
  .cases h
theorem Ts{i:Nat}(h:A1 tab c i=false):∀{held:List Nat},i∈held->i∈Hc tab c held
 | [],hi=>by grind
 | j::held,hi=>by
  unfold Hc;rcases Xb.1 hi with rfl|hi
  .rw[h];simp
  .split
   .exact Ts h hi
   .exact e6h _ (Ts h hi)
theorem Tt{i:Nat}(h:A1 tab c i=false):∀{als:Als}{f:Nat}{x:Blk},(i,f,x)∈als->(i,f,x)∈Gi tab c als
 | [],_,_,hi=>by grind
 | y::als,f,x,hi=>by
  unfold Gi;rcases Xb.1 hi with rfl|hi
  .rw[h];simp
  .split
   .exact Tt h hi
   .exact e6h _ (Tt h hi)
theorem Lt:∀{als:Als},∀x∈Gi tab c als,x∈als
 | [],_,h=>by cases h
 | y::als,x,h=>by
  unfold Gi at h;split at h
  .exact e6h _ (Lt x h)
  .rcases Xb.1 h with rfl|h
   .simp
   .exact e6h _ (Lt x h)
end
section
def Dn(listed:Array Bool)(i:Nat):Prop:=listed.getD i false=true
structure Je (B G n n0:Nat) (P:Program) (ops:Array Oper) (fr0:Fr) (ρ0:Rn) (w0:World) (dn cs:List Nat) (res:T2 AV) (H:Mem) (held:List Nat) (als:Als) (listed:Array Bool) (ρ:Rn) (a:Act) (w:World):Prop where
 ext:Ext B n0 ρ0 w0 ρ w
 sim:Sim B G ρ H w
 le:n0<=H.next
 size:listed.size=ops.size
 tsz:n<=a.tmps.size
 dfr:DR ρ fr0.defers a.defers
 only:∀t v,fr0.get t=some v->t<n
 chain:chainOf ops.toList 0=dn++cs
 csN:∀c∈cs,¬Dn listed c
 down:∀i o,Dn listed i->ops[i]?=some o->∀e∈o.after.toList,Region.binds .any e=true->Dn listed e.on
 old:∀t,(∀j,Gz t ops.toList 0=some j->¬Dn listed j)->∀v,fr0.get t=some v->VR ρ v (a.tmps.getD t undef)
 new:∀j o,Dn listed j->ops[j]?=some o->∃v,B9 res j=some v/\∀d,o.dst=some d->VR ρ v (a.tmps.getD d undef)
 known:∀i o,¬Dn listed i->ops[i]?=some o->Cj o.op=false->Ee (ancs [] ops.toList) i (dn++cs)<=dn.length->Ls B P ops (ancs [] ops.toList) fr0 res held als i o
 aok:Ef n0 H als
 alsN:∀x∈als,¬Dn listed x.1->ρ x.2.1=none
variable {B G n n0:Nat}{P:Program}{ops:Array Oper}{fr0:Fr}{ρ0 ρ:Rn}{w0 w:World}{dn cs:List Nat}{res:T2 AV}{H:Mem}{held:List Nat}{als:Als}{listed:Array Bool}{a:Act}
structure Rd (ops:Array Oper) (listed:Array Bool) (i:Nat) (o:Oper):Prop where
 at' : ops[i]?=some o
 un:¬Dn listed i
 all:∀e∈o.after.toList,Region.binds .any e=true->Dn listed e.on
theorem Tu{i:Nat}(h:i∈Region.ready .any ops listed):∃o,Rd ops listed i o:=by
 obtain⟨Q,o,f,A⟩:=mem_ready.1 h;refine⟨o,f,?_,λe he D=>A e (Array.mem_toList_iff.1 he) D⟩;grind[Dn]
theorem Rd.anc{i j:Nat}{o:Oper}(r:Rd ops listed i o)(d:Je B G n n0 P ops fr0 ρ0 w0 dn cs res H held als listed ρ a w)(h:A1 (ancs [] ops.toList) i j=true):Dn listed j:=
 Tn (listed:=Dn listed) d.down i o j r.at' r.all h
theorem Rd.not_anc{i j:Nat}{o:Oper}(r:Rd ops listed i o)(d:Je B G n n0 P ops fr0 ρ0 w0 dn cs res H held als listed ρ a w)(D:j<ops.size)(h:A1 (ancs [] ops.toList) j i=true):¬Dn listed j:=by
 intro hd;obtain⟨f,A⟩:∃f,ops[j]?=some f:=⟨ops[j],by grind⟩;exact r.un (Tn (listed:=Dn listed) d.down j f i A (d.down j f hd A) h)
theorem Ff{i:Nat}{o:Oper}(h:ops[i]?=some o):i<ops.size:=by grind
theorem B7{i:Nat}{o:Oper}:ops.toList[i]?=some o↔ops[i]?=some o:=by grind
theorem Dn.set{i j:Nat}(h:i<listed.size):Dn (listed.setIfInBounds i true) j↔j=i\/Dn listed j:=by
 (simp_all[Dn];grind)
abbrev Ye:=@Dn.set
theorem a1b{i:Nat}{o:Oper}{A:T2 AV}(d:Je B G n n0 P ops fr0 ρ0 w0 dn cs res H held als listed ρ a w)(r:Rd ops listed i o)(hg:Gr A res):
  EvR ρ (env ops (ancs [] ops.toList) fr0 A i) a.eval:=by
 intro x v hx
 cases x with
 | tmp t =>
  have h:a0d ops (ancs [] ops.toList) fr0 A i t=some v:=hx;unfold a0d at h;split at h
  .rename_i D;exact d.old t (λj hj=>by grind) v h
  .rename_i j D;obtain⟨_,Z,a3,a2⟩:=Lm D;have a0:ops[j]?=some Z:=B7.1 (by grind);split at h
   .rename_i Q;obtain⟨y,hy,hv⟩:=d.new j Z (r.anc d Q) a0;have:=hg _ _ h;rw[this] at hy;cases hy;exact hv t a2
   .split at h
    .rename_i Q;refine d.old t (λj' a1=>?_) v h;rw[D] at a1;cases a1;rcases e8m _ _ ▸ Q with U|U
     .exact r.not_anc d (Ff a0) U
     .have:=Xd U;subst this;exact r.un
    grind
 | const c=>cases hx;rfl
 | global g=>cases hx;rfl
 | func f=>cases hx;rfl
theorem a8x{i:Nat}{o:Oper}{Q:T2 AV}{b:Bool}(a3:fit ops.toList ops.toList 0=true)(a4:∀(j:Nat)(o:Oper),ops[j]?=some o->B6 n o=true)
  (d:Je B G n n0 P ops fr0 ρ0 w0 dn cs res H held als listed ρ a w) (r:Rd ops listed i o) (hg:Gr Q res) (h:Ol (ancs [] ops.toList) Q i o=some b) :
  Region.wanted o (yielded ops a.tmps)=b:=by
 unfold Ol at h;split at h
 .grind[Region.wanted]
 .rename_i g a0;obtain⟨j,a5⟩:=g;have U:=Lp a3 i o (B7.2 r.at');unfold Ka at U;simp only[W0] at U;have D:=U.2;rw[a0] at D;dsimp only at D;split at D
  .rename_i Z a6;have a1:ops[j]?=some Z:=B7.1 a6;obtain⟨t,ht⟩:=Option.isSome_iff_exists.1 D;have a2:∀{v:AV},A1 (ancs [] ops.toList) i j=true->B9 Q j=some v->∃u,a.tmps[t]?=some u/\VR ρ v u:=by
    intro v f A;obtain⟨y,hy,a9⟩:=d.new j Z (r.anc d f) a1;rw[hg _ _ A] at hy;cases hy;have a7:t<n:=Fe (a4 j Z a1) t ht;have b0:t<a.tmps.size:=Xg a7 d.tsz;simp_all
   unfold a6u at h;split at h
   .rename_i b' f hb;obtain⟨u,hu,A⟩:=a2 f hb;cases A;have a8:yielded ops a.tmps j=some b':=by grind[yielded]
    simp only[Region.wanted,a0,a8];revert h;cases b'<;>cases a5<;>simp<;>exact λh=>h ▸ rfl
   .rename_i vs f hb;obtain⟨u,hu,A⟩:=a2 f hb;cases A;grind[yielded,Region.wanted]
   grind
  grind
end
section
variable {B G n n0:Nat}{P:Program}{ops:Array Oper}{fr0:Fr}{ρ0 ρ:Rn}{w0 w:World}{dn cs:List Nat}{res:T2 AV}{H:Mem}{held:List Nat}{als:Als}{listed:Array Bool}{a:Act}
theorem Ou{i t:Nat}{o:Oper}(A:fit ops.toList ops.toList 0=true)(D:ops[i]?=some o)(hd:o.dst=some t):Gz t ops.toList 0=some i:=by
 have f:=Lp A i o (B7.2 D);unfold Ka at f;simp only[W0] at f;have h:=f.1.1.1;rw[hd] at h;dsimp only at h;split at h
 all_goals simp_all
theorem Tv{d:Option Tmp}{t:Tmp}{u:Value}(h:d≠some t):(a.put d u).tmps.getD t undef=a.tmps.getD t undef:=by
 cases d with
 | none=>rfl
 | some d =>
  have f:d≠t:=λe=>h (by rw[e]);show (a.tmps.setIfInBounds d u).getD t undef=_;simp_all
theorem a8y{t:Tmp}{u:Value}(h:t<a.tmps.size):(a.put (some t) u).tmps.getD t undef=u:=by
 show (a.tmps.setIfInBounds t u).getD t undef=_;simp_all
theorem a8z(d:Option Tmp)(u:Value):(a.put d u).tmps.size=a.tmps.size:=by
 cases d with
 | none=>rfl
 | some d=>show (a.tmps.setIfInBounds d u).size=_;simp
theorem Ow(d:Option Tmp)(u:Value):(a.put d u).defers=a.defers:=by cases d<;>rfl
theorem Je.go{i:Nat}{o:Oper}{Q:Rn}{w': World}{u:Value}{v:AV}{Z a0:List Nat}{a1:T2 AV}{H': Mem}{a6:List Nat}{a2:Als}
  (a3:fit ops.toList ops.toList 0=true) (a7:∀(j:Nat)(o:Oper),ops[j]?=some o->B6 n o=true)
  (d:Je B G n n0 P ops fr0 ρ0 w0 dn cs res H held als listed ρ a w) (r:Rd ops listed i o)
  (a8:Ext B n0 ρ w Q w') (a4:Sub ρ Q) (hs:Sim B G Q H' w') (a9:n0<=H'.next) (b0:Gr res a1) (hv:B9 a1 i=some v) (hr:VR Q v u)
  (b1:chainOf ops.toList 0=Z++a0) (b2:∀c∈a0,c≠i/\c∈cs)
  (b4:∀j A,j≠i->¬Dn listed j->ops[j]?=some A->Cj A.op=false->Ee (ancs [] ops.toList) j (Z++a0)<=Z.length->Ls B P ops (ancs [] ops.toList) fr0 a1 a6 a2 j A)
  (b3:Ef n0 H' a2) (b5:∀x∈a2,x.1≠i->¬Dn listed x.1->Q x.2.1=none) :
  Je B G n n0 P ops fr0 ρ0 w0 Z a0 a1 H' a6 a2 (listed.setIfInBounds i true) Q (a.put o.dst u) w':=by
 have hi:i<listed.size:=by rw[d.size];exact Ff r.at'
 have D:∀j,Dn (listed.setIfInBounds i true) j↔j=i\/Dn listed j:=λj=>Ye hi;refine⟨d.ext.trans a8 (Wy _),hs,a9,by simp[d.size],by rw[a8z];exact d.tsz,by rw[Ow];exact d.dfr.mono a4,d.only,b1,?_,?_,?_,?_,?_,b3,?_⟩
 .intro c hc hd;rcases (D c).1 hd with e|h
  .grind
  .exact d.csN c (b2 c hc).2 h
 .intro j A U f e he hb;rcases (D j).1 U with e1|h
  .subst e1;rw[r.at'] at f;cases f;exact(D _).2 (.inr (r.all e he hb))
  .exact(D _).2 (.inr (d.down j A h f e he hb))
 .intro t ht y hy;have a5:o.dst≠some t:=λe=>ht i (Ou a3 r.at' e) ((D i).2 (.inl rfl));rw[Tv a5];exact(d.old t (λj U hd=>ht j U ((D j).2 (.inr hd))) y hy).mono a4
 .intro j A U f;by_cases e:j=i
  .subst e;rw[r.at'] at f;cases f;refine⟨v,hv,λt ht=>?_⟩;have b6:t<a.tmps.size:=Xg (Fe (a7 j _ r.at') t ht) d.tsz;grind[a8y]
  .rcases (D j).1 U with e1|h
   .grind
   .obtain⟨y,h1,h2⟩:=d.new j A h f;refine⟨y,b0 _ _ h1,λt ht=>?_⟩;have a5:o.dst≠some t:=by
     intro e1;have h3:=Ou a3 r.at' e1;rw[Ou a3 f ht] at h3;grind
    rw[Tv a5];exact(h2 t ht).mono a4
 all_goals grind
end
end Go.Ai
