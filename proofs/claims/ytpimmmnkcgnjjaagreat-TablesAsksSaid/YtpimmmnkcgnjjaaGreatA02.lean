/- Parts of an interpreter and of a proof. No condition. -/
import Derived.Laws.Tables
import Derived.Laws.Append
import Derived.Laws.BytesString
import Derived.Laws.IdiomStrings
import Derived.Tactics
import Derived.Test.YtpimmmnkcgnjjaaGreatA01
set_option linter.all false
open Go.RowKit (Below)
namespace Go.Ai
abbrev Gb:=Nat→Option Blk
abbrev Wd:=List Int
abbrev Wq:=List Wd
abbrev Lq:=List (Wd×Wd)
abbrev Tq:=List (List (Int×Int))
abbrev AV.li (n:Int):AV:=.lit (.int .i64 n)
abbrev AV.nl:AV:=.lit (.slice none 0 0)
section
variable {B G:Nat}{ρ:Rn}{H:Mem}{w:World}{P:Program}
def NB(v:Option Value)(d n:Nat):Prop:=(v=none/\n=d)\/∃k,v=some (.int k n)
theorem c1b{k:IntKind}{n y:Nat}(h:n<=y)(A:BoundsCode)(w:World):(Instr.sliceBound (.int k n) y A).run P w=.ok n w:=by
 simp[Instr.sliceBound,asIntOf,h]
theorem Lp{D:Bool}{n c l h m:Nat}{lo hi A:Option Value}(Q:NB lo 0 l)(hh:NB hi n h)(U:NB A c m)(Z:A≠none->hi≠none)(h1:l<=h)(h2:h<=m)(h3:m<=c)(w:World):
  (Instr.sliceBounds D n c lo hi A).run P w=.ok (l,h,m) w:=by
 rcases U with⟨rfl,rfl⟩|⟨km,rfl⟩<;>rcases hh with⟨rfl,rfl⟩|⟨kh,rfl⟩<;>rcases Q with⟨rfl,rfl⟩|⟨kl,rfl⟩ <;>
  first
  | (simp_all[c1b,Instr.sliceBounds])
  | grind
theorem c1c{lo hi A:Option AV}{lo' hi' D:Option Value}{n c l h m:Nat}(Q:Dh lo hi A n c=some (l,h,m))
  (hl:∀v,lo=some v->∃u,lo'=some u/\VR ρ v u) (a0:lo=none->lo'=none)
  (hh:∀v,hi=some v->∃u,hi'=some u/\VR ρ v u) (a1:hi=none->hi'=none)
  (hm:∀v,A=some v->∃u,D=some u/\VR ρ v u) (a2:A=none->D=none) :
  NB lo' 0 l/\NB hi' n h/\NB D c m/\(D≠none->hi'≠none)/\l<=h/\h<=m/\m<=c:=by
 unfold Dh at Q;split at Q
 .rename_i l' h' m' e1 e2 e3 e4;split at Q
  .rename_i U;cases Q;simp only[W1] at U;have nb:∀{v:Option AV}{Z:Option Value}{d k:Nat},I3 v d=some k->(∀x,v=some x->∃u,Z=some u/\VR ρ x u)->(v=none->Z=none)->NB Z d k:=by
    intro v Z d k hk h1 h2
    cases v with
    | none=>simp[I3] at hk;exact .inl ⟨h2 rfl,hk.symm⟩
    | some x =>
     simp only[I3] at hk;obtain⟨u,hu,hv⟩:=h1 x rfl;obtain⟨kk,rfl⟩:=Kg hk hv;exact .inr ⟨kk,hu⟩
   refine⟨nb e1 hl a0,nb e2 hh a1,nb e3 hm a2,?_,Wz U.1.1,Wz U.1.2,Wz U.2⟩;intro a3
   cases A with
   | none=>grind
   | some x=>cases hi with
    | none=>simp[Oi] at e4
    | some y=>grind
  grind
 grind
section one
variable {ev:Ev}{e:Operand→Value}{o:Oper} (s:Sim B G ρ H w) (he:EvR ρ ev e)
theorem Tc{size a off l h m:Nat}{v:AV}(A:I4 size a off (some (l,h,m))=some v):v=if m=l then .sl a off 0 0 else .sl a (off+l*size) (h-l) (m-l):=by
 unfold I4 at A;dsimp only at A;split at A
 all_goals (split<;>simp_all[Ee])
include s he
theorem c1d{t:TypeId}{x:Operand}{lo hi mx:Option Operand}(h:o.op=.slice t x lo hi mx):RS B G P ρ H w (Da P H ev o t (ev x) lo hi mx) (execOp e o):=by
 unfold Da;split
 .rename_i r A;obtain⟨u,h1,h2⟩:=Lm (P:=P) (w:=w) (by grind) he A;grind[RS.quiet]
 .unfold Gc;split
  .rename_i v hv;split
   .rename_i lo' hi' a3 h1 h2 h3;have ho:∀{y:Option Operand}{y' : Option AV},E3 ev y=some y'->(∀v,y'=some v->∃u,y.map e=some u/\VR ρ v u)/\(y'=none->y.map e=none):=by
     intro y y' hy
     cases y with
     | none=>grind[E3]
     | some y =>
      simp only[E3] at hy;grind
    have bs:∀{n c l hh m:Nat},Dh lo' hi' a3 n c=some (l,hh,m)->_:=λ{n c l hh m} D =>
     c1c D (ho h1).1 (ho h1).2 (ho h2).1 (ho h2).2 (ho h3).1 (ho h3).2
    refine Ye s λr A=>?_;unfold Sw at A;split at A
    .rename_i el hd;split at A
     .rename_i a1 a0;unfold I5 at A;split at A
      .rename_i a off n c;obtain⟨b,q,k,hp,a5,hu⟩:=he _ _ hv
       cases D:Dh lo' hi' a3 n c with
       | none=>rw[D] at A;cases A
       | some y =>
        obtain⟨l,hh,m⟩:=y;rw[D] at A;obtain⟨Q,U,b3,Z,b5,b6,b7⟩:=bs D;have:=Tc A;subst this;refine⟨.slice (if m=l then some ⟨b,q+off,none⟩ else some ⟨b,q+off+l*a1.size,none⟩) (hh-l) (m-l),?_,?_⟩
        .simp[execOp,h,Instr.sliceAt,Instr.slice,A0 hd,hu,Lp Q U b3 Z b5 b6 b7,Cr a0,Fw]
        .split
         .rename_i a4;exact⟨b,q,k,hp,Wy _,by grind⟩
         .exact⟨b,q,k,hp,by omega,by grind⟩
      .rename_i a off n d;obtain⟨b,q,k,hp,a5,hu⟩:=he _ _ hv;split at A
       .cases D:Dh lo' hi' none n n with
        | none=>rw[D] at A;cases A
        | some y =>
         obtain⟨l,hh,m⟩:=y;rw[D] at A;obtain⟨Q,U,b3,Z,b5,b6,b7⟩:=bs D;have a6:=(ho h3).2 rfl;have a2:NB (mx.map e) (k-d) (k-d):=.inl ⟨a6,rfl⟩;unfold Sv at A;dsimp only at A;split at A
         .rename_i a7;simp only[Ee] at A;cases A;have a8:l<n:=by simp_all
          refine⟨.slice (some ⟨b,q+off+l*a1.size,none⟩) (hh-l) (k-d-l),?_,⟨b,q,k,hp,by omega,by grind⟩⟩;have a9:¬(k-d=l):=by omega
          simp[execOp,h,Instr.sliceAt,Instr.slice,A0 hd,hu,Lp Q U a2 Z b5 (show hh<=k-d by omega) (Wy _),Cr a0,Fw,a9]
         .rename_i a7;cases A;have a8:¬ l<n:=λh0=>by
           have:Nat.blt l n=true:=e8l.symm ▸ (show l+1<=n from h0);grind
          have b0:hh-l=0:=by omega
          refine⟨.slice (if k-d=l then some ⟨b,q+off,none⟩ else some ⟨b,q+off+l*a1.size,none⟩) (hh-l) (k-d-l),?_,?_⟩
          .simp[execOp,h,Instr.sliceAt,Instr.slice,A0 hd,hu,Lp Q U a2 Z b5 (show hh<=k-d by omega) (Wy _),Cr a0,Fw]
          .rw[b0];split<;>exact⟨_,_,rfl⟩
       .rename_i mv
        cases D:Dh lo' hi' (some mv) n n with
        | none=>rw[D] at A;cases A
        | some y =>
         obtain⟨l,hh,m⟩:=y;rw[D] at A;obtain⟨Q,U,b3,Z,b5,b6,b7⟩:=bs D;have a2:NB (mx.map e) (k-d) m:=by
          rcases b3 with⟨h0,_⟩|h0
          .grind
          .exact .inr h0
         have:=Tc A;subst this;refine⟨.slice (if m=l then some ⟨b,q+off,none⟩ else some ⟨b,q+off+l*a1.size,none⟩) (hh-l) (m-l),?_,?_⟩
         .simp[execOp,h,Instr.sliceAt,Instr.slice,A0 hd,hu,Lp Q U a2 Z b5 b6 (show m<=k-d by omega),Cr a0,Fw]
         .split
          .rename_i a4;exact⟨b,q,k,hp,Wy _,by grind⟩
          .exact⟨b,q,k,hp,by omega,by grind⟩
      .obtain⟨ad,c,hu⟩:=he _ _ hv
       cases D:Dh lo' hi' a3 0 0 with
       | none=>grind
       | some y =>
        obtain⟨l,hh,m⟩:=y;rw[D] at A;cases A;obtain⟨Q,U,b3,Z,b5,b6,b7⟩:=bs D;obtain rfl:m=0:=by omega
        obtain rfl:hh=0:=by omega
        obtain rfl:l=0:=by omega
        rcases b3 with⟨h0,_⟩|h0
        .have a2:NB (mx.map e) c c:=.inl ⟨h0,rfl⟩;refine⟨.slice (if c=0 then some ad else some (ad.add 0)) 0 c,?_,by split<;>exact⟨_,_,rfl⟩⟩;simp[execOp,h,Instr.sliceAt,Instr.slice,A0 hd,hu,Lp Q U a2 Z (Wy _) (W3 c) (Wy _),Cr a0]
        .have a2:NB (mx.map e) c 0:=.inr h0;refine⟨.slice (some ad) 0 0,?_,⟨_,_,rfl⟩⟩;simp[execOp,h,Instr.sliceAt,Instr.slice,A0 hd,hu,Lp Q U a2 Z (Wy _) (Wy _) (W3 c),Cr a0]
      grind
     grind
    .rename_i b9 hd;split at A
     .rename_i n el a off b8;obtain⟨b,q,k,hp,hu⟩:=he _ _ hv;split at A
      .rename_i a1 a0
       cases D:Dh lo' hi' a3 n n with
       | none=>rw[D] at A;cases A
       | some y =>
        obtain⟨l,hh,m⟩:=y;rw[D] at A;obtain⟨Q,U,b3,Z,b5,b6,b7⟩:=bs D;have:=Tc A;subst this;refine⟨.slice (some (if m=l then ⟨b,q+off,none⟩ else ⟨b,q+off+l*a1.size,none⟩)) (hh-l) (m-l),?_,?_⟩
        .simp[execOp,h,Instr.sliceAt,Instr.slice,A0 hd,A0 b8,asAddr,hu,Lp Q U b3 Z b5 b6 b7,Cr a0,Fw]
        .split
         .rename_i a4;exact⟨b,q,k,hp,Wy _,by grind⟩
         .exact⟨b,q,k,hp,by omega,by grind⟩
      grind
     grind
    .rename_i n el hd;split at A
     .rename_i a1 a off a0;obtain⟨b,q,k,hp,hu⟩:=he _ _ hv
      cases D:Dh lo' hi' a3 n n with
      | none=>rw[D] at A;cases A
      | some y =>
       obtain⟨l,hh,m⟩:=y;rw[D] at A;obtain⟨Q,U,b3,Z,b5,b6,b7⟩:=bs D;have:=Tc A;subst this;refine⟨.slice (some (if m=l then ⟨b,q+off,none⟩ else ⟨b,q+off+l*a1.size,none⟩)) (hh-l) (m-l),?_,?_⟩
       .simp[execOp,h,Instr.sliceAt,A0 hd,Instr.sureAddr,hu,Lp Q U b3 Z b5 b6 b7,Cr a0,Fw]
       .split
        .rename_i a4;exact⟨b,q,k,hp,Wy _,by grind⟩
        .exact⟨b,q,k,hp,by omega,by grind⟩
     grind
    grind
   .trivial
  .trivial
end one
theorem a7y(off:Nat):∀(us:List Value)(k:Nat)(cs:Array Value),off+k+us.length<=cs.size ->
  ((us.zipIdx k).foldl (λcs (x:Value×Nat)=>cs.setIfInBounds (off+x.2) x.1) cs).size=cs.size /\
  ∀j,((us.zipIdx k).foldl (λcs (x:Value×Nat)=>cs.setIfInBounds (off+x.2) x.1) cs)[j]?=if off+k<=j/\j<off+k+us.length then us[j-(off+k)]? else cs[j]?
 | [],k,cs,_=>⟨rfl,λj=>by simp[if_neg]⟩
 | u::us,k,cs,h=>by
  simp only[Xk] at h;obtain⟨A,D⟩:=a7y off us (k+1) (cs.setIfInBounds (off+k) u) (by grind)
  (simp_all;grind)
def PR(ρ:Rn):List (Nat×AV)->List (Nat×Value)->Prop
 | [],ps=>ps=[]
 | (i,v)::l,ps=>∃u ps',ps=(i,u)::ps'/\VR ρ v u/\PR ρ l ps'
theorem Qo{a0 place': Nat->Option (Nat×Nat)}(hp:∀i r,a0 i=some r->place' i=some r):∀{parts:List (Nat×AV)} {ps:List (Nat×Value)} {cells l:List AV} {cs:Array Value},
  PR ρ parts ps->VRs ρ cells cs.toList->J7 a0 cells parts=some l->∃D,Instr.fill place' cs ps=some D/\VRs ρ l D.toList/\D.size=cs.size
 | [],_,_,_,cs,U,Q,h=>by cases U;cases h;exact⟨cs,rfl,Q,rfl⟩
 | (i,v)::parts,_,cells,l,cs,⟨u,a5,U,hv,a2⟩,Q,h=>by
  subst U;simp only[J7] at h;split at h
  .rename_i off size a3;split at h
   .rename_i a6;rw[Ll] at h;split at h
    .rename_i a7;have a1:=hv.cells;have a8:(cellsOf v).length=size:=by grind[Di,Nat.eq_of_beq_eq_true]
     have a9:u.cells.size=size:=by have:=a1.length;grind
     have b0:cs.size=cells.length:=by have:=Q.length;grind
     obtain⟨f1,f2⟩:=a7y off u.cells.toList 0 cs (by grind);have a4:VRs ρ (cells.take off++cellsOf v++cells.drop (off+(cellsOf v).length)) ((u.cells.toList.zipIdx 0).foldl (λcs (x:Value×Nat)=>cs.setIfInBounds (off+x.2) x.1) cs).toList:=by
      refine Yw ?_ ?_
      .grind
      .intro j w A;rw[e7z,f2 j];by_cases h1:j<off
       .rw[if_neg (by omega)];rw[e6c,Xs (by grind),e7j,if_pos h1] at A;simpa using Q.get _ A
       .by_cases h2:j<off+(cellsOf v).length
        .rw[if_pos (by grind)];rw[e6c,Xq (by grind),Xs (by grind)] at A;have Z:min off cells.length=off:=by omega
         simp only[W4,Z] at A;exact a1.get _ A
        .rw[if_neg (by grind)];rw[Xq (by grind)] at A;have Z:min off cells.length=off:=by omega
         simp only[W0,W4,Z,e8u] at A;have e2:off+(cellsOf v).length+(j-(off+(cellsOf v).length))=j:=by omega
         rw[e2] at A;simpa using Q.get _ A
     obtain⟨D,h1,h2,h3⟩:=Qo hp a2 a4 h;refine⟨D,?_,h2,h3.trans f1⟩;simp only[Instr.fill,hp _ _ a3];rw[if_neg (by grind)];grind[Array.toList_zipIdx]
    grind
   grind
  grind
theorem a7z{t:TypeId}{l:List AV}(h:Cb P t=some l)(w:World):∃z:Value,(zeroValue t).run P w=.ok z w/\VRs ρ l z.cells.toList:=by
 grind[Cb,VRs.lits,E6]
section one
variable {ev:Ev}{e:Operand→Value}{o:Oper} (s:Sim B G ρ H w) (he:EvR ρ ev e)
include he in
theorem evalParts_PR:∀{l:List (Nat×Operand)} {vs:List (Nat×AV)},C1 ev l=some vs->PR ρ vs (l.map λ(i,x)=>(i,e x))
 | [],_,h=>by cases h;rfl
 | (i,x)::l,vs,h=>by
  simp only[C1] at h;split at h
  .rename_i v A;split at h
   .rename_i ws D;cases h;exact⟨_,_,rfl,he _ _ A,evalParts_PR D⟩
   grind
  grind
include s he
theorem c1e{t:TypeId}{parts:Array (Nat×Operand)}(h:o.op=.build t parts):RS B G P ρ H w (Hi P H t (C1 ev parts.toList)) (execOp e o):=by
 unfold Hi;split
 .rename_i ps a0;have Z:=evalParts_PR he a0;refine Ye s λv A=>?_;unfold build at A;split at A
  .rename_i a1 a4 hz hd;obtain⟨z,a2,D⟩:=a7z (ρ:=ρ) hz w;split at A
   .rename_i pl a3;unfold Nb at A;split at A
    .rename_i l Q;cases A;obtain⟨cs,h1,U,h3⟩:=Qo (place':=λi=>pl[i]?) (λi r hr=>by grind[Lk]) Z D Q;refine⟨.agg cs,?_,⟨_,rfl,U⟩⟩;have a5:=run_places (P:=P) w _ _ a3;simp_all[A0,Instr.build,execOp,Array.mapM_eq_mapM_toList]
    grind
   grind
  .rename_i a1 n el hz hd;obtain⟨z,a2,D⟩:=a7z (ρ:=ρ) hz w;split at A
   .rename_i j hj;unfold Nb at A;split at A
    .rename_i l Q;cases A;obtain⟨cs,h1,U,h3⟩:=Qo (place':=λi=>some (i*j.size,j.size)) (λi r hr=>hr) Z D Q;refine⟨.agg cs,?_,⟨_,rfl,U⟩⟩;simp_all[Cr,A0,Instr.build,execOp]
    grind
   grind
  grind
 .trivial
end one
theorem Ls{t e:TypeId}{size bytes:Nat}(h:Ft P t=some (e,size,bytes)):
  P.underlying t=some (.slice e)/\∃i z,P.info? e=some i/\i.size=size/\i.bytes=bytes/\i.zero=some z/\z.cells.size=size:=by
 unfold Ft at h;split at h
 .rename_i A hd;split at h
  .rename_i i hi;split at h
   .rename_i z hz;split at h
    all_goals simp_all
   grind
  grind
 grind
theorem a8a(z:List AV):∀(n i:Nat),(rep z n)[i]?=if i<n*z.length then z[i % z.length]? else none
 | 0,i=>by simp[rep]
 | n+1,i=>by
  simp only[rep];by_cases h:i<z.length
  ·(simp_all[e8n];grind)
  (simp_all[Nat.mod_eq_sub_mod,a8a,Xq];grind)
theorem Ox(z:List AV):∀n,(rep z n).length=n*z.length
 | 0=>by simp[rep]
 | n+1=>by simp[rep,Ox z n,e8c,e8j]
theorem Oy{z:List AV}{A:Array Value}(h:VRs ρ z A.toList)(n:Nat):VRs ρ (rep z n) ((Array.range (n*A.size)).map (A[· % A.size]!)).toList:=by
 have D:A.size=z.length:=by have:=h.length;grind
 refine Yw (by grind[Ox]) λi v hi=>?_;rw[a8a] at hi;split at hi
 .rename_i Q;obtain⟨u,U,Z⟩:=h.get _ hi;grind
 grind
theorem Qp{e:TypeId}{i:TypeInfo}{zv:Value}{n:Nat}{z:List AV}(hi:P.info? e=some i)(hz:i.zero=some zv)(h:Eo P e n=some z)(w:World):
  ∃A:Array Value,((if n=0 then pure #[] else do pure (<- zeroValue e).cells:Sem (Array Value))).run P w=.ok A w/\VRs ρ z A.toList/\(n≠0->A=zv.cells)/\(n=0->A=#[]):=by
 unfold Eo at h;split at h
 .rename_i Q;cases h;exact⟨#[],by simp_all,rfl,λD=>absurd (Xe Q) D,λ_=>rfl⟩
 .rename_i Q;have D:n≠0:=by intro D;simp_all
  unfold Cb at h;rw[hi] at h;dsimp only at h;rw[hz] at h;cases h;exact⟨zv.cells,by simp_all[E6],Yb _,λ_=>rfl,λU=>absurd U D⟩
section one
variable {ev:Ev}{e:Operand→Value}{o:Oper} (s:Sim B G ρ H w) (he:EvR ρ ev e)
include s he
theorem c1f{t:TypeId}{len:Nat}{parts:Array (Nat×Operand)}(h:o.op=.buildSlice t len parts):RS B G P ρ H w (Fu P H t len (C1 ev parts.toList)) (execOp e o):=by
 unfold Fu;split
 .rename_i el size bytes ps Q U;obtain⟨hd,i,zv,hi,rfl,rfl,hz,hzs⟩:=Ls Q;have Z:=evalParts_PR he U;split
  .rename_i z a0 a1;obtain⟨A,a5,a6,a7,a8⟩:=Qp (ρ:=ρ) hi hz a1 w;split
   .rename_i l hl;have a2:VRs ρ (rep z len) ((Array.range (len*i.size)).map (A[· % A.size]!)).toList:=by
     by_cases D:len*i.size=0
     .have a3:z=[]:=by simp_all[Eo]
      subst a3;rw[D];have:rep [] len=[]:=by have:=Ox [] len;simp_all
      grind
     grind[Oy]
    obtain⟨cs,h1,h2,h3⟩:=Qo (place':=λj=>some (j*i.size,i.size)) (λ_ _ hr=>hr) Z a2 hl;have a9:len*i.size<=1048576:=Wz a0;unfold Dq;rw[X1];refine Ta s (cells:=cs) (elem:=el) 0 0 (by simp) (.inl rfl) h2 (u:=.slice (some ⟨w.heap.size,0,none⟩) len len) ?_ ⟨_,_,_,Dr _ _ _,Wy _,rfl⟩;have a4:¬(len*i.size > 2 ^ 24):=by omega
    simp only[execOp,h,Instr.buildSlice,Sem.run_bind,A0 hd,Result.andThen_ok,Cr hi];simp only[a4,if_false];by_cases D:len*i.size=0
    all_goals simp_all[newRow,E6]
   .trivial
  .trivial
 .trivial
theorem c1g{t:TypeId}{l c:Operand}(h:o.op=.makeSlice t l c):RS B G P ρ H w (Er P H t (ev l) (ev c)) (execOp e o):=by
 unfold Er;split
 .rename_i el size bytes n k U Z hk;obtain⟨hd,i,zv,hi,rfl,rfl,hz,hzs⟩:=Ls U;have Q:∀{x:Operand}{m:Nat},(ev x).bind natOf=some m->∃kk,e x=.int kk m:=by
   intro x m hx
   cases a7:ev x with
   | none=>grind
   | some v=>grind[Kg]
  obtain⟨k1,a0⟩:=Q Z;obtain⟨k2,a1⟩:=Q hk;split
  .rename_i z A a2;simp only[W1] at A;have a3:n<=k:=Wz A.1.1;have a4:k<=1048576:=Wz A.1.2;have hb20:i.bytes<=1048576:=Wz A.2;obtain⟨D,a8,a9,b0,b1⟩:=Qp (ρ:=ρ) hi hz a2 w;have a5:VRs ρ (rep z k) ((Array.range (k*i.size)).map (D[· % D.size]!)).toList:=by
    by_cases h0:k*i.size=0
    .have a6:z=[]:=by simp_all[Eo]
     subst a6;rw[h0];have:rep [] k=[]:=by have:=Ox [] k;simp_all
     grind
    grind[Oy]
   unfold Dq;rw[X1];refine Ta s (cells:=(Array.range (k*i.size)).map (D[· % D.size]!)) (elem:=el) 0 0 (by simp) (.inl rfl) a5 (u:=.slice (some ⟨w.heap.size,0,none⟩) n k) ?_ ⟨_,_,_,Dr _ _ _,a3,rfl⟩;have w1:IntKind.i64.wrap (n:Int)=n:=Nj (by omega);have w2:IntKind.i64.wrap (k:Int)=k:=Nj (by omega);have b2:(i.bytes:Int)*k<=2 ^ 48:=by
    have:i.bytes*k<=1099511627776:=Xa (e5x hb20 a4) (by decide);grind
   simp only[execOp,h,Instr.makeSlice,Sem.run_bind,A0 hd,Result.andThen_ok,Gg hi,a0,a1,asInt,asIntOf,Sem.run_pure,w1,w2];have c1:¬((k:Int)<0):=by omega
   have c2:¬((n:Int)<0):=by omega
   have c3:¬((n:Int) > (k:Int)):=by omega
   have c4:¬((i.bytes:Int)*k > 2 ^ 48):=by omega
   simp only[c1,c2,c3,c4,decide_false,e7v,e9j,if_false,run_askRoom,Result.andThen_ok,Sem.run_bind,Cr hi,e6i]
   (split<;>simp_all[newRow,E6])
  .trivial
 .trivial
theorem c1h{t:TypeId}{r:Option Operand}(h:o.op=.makeMap t r):RS B G P ρ H w (Hj P H ev t r) (execOp e o):=by
 have key:(execOp e o).run P w=.ok (.value (.map (some w.heap.size))) { w with heap:=w.heap.push (.map #[] 0) } ->
   RS B G P ρ H w (H.newK (.map [] 0) λH2=>.val (.map H.next) H2) (execOp e o):=by
  intro hrun;rw[X1];refine⟨upd ρ H.next (w.heap.size,0,0),_,_,hrun,Ym ρ _ _ w _ _ rfl rfl rfl rfl s.base,?_,⟨_,_,_,Dr _ _ _,rfl⟩,W5 _⟩;exact s.alloc _ _ 0 _ rfl ⟨#[],by simp,rfl,s.base⟩
 unfold Hj;split
 .simp_all[Instr.makeMap,execOp]
 .rename_i x;split
  .rename_i k v kk n hd hv;have hu:=he _ _ hv;simp_all[VR,asIntOf,asInt,A0,Instr.makeMap,execOp]
  .trivial
theorem c1i{t:TypeId}{x:Operand}(h:o.op=.range t x):RS B G P ρ H w (P9 P H t (ev x)) (execOp e o):=by
 unfold P9;split
 .rename_i str hd hv;have hu:=he _ _ hv;simp only[VR] at hu;rw[X1];refine⟨upd ρ H.next (w.heap.size,0,0),.pointer (some ⟨w.heap.size,0,none⟩),{ w with heap:=w.heap.push (.stringIter str 0) },?_,Ym ρ _ _ w _ _ rfl rfl rfl rfl s.base,?_,⟨_,_,_,Dr _ _ _,rfl⟩,W5 _⟩
  .simp_all[A0,Instr.range,execOp]
  .exact s.alloc _ _ 0 _ rfl ⟨by simp,s.base,rfl⟩
 .trivial
end one
theorem VRs.one{v:AV}{us:List Value}(h:VRs ρ [v] us):∃u,us=[u]/\VR ρ v u:=by
 obtain⟨u,D,e,Q,A⟩:=h;cases A;grind
theorem VRs.two{v A:AV}{us:List Value}(h:VRs ρ [v,A] us):∃u u',us=[u,u']/\VR ρ v u/\VR ρ A u':=by
 obtain⟨u,Q,e,U,D⟩:=h;obtain⟨u',Z,a0⟩:=D.one;grind
theorem Jf{e:Operand->Value}{o:Oper}{c:Call}{b:Builtin}(h:o.op=.call c)(A:c.callee=.builtin b):
  execOp e o=builtin b c.argTypes o.type (c.args.map λ|.const _=>true|_=>false) (c.args.map e):=by
 simp only[execOp,h,resolve,A];rfl
section one
variable {ev:Ev}{e:Operand→Value}{o:Oper} (s:Sim B G ρ H w) (he:EvR ρ ev e)
include s
variable {c:Call}{args:List AV}
theorem c1j{it:Operand}(he:EvR ρ ev e)(h:o.op=.next it true):RS B G P ρ H w (Qa H (ev it)) (execOp e o):=by
 unfold Qa;split
 .rename_i a hv;obtain⟨b,q,k,hr,hu⟩:=he _ _ hv;split
  .rename_i str pos hx;obtain⟨hb,hB,rfl⟩:=s.at hx hr;split
   .rename_i hlt;have hlt' : pos<str.size:=by simp_all
    unfold a6p;rw[Yd];refine⟨ρ,.tuple #[.bool true,goInt pos,.int .i32 (Utf8.decode str pos).1],{ w with heap:=w.heap.setIfInBounds b (.stringIter str (pos+(Utf8.decode str pos).2)) },?_,⟨λ_ _=>rfl,Y0 hb rfl (λj hj=>by grind),rfl,rfl,rfl,by simp,λj hj=>by grind⟩,?_,?_,Wy _⟩
    .simp[execOp,h,Instr.next,hu,getObj,setObj,Sem.run,hb,hlt']
    .have hlt2:b<w.heap.size:=(e6d.1 hb).1;refine s.set hx hr rfl rfl (by simp) (λj hj _=>by grind) ⟨by grind,hB,rfl⟩
    .exact⟨_,rfl,_,_,rfl,rfl,_,_,rfl,rfl,_,_,rfl,rfl,rfl⟩
   .rename_i hlt;have hlt' : ¬ pos<str.size:=λh0=>by
     have:Nat.blt pos str.size=true:=e8l.symm ▸ (show pos+1<=str.size from h0);grind
    refine X2 s (u:=.tuple #[.bool false]) ?_ ⟨_,rfl,_,_,rfl,rfl,rfl⟩;simp[execOp,h,Instr.next,hu,getObj,Sem.run,hb,hlt']
  .trivial
 .trivial
omit s in
theorem c1k{c:Call}(h:o.op=.call c):∀cs b,o.op≠.select cs b:=by grind
theorem c1l(h:o.op=.call c)(hc:c.callee=.builtin .len)(Q:VRs ρ args (c.args.map e).toList):RS B G P ρ H w (Ic P H c args) (execOp e o):=by
 rw[Jf h hc];have U:∀{n:Nat},(Builtin.len_ c.argTypes o.type (c.args.map e)).run P w=.ok (goInt n) w ->
   (builtin .len c.argTypes o.type (c.args.map λ|.const _=>true|_=>false) (c.args.map e)).run P w=.ok (.value (goInt n)) w:=λ{n} h=>by
  simp[builtin,h]
 have Z:∀{u:Value},(c.args.map e).toList=[u]->(c.args.map e)[0]?=some u:=λ{u} h=>by
  rw[<- e7z,h];rfl
 have t0:∀{d:TypeDesc},(c.argTypes[0]?).bind P.underlying=some d->∃t,c.argTypes[0]?=some t/\P.underlying t=some d:=λ{d} h=>by
  grind
 unfold Ic;split
 .rename_i a off n a6 el hd;obtain⟨u,A,b,q,k,hr,a1,rfl⟩:=Q.one;obtain⟨t,ht,D⟩:=t0 hd;exact X2 s (U (n:=n) (by simp[Builtin.len_,ht,Z A,A0 D])) rfl
 .rename_i a off n d el hd;obtain⟨u,A,b,q,k,hr,a1,rfl⟩:=Q.one;obtain⟨t,ht,D⟩:=t0 hd;exact X2 s (U (n:=n) (by simp[Builtin.len_,ht,Z A,A0 D])) rfl
 .rename_i el hd;obtain⟨u,A,b,q,rfl⟩:=Q.one;obtain⟨t,ht,D⟩:=t0 hd;exact X2 s (U (n:=0) (by simp[Builtin.len_,ht,Z A,A0 D])) rfl
 .rename_i a k el hd;obtain⟨u,A,b,q,kk,hr,rfl⟩:=Q.one;obtain⟨t,ht,D⟩:=t0 hd;split
  .rename_i es a7 hx;obtain⟨a2,hb,a3,hB⟩:=s.at hx hr;have a4:∀{l:List (AV×AV×Nat)} {m:List MapEntry},ER ρ l m->m.length=l.length:=by
    intro l
    induction l with
    | nil=>intro m h;cases h;rfl
    | cons x l ih=>intro m h;obtain⟨y,m',e,_,_,_,h'⟩:=h;grind
   have:=a4 a3;refine X2 s (U (n:=es.length) ?_) rfl;have e2:a2.size=es.length:=by grind
   simp[Builtin.len_,ht,Z A,A0 D,getObj,Sem.run,hb,e2]
  .trivial
 .rename_i a5 hd;obtain⟨u,A,rfl⟩:=Q.one;obtain⟨t,ht,D⟩:=t0 hd;exact X2 s (U (n:=a5.size) (by simp[Builtin.len_,ht,Z A,A0 D])) rfl
 .trivial
theorem c1m(he:EvR ρ ev e)(h:o.op=.call c)(A:c.callee=.builtin .len)(D:VRs ρ args (c.args.map e).toList):RS B G P ρ H w (J9 P H ev o c args) (execOp e o):=by
 grind[J9,Ni,c1l]
theorem c1n(he:EvR ρ ev e)(h:o.op=.call c)(Q:c.callee=.builtin .cap)(U:VRs ρ args (c.args.map e).toList):RS B G P ρ H w (Ld P H ev o c args) (execOp e o):=by
 unfold Ld;split
 .rename_i r A;obtain⟨u,h1,h2⟩:=Lm (P:=P) (w:=w) (c1k h) he A;grind[RS.quiet]
 .split
  .rename_i a off n D el hd;obtain⟨u,Z,b,q,k,A,a1,rfl⟩:=U.one
   cases ht:c.argTypes[0]? with
   | none=>grind
   | some t =>
    rw[ht] at hd;have a0:(c.args.map e)[0]?=some (.slice (some ⟨b,q+off,none⟩) n D):=by rw[<- e7z,Z];rfl
    rw[Jf h Q];exact X2 s (u:=goInt D) (by simp[builtin,Builtin.cap_,ht,a0,A0 (show P.underlying t=some (.slice el) from hd)]) rfl
  .trivial
end one
end
section
variable {B G:Nat}{ρ:Rn}{H:Mem}{w:World}{P:Program}
theorem Td{x:AV}{n:Nat}{u:Value}(h:lenOf x=some n)(A:VR ρ x u)(w:World):(Builtin.lenOf u).run P w=.ok n w:=by
 unfold lenOf at h;split at h
 .obtain⟨_,_,_,_,_,rfl⟩:=A;cases h;rfl
 .obtain⟨_,_,_,_,_,rfl⟩:=A;cases h;rfl
 .obtain⟨_,_,rfl⟩:=A;cases h;rfl
 .cases A;cases h;rfl
 .cases A;cases h;rfl
 grind
theorem a0k{x:AV}{size n:Nat}{l:List AV}{u:Value}(s:Sim B G ρ H w)(h:Cv H size n x=some l)(D:VR ρ x u):
  ∃cs:Array Value,(∀A,A.heap=w.heap->(Builtin.firstCells size n u).run P A=.ok cs A)/\VRs ρ l cs.toList:=by
 unfold Cv at h;have key:∀{a off b q k:Nat}{U:List AV}{own:Bool}{z:Nat}(m c:Nat),H.get a=some (.cells U own z)->ρ a=some (b,q,k)->La U (n*size) off none some=some l ->
   ∃cs:Array Value,(∀A,A.heap=w.heap->(Builtin.firstCells size n (.slice (some ⟨b,q+off,none⟩) m c)).run P A=.ok cs A)/\VRs ρ l cs.toList:=by
  intro a off b q k U own z m c hx Q Z;rw[Jd] at Z;split at Z
  .rename_i a0;cases Z;obtain⟨us,a2,a3,a4⟩:=(s.at hx Q).sub a0;refine⟨us.toArray,λA a5=>?_,by grind⟩;grind[Builtin.firstCells,S9,World.cell?]
  grind
 split at h
 .obtain⟨b,q,k,Q,a0,rfl⟩:=D;split at h
  .rename_i hx;exact key _ _ hx Q h
  grind
 .obtain⟨b,q,k,Q,a0,rfl⟩:=D;split at h
  .rename_i hx;exact key _ _ hx Q h
  grind
 .obtain⟨ad,c,rfl⟩:=D;split at h
  .rename_i h0;subst h0;cases h;exact⟨#[],λA _=>by simp[Builtin.firstCells,loadCells,loadCellsFrom],rfl⟩
  grind
 .cases D;cases h;exact⟨#[],λA _=>rfl,rfl⟩
 .cases D;cases h;rename_i a1;refine⟨(a1.extract 0 n).data.map λb=>.int .u8 b.toNat,λA _=>rfl,?_⟩;have:=Yb (ρ:=ρ) ((a1.extract 0 n).data.toList.map λb=>(.int .u8 b.toNat:Value));simp_all[Function.comp_def]
 grind
theorem a8b(h:Nat):∀(r c:Nat),Builtin.growBy h r c<=2 ^ r*(c+768)
 | 0,c=>by simp[Builtin.growBy]
 | r+1,c=>by
  simp only[Builtin.growBy];split
  .exact Xa (e8h c 768) (Nat.le_mul_of_pos_left _ (Nat.two_pow_pos _))
  .have D:=a8b h r (c+(c+768) / 4);have A:c+(c+768) / 4+768<=2*(c+768):=by omega
   have Q:=e5x (Wy (2 ^ r)) A;grind
theorem a8c{h A:Nat}(D:h<=1048576)(Q:A<=1048576):Builtin.nextslicecap h A<=33554432:=by
 unfold Builtin.nextslicecap;split
 .omega
 .split
  .omega
  .have U:=a8b h 4 A;grind
variable {argTypes:Array TypeId}{args:Array Value}{ty sT xT el:TypeId}{dx:TypeDesc}{i:TypeInfo}{base:Option Addr}{sLen sCap n:Nat}{x:Value}{new old:Array Value}
theorem a8d(ht:argTypes[0]?=some sT)(hx:argTypes[1]?=some xT)(hd:P.underlying sT=some (.slice el))(hxd:P.underlying xT=some dx)(hni:∀k,dx≠.int k)
  (hi:P.info? el=some i) (ha0:args[0]?=some (.slice base sLen sCap)) (ha1:args[1]?=some x) (h:(Builtin.lenOf x).run P w=.ok n w) (A:sLen+n<=sCap)
  (D:(Builtin.firstCells i.size n x).run P w=.ok new w) :
  (Builtin.append_ argTypes ty args).run P w =
   ((match base with|some a=>storeCells (a.add (sLen*i.size)) new.toList|none=>pure ()).run P w).andThen λ_ Q=>.ok (.slice base (sLen+n) sCap) Q:=by
 cases base with
 | none=>simp[Builtin.append_,ht,hx,ha0,ha1,A0 hd,A0 hxd,Cr hi,h,A,D]
 | some a=>simp[Builtin.append_,ht,hx,ha0,ha1,A0 hd,A0 hxd,Cr hi,h,A,D]
theorem run_append_grow{zv:Value}(ht:argTypes[0]?=some sT)(hx:argTypes[1]?=some xT)(hd:P.underlying sT=some (.slice el))(hxd:P.underlying xT=some dx)(hni:∀k,dx≠.int k)
  (hi:P.info? el=some i) (hz:i.zero=some zv) (ha0:args[0]?=some (.slice base sLen sCap)) (ha1:args[1]?=some x) (D:(Builtin.lenOf x).run P w=.ok n w) (a2:sCap<sLen+n)
  (A:small (sLen+n) sCap i.bytes=true)
  (Q:(Builtin.firstCells i.size sLen (.slice base sLen sCap)).run P w.drew=.ok old w.drew)
  (U:(Builtin.firstCells i.size n x).run P w.drew=.ok new w.drew) :
  ∃h,sLen+n<=h/\(Builtin.append_ argTypes ty args).run P w =
   .ok (.slice (some ⟨w.heap.size,0,none⟩) (sLen+n) h) (w.drew.alloc (.cells (old++(new++Builtin.zeroCells zv.cells (h-(sLen+n)))) el)):=by
 simp only[small,W1,decide_eq_true_eq] at A;obtain⟨⟨Z,h2⟩,h3⟩:=A;have a0:¬(sLen+n<=sCap):=by omega
 have a1:¬(281474976710656<Builtin.nextslicecap (sLen+n) sCap*i.bytes):=by
  have h5:=e5x (a8c Z h2) h3;grind
 refine⟨(Question.appendCap (sLen+n) sCap el).cut (w.tape w.drawn (.appendCap (sLen+n) sCap el)),by simp[Question.cut],?_⟩;simp[Builtin.append_,ht,hx,ha0,ha1,A0 hd,A0 hxd,Cr hi,D,a0,Gg hi,a1,Question.forced,Q,U,E6 hi hz,newRow];grind
section zeros
variable {k k' : IntKind}{zv:Value}
theorem a8e{n b:Nat}(h:n<=1048576)(A:b<=1048576):¬((n:Int)*(b:Int) > 281474976710656):=by
 have D:n*b<=1099511627776:=Xa (e5x h A) (by decide);grind
theorem a0l{n:Nat}(h:n<=1048576):IntKind.i64.wrap (n:Int)=n:=Nj (by omega)
theorem c1o(ht:argTypes[0]?=some sT)(hx:argTypes[1]?=some xT)(hd:P.underlying sT=some (.slice el))(hxd:P.underlying xT=some (.int k))
  (hi:P.info? el=some i) (ha0:args[0]?=some (.slice base sLen sCap)) (ha1:args[1]?=some (.int k' 0)) (h:sLen<=sCap) :
  (Builtin.append_ argTypes ty args).run P w=.ok (.slice base sLen sCap) w:=by
 have w0:IntKind.i64.wrap 0=0:=a0l (n:=0) (by omega)
 cases base with
 | none=>simp[Builtin.append_,ht,hx,ha0,ha1,A0 hd,A0 hxd,Cr hi,Gg hi,asInt,asIntOf,w0,h]
 | some a=>simp[Builtin.append_,ht,hx,ha0,ha1,A0 hd,A0 hxd,Cr hi,Gg hi,asInt,asIntOf,w0,h,storeCells]
theorem c1p(ht:argTypes[0]?=some sT)(hx:argTypes[1]?=some xT)(hd:P.underlying sT=some (.slice el))(hxd:P.underlying xT=some (.int k))
  (hi:P.info? el=some i) (hz:i.zero=some zv) (ha0:args[0]?=some (.slice base sLen sCap)) (ha1:args[1]?=some (.int k' n)) (h:n<=1048576) (Z:i.bytes<=1048576) (A:n*i.size≠0) (D:sLen+n<=sCap) :
  (Builtin.append_ argTypes ty args).run P w =
   ((match base with|some a=>storeCells (a.add (sLen*i.size)) (Builtin.zeroCells zv.cells n).toList|none=>pure ()).run P w).andThen λ_ w'=>.ok (.slice base (sLen+n) sCap) w':=by
 have Q:=a0l h;have U:¬((n:Int)<0):=by omega
 have c2:=a8e h Z;have c3:¬(281474976710656<(n:Int)*(i.bytes:Int)):=c2
 cases base with
 | none=>simp[Builtin.append_,ht,hx,ha0,ha1,A0 hd,A0 hxd,Cr hi,Gg hi,asInt,asIntOf,Q,U,c3,D,A,E6 hi hz]
 | some a=>simp[Builtin.append_,ht,hx,ha0,ha1,A0 hd,A0 hxd,Cr hi,Gg hi,asInt,asIntOf,Q,U,c3,D,A,E6 hi hz]
theorem c1q(ht:argTypes[0]?=some sT)(hx:argTypes[1]?=some xT)(hd:P.underlying sT=some (.slice el))(hxd:P.underlying xT=some (.int k))
  (hi:P.info? el=some i) (hz:i.zero=some zv) (ha0:args[0]?=some (.slice base sLen sCap)) (ha1:args[1]?=some (.int k' n)) (A:n<=1048576) (U:n*i.size≠0) (a2:sCap<sLen+n)
  (D:small (sLen+n) sCap i.bytes=true)
  (Z:(Builtin.firstCells i.size sLen (.slice base sLen sCap)).run P w.drew=.ok old w.drew) :
  ∃h,sLen+n<=h/\(Builtin.append_ argTypes ty args).run P w =
   .ok (.slice (some ⟨w.heap.size,0,none⟩) (sLen+n) h) (w.drew.alloc (.cells (old++(Builtin.zeroCells zv.cells n++Builtin.zeroCells zv.cells (h-(sLen+n)))) el)):=by
 simp only[small,W1,decide_eq_true_eq] at D;obtain⟨⟨h1,h2⟩,Q⟩:=D;have a0:¬(sLen+n<=sCap):=by omega
 have a1:¬(281474976710656<Builtin.nextslicecap (sLen+n) sCap*i.bytes):=by
  have h5:=e5x (a8c h1 h2) Q;grind
 have w1:=a0l A;have c1:¬((n:Int)<0):=by omega
 have c3:¬(281474976710656<(n:Int)*(i.bytes:Int)):=a8e A Q;refine⟨(Question.appendCap (sLen+n) sCap el).cut (w.tape w.drawn (.appendCap (sLen+n) sCap el)),by simp[Question.cut],?_⟩;simp[Builtin.append_,ht,hx,ha0,ha1,A0 hd,A0 hxd,Cr hi,a0,Gg hi,a1,Question.forced,Z,E6 hi hz,newRow,asInt,asIntOf,w1,c1,c3,U];grind
end zeros
end
section
variable {B G:Nat}{ρ:Rn}{H:Mem}{w:World}{P:Program}
variable {u:Value}{l:List AV}{x k:AV}{es:List (AV×AV×Nat)}{b:Nat}{argTypes:Array TypeId}{args:Array Value}{ty src dst:TypeId}
def VS(B G:Nat)(P:Program)(ρ:Rn)(H:Mem)(w:World)(r:Option (AV×Mem))(m:Sem Value):Prop:=
 ∀v H',r=some (v,H')->∃ρ' u w',m.run P w=.ok u w'/\Ext B H.next ρ w ρ' w'/\Sim B G ρ' H' w'/\VR ρ' v u/\H.next<=H'.next
theorem Te{v:AV}{m:Sem Value}(s:Sim B G ρ H w)(h:m.run P w=.ok u w)(A:VR ρ v u):VS B G P ρ H w (some (v,H)) m:=by
 intro D H' e;cases e;exact⟨ρ,u,w,h,Ya _ _ _ _,s,A,Wy _⟩
theorem Bx{m:Sem Value}:VS B G P ρ H w none m:=λ_ _ e=>by cases e
theorem a0m{cells:Array Value}{el:TypeId}{m:Sem Value}{n size h:Nat}(s:Sim B G ρ H w)(Z:n<=h)(D:VRs ρ l cells.toList)(A:Array Value)
  (hl:l.length=n*size) (a0:A.size=(h-n)*size)
  (Q:m.run P w=.ok (.slice (some ⟨w.heap.size,0,none⟩) n h) (w.drew.alloc (.cells (cells++A) el))):VS B G P ρ H w (Ib H l n size) m:=by
 unfold Ib;rw[X1];intro v H' e;cases e;have a1:cells.size=n*size:=by have:=D.length;grind
 have a2:n*size+(h-n)*size=h*size:=by rw[<- e6g];grind
 refine⟨upd ρ H.next (w.heap.size,0,h),_,_,Q,Ym ρ _ _ w _ (.cells (cells++A) el) rfl rfl rfl rfl s.base,?_,⟨_,_,_,Dr _ _ _,by omega,rfl⟩,W5 _⟩;refine s.alloc _ (.cells (cells++A) el) h _ rfl ⟨cells++A,el,(0,0),a7l w _ _ rfl,?_,λ_=>⟨s.base,by simp,?_,?_⟩⟩
 .intro i v hi;obtain⟨u,hu,U⟩:=D.get i hi;have a3:i<cells.size:=by
   grind
  exact⟨u,by grind,U.mono (Je s.none)⟩
 all_goals grind
theorem Sim.drew(s:Sim B G ρ H w):Sim B G ρ H w.drew:=s.heap rfl
theorem a0n(z:Array Value)(n:Nat):(Builtin.zeroCells z n).size=n*z.size:=by simp[Builtin.zeroCells]
theorem Qq{a:Nat}{new:List AV}{z off q k:Nat}{vs:List Value}{v:AV}{m:Sem Value}(s:Sim B G ρ H w)(D:H.get a=some (.cells l true z))(Q:ρ a=some (b,q,k))
  (A:VRs ρ new vs) (U:VR ρ v u) (Z:∀h,(storeCells ⟨b,q+off,none⟩ vs).run P w=.ok () h->m.run P w=.ok u h):VS B G P ρ H w (J8 H a l z off new v) m:=by
 unfold Go.Ai.J8;split
 .rename_i a0;rw[Ll];split
  .rename_i a1;rw[Yd];intro v' H' e;cases e;obtain⟨h,h1,h2,h3⟩:=a7o (P:=P) s D Q a1 A (allOne_VRs A a0);exact⟨ρ,u,h,Z h h1,h2,h3,U,Wy _⟩
  simp[Bx]
 simp[Bx]
section app
variable {argTypes:Array TypeId}{args:Array Value}{ty sT xT el:TypeId}{dx:TypeDesc}{i:TypeInfo}{zv:Value}{n:Nat}{x:AV}{xu su:Value}{st:AV}{new:List AV}
 (ht:argTypes[0]?=some sT) (hx:argTypes[1]?=some xT) (hd:P.underlying sT=some (.slice el)) (hxd:P.underlying xT=some dx) (hni:∀ k,dx≠.int k)
 (hi:P.info? el=some i) (hz:i.zero=some zv) (hzs:zv.cells.size=i.size) (ha0:args[0]?=some su) (ha1:args[1]?=some xu)
include ht hx hd hxd hni hi hz hzs ha0 ha1
omit ht hx hd hxd hni hi ha0 ha1 hz in
theorem a8f{cs:Array Value}(s:Sim B G ρ H w)(a3:VR ρ st su)(g8:n≠0)(g9:i.size≠0)(U:VRs ρ new cs.toList)
  (a4:∀{base:Option Addr}{sLen sCap:Nat},su=.slice base sLen sCap->sLen+n<=sCap->(Builtin.append_ argTypes ty args).run P w =
   ((match base with|some a=>storeCells (a.add (sLen*i.size)) cs.toList|none=>pure ()).run P w).andThen λ_ w'=>.ok (.slice base (sLen+n) sCap) w')
  (a5:∀{base:Option Addr}{sLen sCap:Nat}{old:Array Value},su=.slice base sLen sCap->sCap<sLen+n->small (sLen+n) sCap i.bytes=true ->
   (Builtin.firstCells i.size sLen (.slice base sLen sCap)).run P w.drew=.ok old w.drew->∃D,sLen+n<=D/\(Builtin.append_ argTypes ty args).run P w =
   .ok (.slice (some ⟨w.heap.size,0,none⟩) (sLen+n) D) (w.drew.alloc (.cells (old++(cs++Builtin.zeroCells zv.cells (D-(sLen+n)))) el))) :
  VS B G P ρ H w (Ed H i.size i.bytes n st new) (Builtin.append_ argTypes ty args):=by
 unfold Ed;split
 .rename_i hl;have h4:new.length=n*i.size:=by grind[Di,Nat.eq_of_beq_eq_true]
  split
  ·
   cases a3;unfold Sy;split
   .rename_i a2;obtain⟨D,a1,a6⟩:=a5 rfl (by omega) (by grind) (old:=#[]) rfl;simp only[e6u] at a6 a1;grind[a0n,a0m]
   simp[Bx]
  ·
   rename_i a off k D;obtain⟨b,q,kk,A,b9,rfl⟩:=a3;unfold P4;split
   .rename_i Z;have a0:k+n<=D:=Wz Z;split
    .rename_i l z Q;refine Qq s Q A U ⟨b,q,kk,A,a0,rfl⟩ λw' c0=>?_;rw[a4 rfl a0];simp_all[Fw,e7n]
    simp[Bx]
   .rename_i Z;have a0:D<k+n:=Nat.not_le.1 λh0=>by
     grind[Nat.ble_eq]
    split
    .rename_i l own z Q a2;rw[Jd];split
     .rename_i a7;rw[Qi];obtain⟨us,a8,a9,b0⟩:=(s.at Q A).sub a7;have b2:(Builtin.firstCells i.size k (.slice (some ⟨b,q+off,none⟩) k D)).run P w.drew=.ok us.toArray w.drew:=by
       rw[Builtin.firstCells,<- a8];exact S9 us λj v h=>b0 j v h
      obtain⟨b3,a1,a6⟩:=a5 rfl a0 a2 b2;refine a0m (el:=el) s a1 (cells:=us.toArray++cs) (by simpa using a9.append U) (Builtin.zeroCells zv.cells (b3 - (k+n))) ?_ (by grind[a0n]) ?_
      all_goals grind
     simp[Bx]
    simp[Bx]
  ·
   rename_i a off k d;obtain⟨b,q,K,A,b9,rfl⟩:=a3;unfold Sz;split
   .rename_i l z Q;have c1:=s.at Q A;obtain⟨c,e,fz,b5,c2,c6⟩:=c1;obtain⟨hB,c7,hK,c8⟩:=c6 rfl;split
    .rename_i h1 h2;simp only[W1] at h1;have b6:z=i.size:=Xe h1.1;have c9:off=d*i.size:=Xe h1.2;have h5:off+(k+n)*i.size<=l.length:=by simp_all[Di]
     have Z:k+n<=K-d:=by
      rcases c8 with h0|h0
      .omega
      .rw[b6] at h0;have:(d+(k+n))*i.size<=K*i.size:=by grind
       have:=Nat.le_of_mul_le_mul_right this (by omega);omega
     refine Qq s Q A U ⟨b,q,K,A,by omega,rfl⟩ λw' c0=>?_;rw[a4 rfl Z];simp_all[Fw,e7n]
    .rename_i h1 h2 h3;simp only[W1] at h1 h3;have b6:z=i.size:=Xe h1.1;have c9:off=d*i.size:=Xe h1.2;have h6:off+k*i.size=l.length:=by grind[Di,Nat.eq_of_beq_eq_true]
     have a2:=h3.1.2;have e5:=allOne_VRs U h3.2;rw[Jd];split
     .rename_i a7;rw[Qi,Mem.delK_eq];obtain⟨us,a8,a9,b0⟩:=(s.at Q A).sub a7;by_cases Z:k+n<=K-d
      ·
       have h7:q+off+k*i.size+cs.toList.length<=c.size:=by
        have e1:cs.toList.length=n*i.size:=by have:=U.length;omega
        have e2:(d+(k+n))*i.size<=K*i.size:=e9d _ (by omega);grind
       obtain⟨w',c',h8,e6,e7,h9,b7,i0,g2,g3,g4⟩:=a0h (P:=P) b (q+off+k*i.size) e fz cs.toList 0 c w b5 c7 (by omega) e5;unfold Ib;rw[X1];intro v H' e0;cases e0;have e8:=s.rm a;have e9:Ext B H.next ρ w (upd ρ H.next (b,q+off,K-d)) w':=⟨λj h=>Dj _ _ (by omega),Y0 b5 rfl (λj h=>b7 j h),g2,g3,g4,by omega,λj h=>b7 j (by omega)⟩;refine⟨upd ρ H.next (b,q+off,K-d),.slice (some ⟨b,q+off,none⟩) (k+n) (K-d),w',?_,e9,?_,⟨_,_,_,Dr _ _ _,by omega,by simp⟩,W5 _⟩
       .rw[a4 rfl Z];simp_all[Fw]
       .refine e8.add (by omega) ?_ ⟨c',e,fz,e6,?_,λ_=>⟨hB,by grind,?_,?_⟩⟩
        .intro j y b1 o1 k1 hy g0;obtain⟨g1,hy⟩:=Ys hy;have i1:b1≠b:=by
          rintro rfl;exact s.inj a j _ y b1 q K o1 k1 Q hy (Ne.symm g1) rfl A g0
         grind
        .intro j v h;have g5:((l.drop off).take (k*i.size)).length=k*i.size:=by grind
         have b8:=Je (x:=(b,q+off,K-d)) s.none;by_cases g6:j<k*i.size
         .rw[Xs (by omega)] at h;rw[e7j,if_pos g6,e8u] at h;obtain⟨u,hu,b4⟩:=c2 _ _ h;refine⟨u,?_,b4.mono b8⟩;grind
         .rw[Xq (by omega),g5] at h;obtain⟨u,hu,b4⟩:=U.get _ h;have i2:=(W8.1 hu).1;refine⟨u,?_,b4.mono b8⟩;grind
        .rw[e7];have e2:(K-d)*i.size+d*i.size=K*i.size:=by rw[<- e6g];grind
         grind
        .right;have e2:(k+n)*i.size<=(K-d)*i.size:=e9d _ Z;grind
      .have a0:K-d<k+n:=by omega
       have b2:(Builtin.firstCells i.size k (.slice (some ⟨b,q+off,none⟩) k (K-d))).run P w.drew=.ok us.toArray w.drew:=by
        rw[Builtin.firstCells,<- a8];exact S9 us λj v h=>b0 j v h
       have g7:small (k+n) (K-d) i.bytes=true:=by
        simp only[small,W1,decide_eq_true_eq] at a2 |-;omega
       obtain⟨b3,a1,a6⟩:=a5 rfl a0 g7 b2;refine a0m (el:=el) (H:=H.rm a) (s.rm a) a1 (cells:=us.toArray++cs) (by simpa using a9.append U) (Builtin.zeroCells zv.cells (b3 - (k+n))) ?_ (by grind[a0n]) ?_
       all_goals grind
     grind
    simp[Bx]
   simp[Bx]
  simp[Bx]
 simp[Bx]
theorem c1r(s:Sim B G ρ H w)(Q:VR ρ st su)(h:VR ρ x xu)(U:lenOf x=some n)(Z:n≠0)(a0:i.size≠0)(hf:Cv H i.size n x=some new):
  VS B G P ρ H w (Ed H i.size i.bytes n st new) (Builtin.append_ argTypes ty args):=by
 obtain⟨cs,A,a1⟩:=a0k (P:=P) s hf h;have D:=Td (P:=P) U h w;exact a8f (el:=el) hzs s Q Z a0 a1
  (λe a2=>a8d (P:=P) (w:=w) (ty:=ty) ht hx hd hxd hni hi (by grind) ha1 D a2 (A w rfl))
  (λe a3 a4 a5=>run_append_grow (P:=P) (w:=w) (ty:=ty) ht hx hd hxd hni hi hz (by grind) ha1 D a3 a4 a5 (A _ rfl))
end app
theorem a0o{v:AV}(h:isSlice v=true)(A:VR ρ v u):∃base n c,u=.slice base n c/\n<=c:=by
 unfold isSlice at h;split at h
 .obtain⟨_,_,_,_,D,rfl⟩:=A;grind
 .obtain⟨_,_,_,_,D,rfl⟩:=A;grind
 .cases A;grind
 grind
theorem c1s{size:Nat}(h:lenOf x=some 0)(A:VR ρ x u)(w:World):(Builtin.firstCells size 0 u).run P w=.ok #[] w:=by
 unfold lenOf at h;split at h
 .obtain⟨_,_,_,_,_,rfl⟩:=A;simp[Builtin.firstCells,loadCells,loadCellsFrom]
 .obtain⟨_,_,_,_,_,rfl⟩:=A;simp[Builtin.firstCells,loadCells,loadCellsFrom]
 .obtain⟨_,_,rfl⟩:=A;simp[Builtin.firstCells,loadCells,loadCellsFrom]
 .cases A;rfl
 .rename_i D;cases A;simp[Builtin.firstCells]
 grind
theorem c1t{sT:TypeId}{st:AV}{su xu:Value}(s:Sim B G ρ H w)(ht:argTypes[0]?=some sT)
  (ha0:args[0]?=some su) (ha1:args[1]?=some xu) (A:VR ρ st su) (D:VR ρ x xu) :
  VS B G P ρ H w (append P H sT argTypes[1]? st x) (Builtin.append_ argTypes ty args):=by
 unfold append;split
 .rename_i el size bytes U Z;obtain⟨hd,i,zv,hi,rfl,rfl,hz,hzs⟩:=Ls U;unfold S0 at Z
  cases hx:argTypes[1]? with
  | none=>grind
  | some xT =>
   rw[hx] at Z;have a0:∃dx,P.underlying xT=some dx/\∀k,dx≠.int k:=by
    grind
   obtain⟨dx,hxd,hni⟩:=a0;unfold En;split
   .rename_i h;split
    .rename_i a1;obtain⟨base,n,c,rfl,a4⟩:=a0o a1 A;refine Te s ?_ A;rw[a8d (P:=P) (w:=w) (ty:=ty) ht hx hd hxd hni hi ha0 ha1 (Td h D w) (by omega) (c1s h D w)]
     (split<;>rfl)
    simp[Bx]
   .rename_i n a2 h;split
    .rename_i new a8 hf;refine c1r ht hx hd hxd hni hi hz hzs ha0 ha1 s A D h (λQ=>a2 (by rw[Q])) (λQ=>?_) hf;simp_all
    simp[Bx]
   simp[Bx]
 .rename_i el size bytes U Z;split
  .rename_i a5;obtain⟨hd,i,zv,hi,rfl,rfl,hz,hzs⟩:=Ls U;unfold Wl at a5
   cases hx:argTypes[1]? with
   | none=>grind
   | some xT =>
    rw[hx] at a5;have a0:∃k,P.underlying xT=some (.int k):=by
     grind
    obtain⟨k,hxd⟩:=a0;unfold Wm;split
    .rename_i h;obtain⟨k',rfl⟩:=Kg h D;split
     .rename_i a1;obtain⟨base,n,c,rfl,a4⟩:=a0o a1 A;exact Te s (c1o (P:=P) (w:=w) (ty:=ty) ht hx hd hxd hi ha0 ha1 a4) A
     simp[Bx]
    .rename_i n a2 h;obtain⟨k',rfl⟩:=Kg h D;split
     .rename_i z a8 hc b7;simp only[W1] at hc;have a6:n<=1048576:=Wz hc.1;have hb20:i.bytes<=1048576:=Wz hc.2;have hs:i.size≠0:=λQ=>by simp_all
      have a7:n≠0:=λQ=>a2 (by rw[Q]);have a3:n*i.size≠0:=Nat.mul_ne_zero a7 hs;have a9:Eo P el (n*i.size)=some z:=by
       grind[Eo,Nat.eq_of_beq_eq_true]
      obtain⟨zs,_,b0,b1,_⟩:=Qp (ρ:=ρ) hi hz a9 w;have b2:=b1 a3;subst b2;exact a8f (el:=el) (cs:=Builtin.zeroCells zv.cells n) hzs s A a7 hs (Oy b0 n)
       (λe b3=>c1p (P:=P) (w:=w) (ty:=ty) ht hx hd hxd hi hz (by grind) ha1 a6 hb20 a3 b3)
       (λe b4 b5 b6=>c1q (P:=P) (w:=w) (ty:=ty) ht hx hd hxd hi hz (by grind) ha1 a6 a3 b4 b5 b6)
     simp[Bx]
    simp[Bx]
  simp[Bx]
 simp[Bx]
theorem c1u{dT:TypeId}{d:AV}{D xu:Value}(s:Sim B G ρ H w)(ht:argTypes[0]?=some dT)
  (ha0:args[0]?=some D) (ha1:args[1]?=some xu) (Q:VR ρ d D) (A:VR ρ x xu) :
  VS B G P ρ H w (copy P H dT d x) (Builtin.copy_ argTypes ty args):=by
 unfold copy;split
 .rename_i el size bytes n k a5 Z hk;obtain⟨hd,i,zv,hi,rfl,rfl,hz,hzs⟩:=Ls a5;have a8:=Td (P:=P) Z A w;have a0:∀{base:Option Addr}{k' c:Nat}{cells:Array Value},D=.slice base k' c->k'=k->(Builtin.firstCells i.size (Nat.min n k) xu).run P w=.ok cells w ->
    (Builtin.copy_ argTypes ty args).run P w=((match base with|some a=>storeCells a cells.toList|none=>pure ()).run P w).andThen λ_ w'=>.ok (goInt (Nat.min n k)) w':=by
   intro base k' c cells h a9 U
   (split<;>simp_all[Cr,A0,Builtin.copy_])
  have a1:∀{base:Option Addr}{k' c:Nat},D=.slice base k' c->k'=k:=by
   intro base k' c h;have:=Td (P:=P) hk Q w;grind[Sem.run_pure,Builtin.lenOf]
  split
  .rename_i hm;split
   .rename_i a6;obtain⟨base,k',c,h,a2⟩:=a0o a6 Q;have U:(Builtin.firstCells i.size (Nat.min n k) xu).run P w=.ok #[] w:=by
     rw[hm];unfold lenOf at Z;split at Z
     .obtain⟨_,_,_,_,_,rfl⟩:=A;simp[Builtin.firstCells,loadCells,loadCellsFrom]
     .obtain⟨_,_,_,_,_,rfl⟩:=A;simp[Builtin.firstCells,loadCells,loadCellsFrom]
     .obtain⟨_,_,rfl⟩:=A;simp[Builtin.firstCells,loadCells,loadCellsFrom]
     .cases A;rfl
     .rename_i b0;cases A;simp[Builtin.firstCells]
     grind
    refine Te (u:=goInt 0) s ?_ rfl;rw[a0 h (a1 h) U,hm]
    (split<;>rfl)
   simp[Bx]
  .rename_i m b1;split
   .rename_i l b2 U;obtain⟨cs,a3,a4⟩:=a0k (P:=P) s U A;unfold a6l;split
    .rename_i a off k1 c1;obtain⟨b,q,K,hr,a2,h⟩:=Q;split
     .rename_i c z hb;refine Qq s hb hr a4 rfl λw' a7=>?_;rw[a0 h (a1 h) (a3 w rfl)];simp[*]
     simp[Bx]
    .rename_i a off k1 d1;obtain⟨b,q,K,hr,a2,h⟩:=Q;split
     .rename_i c z hb;refine Qq s hb hr a4 rfl λw' a7=>?_;rw[a0 h (a1 h) (a3 w rfl)];simp[*]
     simp[Bx]
    simp[Bx]
   simp[Bx]
 simp[Bx]
theorem c1v{dT el:TypeId}{sz a1:Nat}{d:AV}{A:Value}(s:Sim B G ρ H w)(ht:argTypes[0]?=some dT)(a2:Ft P dT=some (el,sz,a1))
  (ha0:args[0]?=some A) (a0:VR ρ d A):VS B G P ρ H w (S3 P H el d) (Builtin.clear_ argTypes ty args):=by
 obtain⟨hd,i,zv,hi,rfl,rfl,hz,hzs⟩:=Ls a2;have a3:∀z,Cb P el=some z->VRs ρ z zv.cells.toList:=by
  intro z h;unfold Cb at h;rw[hi] at h;dsimp only at h;rw[hz] at h;cases h;exact Yb _
 have go:∀{a off n:Nat}{cp:Nat}{b q K:Nat}{z:List AV}{c:List AV} {k:Nat},Cb P el=some z->H.get a=some (.cells c true k)->ρ a=some (b,q,K)->A=.slice (some ⟨b,q+off,none⟩) (n+1) cp ->
   VS B G P ρ H w (J8 H a c k off (rep z (n+1)) (.lit (.tuple #[]))) (Builtin.clear_ argTypes ty args):=by
  intro a off n cp b q K z c k h1 h2 h3 h4;refine Qq s h2 h3 (Oy (a3 z h1) (n+1)) rfl λw' a4=>?_;rw[h4] at ha0;have a5:(storeCells ⟨b,q+off,none⟩ (Builtin.zeroCells zv.cells (n+1)).toList).run P w=.ok () w':=a4;simp[Builtin.clear_,ht,ha0,A0 hd,E6 hi hz,a5]
 unfold S3;split
 .rename_i z D;obtain⟨b,q,K,Q,a6,U⟩:=a0;split
  .rename_i Z;exact go D Z Q U
  .exact Bx
 .rename_i z D;obtain⟨b,q,K,Q,a6,U⟩:=a0;split
  .rename_i Z;exact go D Z Q U
  .exact Bx
 .exact Bx
theorem c1w{v:AV}{b:List UInt8}(h:bytesOf (v::l)=some b):∃n r,v=.lit (.int .u8 n)/\bytesOf l=some r/\b=UInt8.ofNat n.toNat::r:=by
 unfold bytesOf at h;grind
theorem bytesOf_ints:∀ {l:List AV} {b:List UInt8} {us:List Value},bytesOf l=some b→VRs ρ l us →
  ∃ ns:Wd,us=ns.map (Value.int .u8)∧∀ r:ByteArray,ns.foldl (fun r n=>r.push (UInt8.ofNat n.toNat)) r=⟨r.data++b.toArray⟩
 | [],b,us,h,hv=>by cases h; cases hv; simp
 | v :: l,b,us,h,⟨u,us',e,hv,hr⟩=>by
  subst e;obtain ⟨n,r,rfl,hb,rfl⟩:=c1w h;cases hv;obtain ⟨ns,rfl,hf⟩:=bytesOf_ints hb hr;exact ⟨n :: ns,rfl,fun r=>by simp_all⟩
theorem c1x{e:TypeId}{h:ByteArray}(s:Sim B G ρ H w)(Q:P.underlying src=some .string)(hd:P.underlying dst=some (.slice e))(he:P.underlying e=some (.int .u8)):
  VS B G P ρ H w (Ib H (h.data.toList.map λb=>.lit (.int .u8 b.toNat)) h.size 1) (Go.convert src dst (.string h)):=by
 unfold Ib;rw[X1];intro v H' U;cases U;have Z:=run_bytes_of_string (P:=P) w src dst e h Q hd he;have a0:h.size<=grownCap w h.size 0 e:=by simp[grownCap,Question.cut]
 have a1:h.data.size=h.size:=rfl;have a2:(bytesRow h (grownCap w h.size 0 e)).size=grownCap w h.size 0 e:=by grind[bytesRow]
 refine⟨upd ρ H.next (w.heap.size,0,grownCap w h.size 0 e),_,_,Z,Ym ρ _ _ w _ _ rfl rfl rfl rfl s.base,?_,⟨_,_,_,Dr _ _ _,by omega,by simp⟩,W5 _⟩;refine s.alloc _ _ (grownCap w h.size 0 e) _ rfl ⟨bytesRow h (grownCap w h.size 0 e),e,_,a7l w _ _ rfl,?_,λ_=>⟨s.base,by grind,by omega,.inr ?_⟩⟩
 .intro j v A;rw[e6r] at A
  cases D:h.data.toList[j]? with
  | none=>grind
  | some b =>
   rw[D] at A;cases A;have a3:=(W8.1 D).1;have a4:j<h.data.size:=by grind
   refine⟨_,?_,rfl⟩;simp_all[bytesRow_at]
 grind
theorem c1y{e:TypeId}{n:Nat}{b:List UInt8}(s:Sim B G ρ H w)(hx:VR ρ x u)(Q:P.underlying src=some (.slice e))(hd:P.underlying dst=some .string)
  (he:P.underlying e=some (.int .u8)) (A:lenOf x=some n) (D:Cv H 1 n x=some l) (U:bytesOf l=some b) (a2:∀Z,x≠.lit (.string Z)) :
  (Go.convert src dst u).run P w=.ok (.string ⟨b.toArray⟩) w:=by
 obtain⟨cs,a0,a1⟩:=a0k (P:=P) s D hx;obtain⟨ns,a3,a4⟩:=bytesOf_ints U a1;have hr:=a0 w rfl;have key:∀{a:Addr}{c:Nat},u=.slice (some a) n c->(Go.convert src dst u).run P w=.ok (.string ⟨b.toArray⟩) w:=by
  intro a c h;subst h;rw[run_convert_bytes_string w src dst e (some a) n c Q he hd,run_bytesToString w a n c ns ?_]
  .simp_all
  (simp_all[Builtin.firstCells];grind)
 unfold lenOf at A;split at A
 .obtain⟨_,_,_,_,_,h⟩:=hx;grind
 .obtain⟨_,_,_,_,_,h⟩:=hx;grind
 .obtain⟨_,_,h⟩:=hx;grind
 .cases hx;cases A;simp only[Cv] at D;cases D;cases U;rw[run_convert_bytes_string w src dst e none _ _ Q he hd];rfl
 all_goals grind
theorem c1z(s:Sim B G ρ H w)(hx:VR ρ x u):VS B G P ρ H w (convert P H src dst x) (Go.convert src dst u):=by
 unfold Go.Ai.convert;split
 .rename_i e U h hd;cases hx;grind[Bx,c1x]
 .exact Bx
 .rename_i y e Z h hd;split
  .rename_i he;split
   .rename_i n A;split
    .rename_i l D;split
     .rename_i b Q;exact Te s (c1y s hx (by grind) (by grind) he A D Q (by grind)) rfl
     simp[Bx]
    simp[Bx]
   simp[Bx]
  simp[Bx]
 simp[Bx]
section one
variable {ev:Ev}{e:Operand→Value}{o:Oper} (s:Sim B G ρ H w) (he:EvR ρ ev e)
include s he
theorem c2a{src dst:TypeId}{x:Operand}(h:o.op=.convert src dst x):RS B G P ρ H w (Ep P H ev o src dst (ev x)) (execOp e o):=by
 unfold Ep;split
 .rename_i r A;obtain⟨u,Q,D⟩:=Lm (P:=P) (w:=w) (by grind) he A;grind[RS.quiet]
 .split
  .rename_i v U;have key:=c1z (P:=P) (src:=src) (dst:=dst) s (he _ _ U);split
   .rename_i r H' A;obtain⟨Z,u,w',Q,D,h3,h4,h5⟩:=key r H' A;exact⟨Z,u,w',by simp_all[execOp],D,h3,h4,h5⟩
   .trivial
  .trivial
end one
theorem a8g{h D:Type}(m:Sem h)(f:h->Sem D):Ar P (m.bind f)=match Ar P m with|some a=>Ar P (f a)|none=>none:=by
 induction m with
 | pure a=>rfl
 | program k A=>grind[Ar,Sem.bind]
 | mark m k A=>assumption
 | choose q k A=>grind[Ar,Sem.bind]
 | _=>simp[Sem.bind,Ar]
theorem a8h(A:TypeDesc)(k:Value):∀(Q D:List MapEntry)(i:Nat),Q.map (·.key)=D.map (·.key) ->
  match Instr.findNow A k Q i with
  | none=>Instr.findNow A k D i=none
  | some none=>Instr.findNow A k D i=some none
  | some (some (j,_))=>∃e,D[j-i]?=some e/\i<=j/\Instr.findNow A k D i=some (some (j,e.val))
 | [],[],i,_=>rfl
 | [],_::_,_,h=>by grind
 | _::_,[],_,h=>by grind
 | a::Q,b::D,i,h=>by
  simp only[e6v,List.cons.injEq] at h;obtain⟨U,Z⟩:=h;simp only[Instr.findNow,U]
  cases hs:Instr.sameNow A k b.key with
  | none=>rfl
  | some t=>cases t with
   | true=>grind
   | false =>
    have:=a8h A k Q D (i+1) Z;dsimp only;revert this
    cases Instr.findNow A k Q (i+1) with
    | none=>exact id
    | some r=>cases r with
     | none=>exact id
     | some y =>
      obtain⟨j,v⟩:=y;rintro⟨e,he,a0,hr⟩;exact⟨e,by rw[show j-i=(j-(i+1))+1 by omega];simpa using he,by omega,hr⟩
theorem a8i(Q:TypeId)(k:Value):∀(Z D:List MapEntry)(i:Nat)(r:Option (Nat×Value)),Z.map (·.key)=D.map (·.key)->Ar P (Instr.findAsking Q k Z i)=some r->∀w:World,
  match r with
  | none=>(Instr.findAsking Q k D i).run P w=.ok none w
  | some (j,_)=>∃e,D[j-i]?=some e/\i<=j/\(Instr.findAsking Q k D i).run P w=.ok (some (j,e.val)) w
 | [],[],i,r,_,U,w=>by simp only[Instr.findAsking] at U;cases U;rfl
 | [],_::_,_,_,h,_,_=>by grind
 | _::_,[],_,_,h,_,_=>by grind
 | a::Z,b::D,i,r,h,U,w=>by
  simp only[e6v,List.cons.injEq] at h;obtain⟨hk,hl⟩:=h;simp only[Instr.findAsking,hk] at U |-;have A:=U;change Ar P (Sem.bind _ _)=_ at A;rw[a8g] at A
  cases hq:Ar P (Op.equal Q k b.key) with
  | none=>grind
  | some t =>
   rw[hq] at A;have a0:=Qm hq w
   cases t with
   | true =>
    simp only[if_true] at A;cases A;simp_all
   | false =>
    simp only[e9j,if_false] at A;have:=a8i Q k Z D (i+1) r hl A w
    cases r with
    | none=>simp_all
    | some y =>
     obtain⟨j,v⟩:=y;obtain⟨e,he,a1,hr⟩:=this;exact⟨e,by grind,by omega,by simp_all⟩
theorem a8j{Q:TypeId}{k:Value}{U D:List MapEntry}{r:Option (Nat×Value)}(h:U.map (·.key)=D.map (·.key))(hp:Ar P (Instr.findKey Q k U)=some r)(w:World):
  match r with
  | none=>(Instr.findKey Q k D).run P w=.ok none w
  | some (j,_)=>∃e,D[j]?=some e/\(Instr.findKey Q k D).run P w=.ok (some (j,e.val)) w:=by
 unfold Instr.findKey at hp |-;have A:=hp;change Ar P (Sem.bind _ _)=_ at A;rw[a8g] at A
 cases hq:Ar P (underlying Q) with
 | none=>grind
 | some d =>
  rw[hq] at A;have a0:=Qm hq w;have Z:=a8h d k U D 0 h;dsimp only at A
  cases hf:Instr.findNow d k U 0 with
  | some x =>
   rw[hf] at A Z
   cases x with
   | none =>
    cases A;simp_all
   | some y =>
    obtain⟨j,v⟩:=y;cases A;obtain⟨e,he,_,hr⟩:=Z;simp_all
  | none =>
   rw[hf] at A Z;dsimp only at Z A;have:=a8i Q k U D 0 r h A w
   (split<;>simp_all)
theorem ER.keys:∀ {es:List (AV×AV×Nat)} {l:List MapEntry} {ks:List Value},ER ρ es l→litAll (es.map (·.1))=some ks→l.map (·.key)=ks
 | [],_,_,h,hk=>by cases h; cases hk; rfl
 | (k,v,b) :: es,_,ks,⟨e,l',he,h1,h2,h3,h4⟩,hk=>by
  subst he;simp only [e6v] at hk
  cases k with
  | lit x =>
   simp only [litAll] at hk;split at hk
   ·rename_i ws hw; cases hk; cases h1; simp [ER.keys h4 hw]
   grind
  | _=>simp [litAll] at hk
theorem ER.get:∀ {es:List (AV×AV×Nat)} {l:List MapEntry} {i:Nat} {k v:AV} {b:Nat} {e:MapEntry},ER ρ es l→es[i]?=some (k,v,b)→l[i]?=some e→VR ρ k e.key∧VR ρ v e.val
 | [],_,i,_,_,_,_,_,h,_=>by grind
 | (k,v,b) :: es,_,0,_,_,_,_,⟨e,l',he,h1,h2,h3,h4⟩,h,h'=>by grind
 | (k,v,b) :: es,_,i+1,_,_,_,_,⟨e,l',he,h1,h2,h3,h4⟩,h,h'=>by subst he; simp at h h'; exact ER.get h4 h h'
theorem ER.length:∀ {es:List (AV×AV×Nat)} {l:List MapEntry},ER ρ es l→l.length=es.length
 | [],_,h=>by cases h; rfl
 | _ :: _,_,⟨e,l',he,_,_,_,h4⟩=>by subst he; simp [ER.length h4]
theorem ER.snoc:∀ {es:List (AV×AV×Nat)} {l:List MapEntry} {k v:AV} {b:Nat} {e:MapEntry},ER ρ es l→VR ρ k e.key→VR ρ v e.val→e.born=b→ER ρ (es++[(k,v,b)]) (l++[e])
 | [],_,_,_,_,e,h,h1,h2,h3=>by cases h; exact ⟨e,[],rfl,h1,h2,h3,rfl⟩
 | _ :: _,_,_,_,_,_,⟨e,l',he,a,b,c,d⟩,h1,h2,h3=>by subst he; exact ⟨e,_,rfl,a,b,c,ER.snoc d h1 h2 h3⟩
theorem ER.set{v:AV}{ku vu:Value}(D:VR ρ k ku)(Q:VR ρ v vu):∀{es:List (AV×AV×Nat)} {l:List MapEntry} (i:Nat),ER ρ es l->ER ρ (Oj (k,v) es i) (l.modify i λe=>{ e with key:=ku,val:=vu })
 | [],_,i,h=>by cases h;simp[Oj];rfl
 | (_,_,b)::_,_,0,⟨e,A,he,_,_,c,d⟩=>by subst he;exact⟨{ e with key:=ku,val:=vu },A,by simp,D,Q,c,d⟩
 | _::_,_,i+1,⟨e,A,he,a,b,c,d⟩=>by subst he;exact⟨e,A.modify i λe=>{ e with key:=ku,val:=vu },by simp,a,b,c,ER.set D Q i d⟩
theorem a8k{A:TypeId}{k:Value}{l:List MapEntry}{r:Option Nat}(h:Lc P A k es=some r)(he:ER ρ es l)(w:World):
  match r with
  | none=>(Instr.findKey A k l).run P w=.ok none w
  | some j=>∃e,l[j]?=some e/\(Instr.findKey A k l).run P w=.ok (some (j,e.val)) w:=by
 unfold Lc at h;split at h
 .rename_i Q Z;have a0:=he.keys Z;have U:(Q.map λq=>({ key:=q,val:=undef,born:=0 }:MapEntry)).map (·.key)=l.map (·.key):=by
   rw[a0,e9e];exact List.map_id' Q
  split at h
  .rename_i i v D;cases h;exact a8j U D w
  .rename_i D;cases h;exact a8j U D w
  grind
 grind
section one
variable {ev:Ev}{e:Operand→Value}{o:Oper} (s:Sim B G ρ H w) (he:EvR ρ ev e)
include s he
theorem c2b{t:TypeId}{m k:Operand}{D:Bool}(h:o.op=.lookup t m k D):RS B G P ρ H w (Hk P H ev o t (ev m) (ev k) D) (execOp e o):=by
 unfold Hk;split
 .rename_i m' k' hm hk;refine Ye s λr A=>?_;unfold Wr at A;split at A
  .rename_i v hv;cases A;exact Lm (by grind) he hv
  .unfold lookup at A;split at A
   .rename_i key elem a kv hd a1;obtain⟨b,q,K,a2,a8⟩:=he _ _ hm;have a9:=a0i a1 (he _ _ hk);split at A
    .rename_i es a3 hx;obtain⟨U,hb,Q,hB⟩:=s.at hx a2;split at A
     .rename_i x i a4 a5;have b1:=Q.length;have b2:U.isEmpty=es.isEmpty:=by
       (simp_all[Array.isEmpty];grind)
      have b3:=Qm a4 w;have Z:=a8k a5 Q w;have b4:(getObj b).run P w=.ok (.map U a3) w:=by grind[Sem.run,getObj]
      unfold S1 at A
      cases i with
      | some j =>
       dsimp only at A;obtain⟨en,a6,b5⟩:=Z;rw[Lk] at A;split at A
       .rename_i k0 v0 b0 a7;cases A;have a0:=(Q.get a7 a6).2;cases D
        .exact⟨en.val,by simp_all[A0,Instr.lookup,execOp],a0⟩
        .exact⟨.tuple #[en.val,.bool true],by simp_all[A0,Instr.lookup,execOp],⟨_,rfl,_,_,rfl,a0,_,_,rfl,rfl,rfl⟩⟩
       grind
      | none =>
       dsimp only at A Z;split at A
       .rename_i z hz;cases A;unfold P5 at hz;split at hz
        .rename_i b6 b7;cases D
         .exact⟨z,by simp_all[E6,A0,Instr.lookup,execOp],rfl⟩
         .exact⟨.tuple #[z,.bool false],by simp_all[E6,A0,Instr.lookup,execOp],⟨_,rfl,_,_,rfl,rfl,_,_,rfl,rfl,rfl⟩⟩
        grind
       grind
     grind
    grind
   grind
 .trivial
theorem a8l{t:TypeId}{m k x:Operand}(h:o.op=.mapUpdate t m k x\/o.op=.insert t m k x):RS B G P ρ H w (G3 P H t (ev m) (ev k) (ev x)) (execOp e o):=by
 have hexec:execOp e o=(do Instr.mapUpdate t (e m) (e k) (e x);pure .skip):=by grind[execOp]
 rw[hexec];unfold G3;split
 .rename_i m' k' x' hm hk hx;split
  .rename_i H' hu;unfold mapUpdate at hu;split at hu
   .rename_i key elem a kv hd hkv;obtain⟨b,q,K,hrr,hmu⟩:=he _ _ hm;have hku:=a0i hkv (he _ _ hk);split at hu
    .rename_i es clock hmx;obtain⟨es',hb,her,hB⟩:=s.at hmx hrr;split at hu
     .rename_i y i hck hfk;have hck':=Qm hck w;have hf:=a8k hfk her w;have hget:(getObj b).run P w=.ok (.map es' clock) w:=by grind[Sem.run,getObj]
      have hblt:b<w.heap.size:=(e6d.1 hb).1;have fin:∀(es1:List (AV×AV×Nat)) (es2:Array MapEntry) (c2:Nat),ER ρ es1 es2.toList ->
        (Instr.mapUpdate t (e m) (e k) (e x)).run P w=.ok () { w with heap:=w.heap.setIfInBounds b (.map es2 c2) } ->
        RS B G P ρ H w (.skip (H.upd a (.map es1 c2))) (do Instr.mapUpdate t (e m) (e k) (e x);pure .skip):=by
       intro es1 es2 c2 hE hrun;refine⟨ρ,{ w with heap:=w.heap.setIfInBounds b (.map es2 c2) },by simp_all,⟨λ_ _=>rfl,Y0 hb rfl (λj hj=>by grind),rfl,rfl,rfl,by simp,λj hj=>by grind⟩,?_,Wy _⟩;exact s.set hmx hrr rfl rfl (by simp) (λj hj _=>by grind) ⟨es2,by grind,hE,hB⟩
      split at hu
      .rename_i blk hblk;rw[Yd] at hu;cases hu;unfold S2 at hblk
       cases i with
       | some j =>
        dsimp only at hblk;obtain⟨en,hen,hrun⟩:=hf;rw[Lk] at hblk;split at hblk
        .rename_i old v0 b0 hes;split at hblk
         .rename_i hsb;cases hblk;have hold:=(her.get hes hen).1;simp only[VR] at hold;refine fin _ (es'.modify j λen=>{ en with key:=kv,val:=e x }) _ ?_ ?_
          .have:=ER.set (ρ:=ρ) (k:=.lit kv) (v:=x') (ku:=kv) (vu:=e x) rfl (he _ _ hx) j her;grind
          .have hen' : es'[j]?=some en:=by grind
           simp[Instr.mapUpdate,A0 hd,hmu,hku,hget,hck',hrun,hen',hold,Instr.keyThatStays,hsb,setObj,Sem.run,hb]
         grind
        grind
       | none =>
        dsimp only at hblk hf;cases hblk;refine fin _ (es'.push { key:=kv,val:=e x,born:=clock }) _ ?_ ?_
        .have:=ER.snoc (k:=.lit kv) (v:=x') (b:=clock) (e:={ key:=kv,val:=e x,born:=clock }) her rfl (he _ _ hx) rfl;grind
        .simp[Instr.mapUpdate,A0 hd,hmu,hku,hget,hck',hf,setObj,Sem.run,hb]
      grind
     grind
    grind
   grind
  .trivial
 .trivial
end one
theorem Tf{f:FuncId}(h:Ao P f=true)(args:Array Value)(w:World):(callFunc f args).run P w=.ok (.enter f args) w:=by
 unfold Ao at h;split at h
 ·(simp_all[callFunc];grind)
 grind
section one
variable {ev:Ev}{e:Operand→Value}{o:Oper} (s:Sim B G ρ H w) (he:EvR ρ ev e)
include s
omit s in
theorem a0p{f:FuncId}{args:List AV}{us:Array Value}{m:Sem Next}(D:m.run P w=(callFunc f us).run P w)(A:VRs ρ args us.toList):RS B G P ρ H w (I6 P H f args) m:=by
 unfold I6;split
 .rename_i h;exact⟨us,by grind[Tf],A,rfl⟩
 .trivial
omit s in
theorem c2c{d:Option TypeDesc}(h:P6 d=some true):∃e,d=some (.pointer e):=by
 unfold P6 at h;grind
omit s in
theorem c2d{d:Option TypeDesc}(h:P6 d=some false):∃t,d=some t/\∀e,t≠.pointer e:=by
 unfold P6 at h;grind
omit s in
theorem c2e{t:TypeId}{A:String}{f:FuncId}{u:Value}(h:Wn P t A=some f)(n:Nat)(w:World):(method (n+1) t u A).run P w=.ok (f,u) w:=by
 unfold Wn at h;split at h
 .rename_i i hi;split at h
  .rename_i m hm;have base:∀(D:Bool),m.path.isEmpty=true->m.func=some (f,D)->(receiverAt t (.val u) D (some ((A.splitOn ".").getLastD A))).run P w=.ok u w->(method (n+1) t u A).run P w=.ok (f,u) w:=by
    simp_all[follow,Gg,method]
   unfold a6n at h;split at h
   .rename_i f' D U Z;split at h
    .rename_i Q;cases h;obtain⟨el,hd⟩:=c2c Q;simp_all[Place.get,A0,receiverAt]
    .rename_i Q;cases h;obtain⟨d,hd,a0⟩:=c2d Q;refine base false U Z ?_;cases d<;>first|exact absurd rfl (a0 _)|simp[receiverAt,A0 hd,Place.get]
    grind
   grind
  grind
 grind
omit s in
theorem c2f(a:Value)(b:Array Value):(#[a]++b).extract 1 (#[a]++b).size=b:=by
 simp
include he
theorem c2g{c:Call}(h:o.op=.call c):RS B G P ρ H w (Br P H ev o c) (execOp e o):=by
 unfold Br;split
 .trivial
 .rename_i args a4;have a1:VRs ρ args (c.args.map e).toList:=by simpa using evals_VRs he a4
  split
  .rename_i b U;unfold Fg;have a3:∀{x y:AV},args=[x,y]->∃u u',(c.args.map e)[0]?=some u/\(c.args.map e)[1]?=some u'/\VR ρ x u/\VR ρ y u':=by
    intro x y ha;subst ha;obtain⟨u,u',hl,A,h2⟩:=a1.two;exact⟨u,u',by rw[<- e7z,hl];rfl,by rw[<- e7z,hl];rfl,A,h2⟩
   split
   .unfold P7;split
    .rename_i x y st Z;obtain⟨u,u',Q,A,hx,hy⟩:=a3 rfl;have key:=c1t (P:=P) (ty:=o.type) s Z Q A hx hy;split
     .rename_i v H' D;obtain⟨a0,r,w',g1,g2,g3,g4,g5⟩:=key v H' D;exact⟨a0,r,w',by simp_all[Jf,builtin],g2,g3,g4,g5⟩
     .trivial
    .trivial
   .unfold Wo;split
    .rename_i x y st Z;obtain⟨u,u',Q,A,hx,hy⟩:=a3 rfl;have key:=c1u (P:=P) (ty:=o.type) s Z Q A hx hy;split
     .rename_i v H' D;obtain⟨a0,r,w',g1,g2,g3,g4,g5⟩:=key v H' D;exact⟨a0,r,w',by simp_all[Jf,builtin],g2,g3,g4,g5⟩
     .trivial
    .trivial
   .unfold S4;split
    .rename_i x st Z;obtain⟨u,us,hl,hx,hn⟩:=a1;have Q:(c.args.map e)[0]?=some u:=by rw[<- e7z,hl];rfl
     split
     .rename_i el _ _ a5;have key:=c1v (P:=P) (ty:=o.type) s Z a5 Q hx;split
      .rename_i v H' D;obtain⟨a0,r,w',g1,g2,g3,g4,g5⟩:=key v H' D;exact⟨a0,r,w',by rw[Jf h U];simp[builtin,g1],g2,g3,g4,g5⟩
      .trivial
     .trivial
    .trivial
   .grind[c1m]
   .grind[c1n]
   .show (execOp e o).run P w=.ok .recover w;rw[Jf h U];rfl
   grind[Ni]
  .rename_i a6 a7 U;unfold S5;split
   .rename_i r D;split
    .rename_i t v hi;have hv:∃u,e a6=.iface t u/\VR ρ v u:=by
      unfold ifaceOf at hi;split at hi
      .cases hi;exact he _ _ D
      .cases hi;have:=he _ _ D;simp only[VR] at this;exact⟨_,this,rfl⟩
      grind
     obtain⟨u,hu,a8⟩:=hv;split
     .rename_i f hm;refine a0p (us:=#[u]++c.args.map e) ?_ (by grind[VRs.cons]);have hd:Made.depth=99+1:=rfl;simp only[execOp,h,resolve,U,hu,Sem.run_bind,Sem.run_pure,Result.andThen_ok,invoke,callMethod];have Q:(#[Value.iface t u]++c.args.map e)[0]?=some (Value.iface t u):=by grind
      rw[Q];simp only[c2f,Sem.run_bind,run_program,Result.andThen_ok,hd,<- e7n,c2e hm (P.types.size+99) w]
     .trivial
    .trivial
   .trivial
  .rename_i f U;unfold Le;split
   .rename_i g first a2 hf;have:=he _ _ hf;simp only[VR] at this;refine a0p (us:=first++c.args.map e++a2) ?_ ?_
    .grind[invoke,Deferred.ofValue,resolve,execOp]
    .have A:=(Yb (ρ:=ρ) first.toList).append a1;simpa using A.append (Yb (ρ:=ρ) a2.toList)
   .rename_i g first a2 hf;obtain⟨f',c',hu,A,h2⟩:=he _ _ hf;refine a0p (us:=f'++c.args.map e++c') ?_ ?_
    .grind[invoke,Deferred.ofValue,resolve,execOp]
    .simpa using (A.append a1).append h2
   .trivial
omit s in
theorem c2h{c:Call}(h:o.op=.defer c):RS B G P ρ H w (Ol H ev c) (execOp e o):=by
 unfold Ol;split
 .rename_i args f U hc;have D:VRs ρ args (c.args.map e).toList:=by simpa using evals_VRs he U
  split
  .rename_i fn first Q A;obtain⟨Z,c',hu,h1,h2⟩:=he _ _ A;exact⟨c',Z++c.args.map e,by simp_all[Deferred.ofValue,resolve,execOp],h2,by simpa using h1.append D,rfl⟩
  .rename_i fn first Q A;have:=he _ _ A;simp only[VR] at this;exact⟨Q,first++c.args.map e,by simp_all[Deferred.ofValue,resolve,execOp],Yb _,by simpa using (Yb (ρ:=ρ) first.toList).append D,rfl⟩
  .trivial
 .trivial
theorem Ij(hG:G=P.globals.size):RS B G P ρ H w (opV P H ev o) (execOp e o):=by
 unfold opV
 cases h:o.op with
 | move x=>exact a7p s he (by grind[execOp])
 | assign x=>exact a7p s he (by grind[execOp])
 | pick c a b=>exact c0e s he h
 | alloc t=>exact c0g s h
 | box t x=>exact c0f s he h
 | build t ps=>exact c1e s he h
 | buildSlice t n ps=>exact c1f s he h
 | insert t m k x=>exact a8l s he (.inr h)
 | load t a=>exact c0h s hG he h
 | store t a x=>exact c0i s he h
 | ready g=>trivial
 | waits g=>trivial
 | nilCheck x=>exact c0j s he h
 | binOp A t x y ty=>exact c1a s he h
 | unOp A t x=>exact Ni s he (by grind)
 | convert a b x=>exact c2a s he h
 | sliceToArrayPointer t x=>trivial
 | makeInterface t x=>exact c0k s he h
 | makeFunc fn a b=>exact c0l s he h
 | makeMap t r=>exact c1h s he h
 | makeChan t x=>trivial
 | makeSlice t l c=>exact c1g s he h
 | slice t x lo hi U=>exact c1d s he h
 | fieldAddr t x f=>exact c0o s he h
 | field t x f=>exact c0q s he h
 | indexAddr t x i=>exact c0p s he h
 | index t x i=>exact c0r s he h
 | lookup t m k D=>exact c2b s he h
 | mapUpdate t m k x=>exact a8l s he (.inl h)
 | mapEntry t m k=>trivial
 | entryStore t m a x=>trivial
 | range t x=>exact c1i s he h
 | next Q b=>cases b with
  | true=>exact c1j s he h
  | false=>trivial
 | entry Q=>trivial
 | typeAssert x t a D=>exact c0s s he h
 | extract x i=>exact c0m s he h
 | call c=>exact c2g s he h
 | go c=>trivial
 | defer c=>exact c2h he h
 | panic x=>exact c0n he h
 | send a b=>trivial
 | recv t x b=>trivial
 | select a b=>trivial
end one
end
section
variable {P:Program}{ev:Ev}{o:Oper}
def Ef(f:Mem->R):Prop:=∀H v H',f H=.val v H'->H'=H/\∀H2,f H2=.val v H2
theorem Ik(r:Option AV):Ef (λH=>ofOpt H r):=by
 intro H v H' h
 cases r with
 | none=>cases h
 | some x=>cases h;exact⟨rfl,λ_=>rfl⟩
theorem free_bad:Ef (λ_=>R.bad):=λ_ _ _ h=>by cases h
theorem Gh(v:AV):Ef (λH=>R.val v H):=λ_ _ _ h=>by grind
theorem a0q(h:freeOp o.op=true):Ef (λH=>opV P H ev o):=by
 unfold opV
 cases D:o.op with
 | move x=>show Ef (λH=>Es H (ev x));unfold Es;(split<;>simp_all[Gh,free_bad])
 | assign x=>show Ef (λH=>Es H (ev x));unfold Es;(split<;>simp_all[Gh,free_bad])
 | pick c a b =>
  show Ef (λH=>G1 H (ev c) (ev a) (ev b));unfold G1
  (split<;>simp_all[free_bad,Ik])
 | build t ps =>
  show Ef (λH=>Hi P H t (C1 ev ps.toList));unfold Hi
  (split<;>simp_all[free_bad,Ik])
 | nilCheck x =>
  show Ef (λH=>I8 P H ev o (ev x));unfold I8
  (split<;>simp_all[Ik,Gh])
 | binOp A t x y ty =>
  show Ef (λH=>Bh P H ev o A t (ev x) (ev y));unfold Bh;split
  .exact Gh _
  .split
   .exact Gh _
   .unfold Om;split
    ·(split<;>simp_all[free_bad,Gh])
    simp[free_bad]
 | unOp A t x=>exact Ik _
 | makeInterface t x =>
  show Ef (λH=>Ka P H t (ev x));unfold Ka
  (split<;>simp_all[free_bad,Gh])
 | makeFunc fn a b =>
  show Ef (λH=>Ig H fn (Bj ev a.toList) (Bj ev b.toList));unfold Ig
  (split<;>simp_all[free_bad,Gh])
 | slice t x lo hi Q =>
  show Ef (λH=>Da P H ev o t (ev x) lo hi Q);unfold Da;split
  .exact Gh _
  .unfold Gc;split
   ·(split<;>simp_all[free_bad,Ik])
   simp[free_bad]
 | fieldAddr t x f =>
  show Ef (λH=>G2 P H ev o t (ev x) f);unfold G2 Gd;split
  ·(split<;>simp_all[Ik,Gh])
  simp[free_bad]
 | field t x f =>
  show Ef (λH=>Kb P H t (ev x) f);unfold Kb
  (split<;>simp_all[free_bad,Ik])
 | indexAddr t x i =>
  show Ef (λH=>Dy P H ev o t (ev x) (ev i));unfold Dy Gd;split
  ·(split<;>simp_all[Ik,Gh])
  simp[free_bad]
 | index t x i =>
  show Ef (λH=>I9 P H ev o t (ev x) (ev i));unfold I9;split
  ·(split<;>simp_all[Ik,Gh])
  simp[free_bad]
 | typeAssert x t a U =>
  show Ef (λH=>Ja P H ev o (ev x) a U);unfold Ja;split
  .exact Gh _
  (split<;>simp_all[free_bad,Ik])
 | extract x i =>
  show Ef (λH=>Ih H (ev x) i);unfold Ih;split
  .exact Ik _
  ·(split<;>simp_all[free_bad,Gh])
  simp[free_bad]
 | _=>rw[D] at h;cases h
theorem eqV_sound:∀(n:Nat)(a b:Value),eqV n a b=true->a=b:=by
 intro n
 induction n with
 | zero =>
  intro a b h;unfold eqV at h;grind
 | succ n A =>
  intro a b h;unfold eqV at h;grind
end
theorem a8m(A:List Nat)(j:Nat):∀(l:List Edge)(s:Nat),
  (l.foldl (λs e=>match Region.binds .any e with|true=>s ||| 2 ^ e.on ||| A.getD e.on 0|false=>s) s).testBit j=true ->
  s.testBit j=true\/∃e∈l,Region.binds .any e=true/\(e.on=j\/(A.getD e.on 0).testBit j=true)
 | [],s,h=>.inl h
 | e::l,s,h=>by
  simp only[List.foldl_cons] at h;rcases a8m A j l _ h with D|⟨Q,U,Z⟩
  all_goals grind
theorem ancs_spec:∀(l:List Oper)(A:List Nat)(i j:Nat),A3 (ancs A l) i j=true ->
  (i<A.length/\A3 A i j=true)\/∃o e,A.length<=i/\l[i-A.length]?=some o/\e∈o.after.toList/\Region.binds .any e=true/\(e.on=j\/(e.on<i/\A3 (ancs A l) e.on j=true))
 | [],A,i,j,h=>by
  have h' : A3 A i j=true:=h;grind[A3]
 | o::l,A,i,j,h=>by
  have pre:∀(l:List Oper)(A:List Nat)(k:Nat),k<A.length->(ancs A l).getD k 0=A.getD k 0:=by
   intro l
   induction l with
   | nil=>intro A k _;rfl
   | cons o l ih =>
    grind[ancs]
  rcases ancs_spec l (A++[Ws A o]) i j h with⟨Q,D⟩|⟨U,e,Q,D,Z⟩
  .simp only[W0,Xg] at Q;rcases e6z i A.length with h4|h4
   .grind[A3]
   .right;have hi:i=A.length:=by omega
    subst hi;unfold A3 at D;simp only[Xo] at D;rw[Xq (Wy _)] at D;simp only[e6h,List.getElem?_cons_zero,Option.getD_some] at D;unfold Ws at D;rcases a8m A j _ 0 D with h5|⟨e,he,hb,a0⟩
    .grind
    (simp_all[A3];grind)
  .right;simp only[W0,Xg] at Q D;refine⟨U,e,by omega,?_,Z⟩;grind
theorem Th{ops:Array Oper}{listed:Nat->Prop}(A:∀i o,listed i->ops[i]?=some o->∀e∈o.after.toList,Region.binds .any e=true->listed e.on):
  ∀(i:Nat)(o:Oper)(j:Nat),ops[i]?=some o->(∀e∈o.after.toList,Region.binds .any e=true->listed e.on)->A3 (ancs [] ops.toList) i j=true->listed j:=by
 intro i
 induction i using Nat.strongRecOn with
 | _ i D =>
  intro o j Q U h;rcases ancs_spec ops.toList [] i j h with⟨Z,_⟩|⟨o',e,_,h2,he,hb,a0⟩
  all_goals grind
mutual
theorem eqAV_sound:∀(a b:AV),eqAV a b=true->a=b
 | .lit a,b,h=>by cases b<;>simp[eqAV] at h;rw[eqV_sound 4 _ _ h]
 | .ptr a i,b,h=>by cases b<;>simp[eqAV] at h;simp[h]
 | .sl a i n c,b,h=>by cases b<;>simp[eqAV] at h;simp[h]
 | .slq a i n c,b,h=>by cases b<;>simp[eqAV] at h;simp[h]
 | .es,b,h=>by cases b<;>simp[eqAV] at h;rfl
 | .map a,b,h=>by cases b<;>simp[eqAV] at h;simp[h]
 | .func f x y,b,h=>by
  cases b<;>simp[eqAV] at h;rename_i g u v;rw[h.1.1,eqAVs_sound x u h.1.2,eqAVs_sound y v h.2]
 | .iface t x,b,h=>by
  cases b<;>simp[eqAV] at h;rename_i u y;rw[h.1,eqAV_sound x y h.2]
 | .agg l,b,h=>by cases b<;>simp[eqAV] at h;rename_i m;rw[eqAVs_sound l m h]
 | .tup l,b,h=>by cases b<;>simp[eqAV] at h;rename_i m;rw[eqAVs_sound l m h]
theorem eqAVs_sound:∀(a b:List AV),eqAVs a b=true->a=b
 | [],b,h=>by cases b<;>simp[eqAVs] at h;rfl
 | x::l,b,h=>by
  cases b<;>simp[eqAVs] at h;rename_i y m;rw[eqAV_sound x y h.1,eqAVs_sound l m h.2]
end
section
variable {B G:Nat}{ρ:Rn}{H:Mem}{w:World}{P:Program}
def ND(B:Nat)(P:Program)(ρ:Rn)(w:World)(f:Nat->AV)(x:Blk)(m:Sem Next):Prop:=
 ∃ob k u w',m.run P w=.ok (.value u) w'/\w'.heap=w.heap.push ob/\w'.os=w.os/\w'.tape=w.tape/\w'.output=w.output/\w.drawn<=w'.drawn /\
  ∀nm,ρ nm=none->BR B (upd ρ nm (w.heap.size,0,k)) x w.heap.size 0 k w'/\VR (upd ρ nm (w.heap.size,0,k)) (f nm) u
theorem Ti{l:List AV}{cells:Array Value}{elem:TypeId}{m:Sem Next}{f:Nat->AV}{u:Value}(hB:B<=w.heap.size)(hc:VRs ρ l cells.toList)
  (hrun:m.run P w=.ok (.value u) { w with heap:=w.heap.push (.cells cells elem) }) (hv:∀nm,VR (upd ρ nm (w.heap.size,0,0)) (f nm) u) :
  ND B P ρ w f (.cells l true 0) m:=by
 refine⟨.cells cells elem,0,u,_,hrun,rfl,rfl,rfl,rfl,Wy _,λnm hn=>⟨⟨cells,elem,(0,0),by simp,?_,λ_=>⟨hB,by simp,by simp,.inl rfl⟩⟩,hv nm⟩⟩;intro i v hi;obtain⟨u,hu,hv⟩:=hc.get i hi;exact⟨u,by grind,hv.mono (Je hn)⟩
def New(B:Nat)(P:Program)(ev:Ev)(o:Oper)(H:Mem)(v:AV)(H' : Mem):Prop:=
 ∃f x,v=f H.next/\H'=H.add x/\∀(ρ:Rn)(w:World)(e:Operand->Value),EvR ρ ev e->B<=w.heap.size->ND B P ρ w f x (execOp e o)
variable {ev:Ev}{o:Oper}{v:AV}{H' : Mem}
theorem c2i{t:TypeId}{x:Operand}(h:o.op=.box t x)(A:Hg H (ev x)=.val v H'):New B P ev o H v H':=by
 unfold Hg at A;split at A
 .rename_i y hy;unfold Dq at A;rw[X1] at A;cases A;refine⟨λn=>.ptr n 0,_,rfl,rfl,λρ w e he D=>?_⟩;refine Ti D (cells:=(e x).cells) (elem:=t) (he _ _ hy).cells (u:=.pointer (some ⟨w.heap.size,0,none⟩)) ?_ λQ=>⟨_,_,_,Dr _ _ _,rfl⟩;simp[execOp,h,Instr.box,newVar,newRow]
 grind
theorem c2j{t:TypeId}(h:o.op=.alloc t)(A:I7 P H t=.val v H'):New B P ev o H v H':=by
 unfold I7 at A;split at A
 .rename_i l D;unfold Cb at D;split at D
  .rename_i i hi;split at D
   .rename_i zv hz;cases D;unfold Dq at A;rw[X1] at A;cases A;refine⟨λn=>.ptr n 0,_,rfl,rfl,λρ w e he Q=>?_⟩;refine Ti Q (cells:=zv.cells) (elem:=t) (Yb _) (u:=.pointer (some ⟨w.heap.size,0,none⟩)) ?_ λU=>⟨_,_,_,Dr _ _ _,rfl⟩;simp_all[E6,newRow,newVar,Instr.alloc,execOp]
   grind
  grind
 grind
theorem c2k{t:TypeId}{r:Option Operand}(h:o.op=.makeMap t r)(hv:Hj P H ev t r=.val v H'):New B P ev o H v H':=by
 have key:(∀(ρ:Rn)(w:World)(e:Operand->Value),EvR ρ ev e->(execOp e o).run P w=.ok (.value (.map (some w.heap.size))) { w with heap:=w.heap.push (.map #[] 0) }) ->
   (H.newK (.map [] 0) λH2=>R.val (.map H.next) H2)=.val v H'->New B P ev o H v H':=by
  intro hrun hv;rw[X1] at hv;cases hv;refine⟨λn=>.map n,_,rfl,rfl,λρ w e he hB=>?_⟩;exact⟨_,0,_,_,hrun ρ w e he,rfl,rfl,rfl,rfl,Wy _,λnm hn=>⟨⟨#[],by simp,rfl,hB⟩,⟨_,_,_,Dr _ _ _,rfl⟩⟩⟩
 unfold Hj at hv;split at hv
 .simp_all[Instr.makeMap,execOp]
 .rename_i x;split at hv
  .rename_i k y kk n hd hy;refine key (λρ w e he=>?_) hv;have hu:=he _ _ hy;simp_all[VR,asIntOf,asInt,A0,Instr.makeMap,execOp]
  grind
theorem c2l{t:TypeId}{len:Nat}{parts:Array (Nat×Operand)}(h:o.op=.buildSlice t len parts)(A:Fu P H t len (C1 ev parts.toList)=.val v H'):New B P ev o H v H':=by
 unfold Fu at A;split at A
 .rename_i el size bytes ps U Z;obtain⟨hd,i,zv,hi,rfl,rfl,hz,hzs⟩:=Ls U;split at A
  .rename_i z a0 a1;split at A
   .rename_i l hl;unfold Dq at A;rw[X1] at A;cases A;refine⟨λn=>.sl n 0 len len,_,rfl,rfl,λρ w e he hB=>?_⟩;have a2:=evalParts_PR he Z;obtain⟨D,a6,a7,a8,a9⟩:=Qp (ρ:=ρ) hi hz a1 w;have a3:VRs ρ (rep z len) ((Array.range (len*i.size)).map (D[· % D.size]!)).toList:=by
     by_cases Q:len*i.size=0
     .have a4:z=[]:=by simp_all[Eo]
      subst a4;rw[Q];have:rep [] len=[]:=by have:=Ox [] len;simp_all
      grind
     grind[Oy]
    obtain⟨cs,h1,h2,h3⟩:=Qo (place':=λj=>some (j*i.size,i.size)) (λ_ _ hr=>hr) a2 a3 hl;have b0:len*i.size<=1048576:=Wz a0;refine Ti hB (cells:=cs) (elem:=el) h2 (u:=.slice (some ⟨w.heap.size,0,none⟩) len len) ?_ λnm=>⟨_,_,_,Dr _ _ _,Wy _,rfl⟩;have a5:¬(len*i.size > 2 ^ 24):=by omega
    simp only[execOp,h,Instr.buildSlice,Sem.run_bind,A0 hd,Result.andThen_ok,Cr hi];simp only[a5,if_false];by_cases Q:len*i.size=0
    all_goals simp_all[newRow,E6]
   grind
  grind
 grind
theorem c2m{t:TypeId}{l c:Operand}(h:o.op=.makeSlice t l c)(A:Er P H t (ev l) (ev c)=.val v H'):New B P ev o H v H':=by
 unfold Er at A;split at A
 .rename_i el size bytes n k a0 hn hk;obtain⟨hd,i,zv,hi,rfl,rfl,hz,hzs⟩:=Ls a0;split at A
  .rename_i z D a1;unfold Dq at A;rw[X1] at A;cases A;refine⟨λU=>.sl U 0 n k,_,rfl,rfl,λρ w e he hB=>?_⟩;have Z:∀{x:Operand}{m:Nat},(ev x).bind natOf=some m->∃kk,e x=.int kk m:=by
    intro x m hx
    cases a8:ev x with
    | none=>grind
    | some v=>grind[Kg]
   obtain⟨k1,a2⟩:=Z hn;obtain⟨k2,a3⟩:=Z hk;simp only[W1] at D;have a4:n<=k:=Wz D.1.1;have a5:k<=1048576:=Wz D.1.2;have hb20:i.bytes<=1048576:=Wz D.2;obtain⟨Q,a9,b0,b1,b2⟩:=Qp (ρ:=ρ) hi hz a1 w;have a6:VRs ρ (rep z k) ((Array.range (k*i.size)).map (Q[· % Q.size]!)).toList:=by
    by_cases h0:k*i.size=0
    .have a7:z=[]:=by simp_all[Eo]
     subst a7;rw[h0];have:rep [] k=[]:=by have:=Ox [] k;simp_all
     grind
    grind[Oy]
   refine Ti hB (cells:=(Array.range (k*i.size)).map (Q[· % Q.size]!)) (elem:=el) a6 (u:=.slice (some ⟨w.heap.size,0,none⟩) n k) ?_ λU=>⟨_,_,_,Dr _ _ _,a4,rfl⟩;have w1:IntKind.i64.wrap (n:Int)=n:=Nj (by omega);have w2:IntKind.i64.wrap (k:Int)=k:=Nj (by omega);have b3:(i.bytes:Int)*k<=2 ^ 48:=by
    have:i.bytes*k<=1099511627776:=Xa (e5x hb20 a5) (by decide);grind
   simp only[execOp,h,Instr.makeSlice,Sem.run_bind,A0 hd,Result.andThen_ok,Gg hi,a2,a3,asInt,asIntOf,Sem.run_pure,w1,w2];have c1:¬((k:Int)<0):=by omega
   have c2:¬((n:Int)<0):=by omega
   have c3:¬((n:Int) > (k:Int)):=by omega
   have c4:¬((i.bytes:Int)*k > 2 ^ 48):=by omega
   simp only[c1,c2,c3,c4,decide_false,e7v,e9j,if_false,run_askRoom,Result.andThen_ok,Sem.run_bind,Cr hi,e6i]
   (split<;>simp_all[newRow,E6])
  grind
 grind
theorem a8n{A:Op}(h:cls A=.alloc):(∃t,A=.alloc t)\/(∃t x,A=.box t x)\/(∃t n ps,A=.buildSlice t n ps)\/(∃t l c,A=.makeSlice t l c)\/(∃t r,A=.makeMap t r):=by
 (simp_all[cls];grind)
theorem a0r(h:cls o.op=.alloc)(D:opV P H ev o=.val v H'):New B P ev o H v H':=by
 unfold opV at D;rcases a8n h with⟨t,A⟩|⟨t,x,A⟩|⟨t,n,ps,A⟩|⟨t,l,c,A⟩|⟨t,r,A⟩<;>rw[A] at D
 .exact c2j A D
 .exact c2i A D
 .exact c2l A D
 .exact c2m A D
 .exact c2k A D
end
def Gr(r r' : T2 AV):Prop:=∀j v,Cq r j=some v->Cq r' j=some v
theorem Gr.refl(r:T2 AV):Gr r r:=λ_ _ h=>h
abbrev Yx:=@Gr.refl
theorem Gr.trans{a b c:T2 AV}(h:Gr a b)(k:Gr b c):Gr a c:=λj v e=>k j v (h j v e)
theorem Lt{res:T2 AV}{i:Nat}{v:AV}{K:T2 AV->Out}{out:Out}(h:Jb res i v K=out)(a0:out≠.bad):
  ∃A,K A=out/\Gr res A/\Cq A i=some v:=by
 unfold Jb at h;split at h
 .rename_i he;rw[Nh] at h;refine⟨_,h,?_,?_⟩
  .intro j y D;unfold Cq at D |-;have a1:d0 i=d0 j->d1 i=d1 j->False:=by
    intro U Z;unfold a6t at he;rw[U,Z] at he
    cases hl:gN (d1 j) (gN (d0 j) res) with
    | e=>rw[hl] at D;cases D
    | v k x=>simp_all
   unfold u2;rcases X5 (d0 i) (d0 j) with Q|Q
   .rw[Q,Fj];rcases X5 (d1 i) (d1 j) with h1|h1
    all_goals grind[Fk]
   grind[Fk]
  .unfold Cq;rw[a0a];show Bool.rec (motive:=λ_=>Option AV) none (some v) (Nat.beq i i)=some v;simp
 grind
theorem Lu{t:Nat}:∀{l:List Oper}{k j:Nat},G4 t l k=some j->k<=j/\∃o,l[j-k]?=some o/\o.dst=some t
 | [],_,_,h=>by cases h
 | o::l,k,j,h=>by
  unfold G4 at h
  cases hd:o.dst with
  | none =>
   rw[hd] at h;obtain⟨A,D,Q,U⟩:=Lu h;grind
  | some d =>
   rw[hd] at h;dsimp only at h
   cases Z:Nat.beq d t with
   | true =>
    simp_all
   | false =>
    rw[Z] at h;obtain⟨A,D,Q,U⟩:=Lu h;grind
theorem Lw{ops:List Oper}:∀{l:List Oper}{k:Nat},fit ops l k=true->∀i o,l[i]?=some o->Kc ops o (k+i)=true
 | [],_,_,i,o,h=>by grind
 | x::l,k,h,i,o,A=>by
  simp only[fit,W1] at h
  cases i with
  | zero=>grind
  | succ i =>
   have:=Lw h.2 i o (by grind);grind
theorem mem_chainOf:∀{l:List Oper}{k i:Nat},i∈chainOf l k↔k<=i/\∃o,l[i-k]?=some o/\Cw o.op=true
 | [],k,i=>by simp[chainOf]
 | x::l,k,i=>by
  have h:=@mem_chainOf l (k+1) i;have A:∀{o:Oper},k+1<=i->((x::l)[i-k]?=some o↔l[i-(k+1)]?=some o):=by
   grind
  unfold chainOf;grind
theorem Il{tab cs:List Nat}{s:Nat}:∀{l:List Oper}{k i:Nat},i∈E4 tab cs s l k↔k<=i/\∃o,l[i-k]?=some o/\Cw o.op=false/\Et tab i cs=s
 | [],k,i=>by simp[E4]
 | x::l,k,i=>by
  have h:=@Il tab cs s l (k+1) i;have A:∀{o:Oper},k+1<=i->((x::l)[i-k]?=some o↔l[i-(k+1)]?=some o):=by
   grind
  have D:(!Cw x.op&&Nat.beq (Et tab k cs) s)=true↔Cw x.op=false/\Et tab k cs=s:=by
   simp
  unfold E4;grind
theorem a8o{tab:List Nat}{i:Nat}:∀{l:List Nat},(∀c∈l,A3 tab i c=false)->Et tab i l=0
 | [],_=>rfl
 | c::l,h=>by
  unfold Et;rw[h c (by simp)];exact a8o λc A=>h c (by simp[A])
theorem a0s{tab:List Nat}{i:Nat}{cs:List Nat}(h:∀c∈cs,A3 tab i c=false):∀{dn:List Nat},Et tab i (dn++cs)<=dn.length
 | []=>by simp_all[a8o]
 | c::dn=>by
  have A:=a0s h (dn:=dn);rw[e8y];unfold Et;split<;>simp<;>omega
theorem Qr{tab:List Nat}{c:Nat}{cs:List Nat}:∀{dn:List Nat},Ii tab (dn++c::cs)=true->∀j∈cs,∃p∈c::cs,A3 tab j p=true
 | [],h,j,A=>by
  have:∀(c:Nat)(cs:List Nat),Ii tab (c::cs)=true->∀j∈cs,∃p∈c::cs,A3 tab j p=true:=by
   intro c cs
   induction cs generalizing c with
   | nil=>grind
   | cons d cs D =>
    intro h j A;simp only[Ii,W1] at h;grind
  grind
 | d::dn,h,j,A=>by
  refine Qr (dn:=dn) ?_ j A
  cases dn with
  | nil=>simp_all[Ii]
  | cons x dn=>simp_all[Ii]
section
variable {B G:Nat}{P:Program}{ops:Array Oper}{tab:List Nat}{fr0:Fr}
def Lx(B:Nat)(P:Program)(ops:Array Oper)(tab:List Nat)(fr0:Fr)(res:T2 AV)(held:List Nat)(als:Als)(i:Nat)(o:Oper):Prop:=
  ∃r0 v,Gr r0 res/\Cq res i=some v /\
    ((Ot tab r0 i o=some false/\v=.lit undef) \/
     (Ot tab r0 i o=some true /\
      ((cls o.op=.free/\∀H,opV P H (env ops tab fr0 r0 i) o=.val v H) \/
       (cls o.op=.gen/\A7 P (env ops tab fr0 r0 i) o=some v) \/
       (cls o.op=.read/\i∈held) \/
       (∃f x nm,(∀(ρ:Rn)(w:World)(e:Operand->Value),EvR ρ (env ops tab fr0 r0 i) e->B<=w.heap.size->ND B P ρ w f x (execOp e o))/\v=f nm/\(i,nm,x)∈als))))
theorem Lx.mono{res Q:T2 AV}{held U:List Nat}{als Z:Als}{i:Nat}{o:Oper}(h:Lx B P ops tab fr0 res held als i o)(hg:Gr res Q)
  (hh:i∈held->i∈U) (ha:∀D x,(i,D,x)∈als->(i,D,x)∈Z):Lx B P ops tab fr0 Q U Z i o:=by
 obtain⟨r0,v,h1,h2,h3⟩:=h;refine⟨r0,v,h1.trans hg,hg _ _ h2,h3.imp id λ⟨h4,A⟩=>⟨h4,A.imp id λA=>A.imp id λA=>A.imp ?_ ?_⟩⟩
 .grind
 .exact λ⟨f,x,D,a,b,c⟩=>⟨f,x,D,a,b,ha _ _ c⟩
structure Ph (H H' : Mem):Prop where
 sim:∀{B G:Nat}{ρ:Rn}{w:World},Sim B G ρ H w->Sim B G ρ H' w
 le:H.next<=H'.next
theorem Ph.refl(H:Mem):Ph H H:=⟨id,Wy _⟩
abbrev Yh:=@Ph.refl
theorem Ph.trans{a b c:Mem}(h:Ph a b)(k:Ph b c):Ph a c:=⟨λs=>k.sim (h.sim s),Xa h.le k.le⟩
theorem Ph.add(H:Mem)(x:Blk):Ph H (H.add x):=by
 refine⟨λ{B G ρ w} s=>?_,W5 _⟩;refine⟨?_,?_,λa A=>s.fresh a (Nat.le_of_succ_le A),?_,e7l s.names,s.base⟩
 .intro a y hy;rcases X7 hy with⟨rfl,rfl⟩|⟨D,hy⟩
  .exact .inl s.none
  .exact s.blk a y hy
 .intro a a' y y' b o k o' k' h h' D ho U Z;rcases X7 h with⟨Q,_⟩|⟨_,g⟩
  .subst Q;rw[s.none] at U;grind
  .rcases X7 h' with⟨Q,_⟩|⟨_,g'⟩
   .subst Q;rw[s.none] at Z;grind
   .exact s.inj a a' y y' b o k o' k' g g' D ho U Z
 .intro a y A hy;rcases X7 hy with⟨rfl,_⟩|⟨D,hy⟩
  .have:=s.names;omega
  .exact s.glob a y A hy
structure Eu (n:Nat) (H:Mem) (als:Als):Prop where
 lo:∀x∈als,n<=x.2.1
 hi:∀x∈als,x.2.1<H.next
 own:∀x∈als,∀y∈als,x.2.1=y.2.1->x=y
theorem Eu.nil(n:Nat)(H:Mem):Eu n H []:=⟨(λ_ h=>(by cases h)),(λ_ h=>(by cases h)),(λ_ h=>(by cases h))⟩
theorem Eu.sub{n:Nat}{H H': Mem}{als D:Als}(h:Eu n H als)(A:∀x∈D,x∈als)(Q:H.next<=H'.next):Eu n H' D:=
 ⟨λx hx=>h.lo x (A x hx),λx hx=>Xm (h.hi x (A x hx)) Q,λx hx y hy=>h.own x (A x hx) y (A y hy)⟩
theorem Eu.cons{n:Nat}{H:Mem}{als:Als}(h:Eu n H als)(A:n<=H.next)(i:Nat)(x b:Blk):Eu n (H.add b) ((i,H.next,x)::als):=by
 refine⟨?_,?_,?_⟩
 .intro y hy;rcases Xb.1 hy with rfl|hy
  .grind
  .exact h.lo y hy
 .intro y hy;rcases Xb.1 hy with rfl|hy
  .exact e8q _
  .exact e7s (h.hi y hy)
 .intro y hy z hz e;rcases Xb.1 hy with rfl|hy<;>rcases Xb.1 hz with rfl|hz
  .rfl
  .have:=h.hi z hz;grind
  .have:=h.hi y hy;grind
  .exact h.own y hy z hz e
structure Found (B:Nat) (P:Program) (ops:Array Oper) (tab:List Nat) (fr0:Fr) (L:List Nat) (res:T2 AV) (H:Mem) (held:List Nat) (als:Als) (res' : T2 AV) (H' : Mem) (held' : List Nat) (als' : Als):Prop where
 gr:Gr res res'
 ph:Ph H H'
 keepH:∀i∈held,i∈held'
 keepA:∀x∈als,x∈als'
 new:∀x∈als',x∈als\/H.next<=x.2.1
 ok:∀n,n<=H.next->Eu n H als->Eu n H' als'
 known:∀i∈L,∀o,ops[i]?=some o->Lx B P ops tab fr0 res' held' als' i o
variable {L:List Nat}{res:T2 AV}{H:Mem}{held:List Nat}{als:Als}{K:StF}{out:Out}
theorem c2n{i:Nat}{o:Oper}(ho:ops[i]?=some o)(hk:Cw o.op=false)(hn:cls o.op≠.no)(h:Wv P ops tab fr0 i res H held als K=out)(a2:out≠.bad):
  ∃A H' a0 a1,K A H' a0 a1=out/\Found B P ops tab fr0 [i] res H held als A H' a0 a1:=by
 have only:∀{A:T2 AV}{a0:List Nat}{a1:Als},Lx B P ops tab fr0 A a0 a1 i o->∀j∈[i],∀o',ops[j]?=some o'->Lx B P ops tab fr0 A a0 a1 j o':=by
  grind
 unfold Wv at h;rw[ho] at h;dsimp only at h;split at h
 .rename_i hw;obtain⟨A,U,D,Z⟩:=Lt h a2;exact⟨A,H,held,als,U,D,Yh _,λ_ h=>h,λ_ h=>h,λ_ h=>.inl h,λ_ _ h=>h,only ⟨res,_,D,Z,.inl ⟨hw,rfl⟩⟩⟩
 .rename_i hw;split at h
  .rename_i hc;split at h
   .rename_i v H' Q;split at h
    .rename_i b hb;obtain⟨f,x,e1,e2,a3⟩:=a0r (B:=B) hc Q;subst e1;subst e2;have a4:b=x:=by
      rcases X7 hb with⟨_,e⟩|⟨e,_⟩
      all_goals grind
     subst a4;obtain⟨A,U,D,Z⟩:=Lt h a2;refine⟨A,_,held,_,U,D,Ph.add _ _,λ_ h=>h,λ_ h=>e6o _ h,?_,λn hn hk=>hk.cons hn i b b,only ?_⟩
     .grind
     .exact⟨res,_,D,Z,.inr ⟨hw,.inr (.inr (.inr ⟨f,b,H.next,a3,rfl,by simp⟩))⟩⟩
    grind
   grind
  .rename_i hc;split at h
   .rename_i v Q;obtain⟨A,U,D,Z⟩:=Lt h a2;refine⟨A,H,i::held,als,U,D,Yh _,λ_ h=>e6o _ h,λ_ h=>h,λ_ h=>.inl h,λ_ _ h=>h,only ?_⟩;exact⟨res,_,D,Z,.inr ⟨hw,.inr (.inr (.inl ⟨hc,by simp⟩))⟩⟩
   grind
  .rename_i a6 a7;split at h
   .rename_i v Q;obtain⟨A,U,D,Z⟩:=Lt h a2;refine⟨A,H,held,als,U,D,Yh _,λ_ h=>h,λ_ h=>h,λ_ h=>.inl h,λ_ _ h=>h,only ?_⟩;refine⟨res,_,D,Z,.inr ⟨hw,?_⟩⟩
    cases hc:cls o.op with
    | free =>
     left;refine⟨rfl,?_⟩;unfold quiet at Q;rw[hc] at Q;dsimp only at Q;have hf:freeOp o.op=true:=by
      cases hf:freeOp o.op with
      | true=>rfl
      | false =>
       (simp_all[cls];grind)
     split at Q
     .rename_i v' H' a5;cases Q;intro H2;have a8:=a0q hf H v H' a5;grind
     grind
    | gen =>
     right;left;refine⟨rfl,?_⟩;grind[quiet]
    | read=>grind
    | alloc=>grind
    | chain=>grind[Cw]
    | no=>grind
   grind
 grind
theorem stage_sound:∀(L:List Nat)(res:T2 AV)(H:Mem)(held:List Nat)(als:Als),(∀i∈L,∃o,ops[i]?=some o/\Cw o.op=false/\cls o.op≠.no) ->
  Qf P ops tab fr0 L res H held als K=out->out≠.bad ->
  ∃U H' Z a0,K U H' Z a0=out/\Found B P ops tab fr0 L res H held als U H' Z a0
 | [],res,H,held,als,_,h,_=>⟨res,H,held,als,h,Yx _,Yh _,λ_ h=>h,λ_ h=>h,λ_ h=>.inl h,λ_ _ h=>h,λ_ h=>by cases h⟩
 | i::L,res,H,held,als,hL,h,a1=>by
  obtain⟨o,ho,D,A⟩:=hL i (by simp);obtain⟨r1,H1,a3,a4,h1,f1⟩:=c2n (B:=B) ho D A h a1;obtain⟨r2,H2,a5,a6,h2,f2⟩:=stage_sound L r1 H1 a3 a4 (λi hi=>hL i (by grind)) h1 a1;refine⟨r2,H2,a5,a6,h2,f1.gr.trans f2.gr,f1.ph.trans f2.ph,λi hi=>f2.keepH i (f1.keepH i hi),λx hx=>f2.keepA x (f1.keepA x hx),?_,?_,?_⟩
  .intro x hx;rcases f2.new x hx with h|h
   .exact f1.new x h
   .exact .inr (Xa f1.ph.le h)
  .intro n A D;exact f2.ok n (Xa A f1.ph.le) (f1.ok n A D)
  .intro j Q o' a2;rcases Xb.1 Q with rfl|Q
   .exact(f1.known j (by simp) o' a2).mono f2.gr (λh=>f2.keepH _ h) λnm x h=>f2.keepA _ h
   .exact f2.known j Q o' a2
end
section
variable {B G:Nat}{P:Program}
variable {ρ':Rn}{o:Oper}{ops:Array Oper}
def DR(ρ:Rn):List Dfr->List Deferred->Prop
 | [],ds=>ds=[]
 | (fn,cap,args)::l,ds=>∃(cs as:Array Value)(ds' : List Deferred),ds = { target:=.fn fn cs,args:=as }::ds'/\VRs ρ cap cs.toList/\VRs ρ args as.toList/\DR ρ l ds'
theorem DR.mono{ρ:Rn}(h:Sub ρ ρ'):∀{l:List Dfr}{ds:List Deferred},DR ρ l ds->DR ρ' l ds
 | [],_,r=>r
 | _::_,_,⟨cs,as,A,e,a,b,c⟩=>⟨cs,as,A,e,a.mono h,b.mono h,DR.mono h c⟩
structure Dz (n:Nat) (ρ:Rn) (fr:Fr) (a:Act):Prop where
 slot:∀t v,fr.get t=some v->t<n->VR ρ v (a.tmps.getD t undef)
 dfr:DR ρ fr.defers a.defers
 size:n<=a.tmps.size
 only:∀t v,fr.get t=some v->t<n
structure St (B G n n0:Nat) (ρ0:Rn) (w0:World) (ρ:Rn) (fr:Fr) (H:Mem) (a:Act) (w:World):Prop where
 ext:Ext B n0 ρ0 w0 ρ w
 sim:Sim B G ρ H w
 frel:Dz n ρ fr a
 le:n0<=H.next
variable {n n0:Nat}{ρ0 ρ:Rn}{w0 w:World}{fr:Fr}{H:Mem}{a:Act}
theorem St.ev(s:St B G n n0 ρ0 w0 ρ fr H a w):EvR ρ fr.ev a.eval:=by
 intro x v h
 cases x with
 | tmp t=>exact s.frel.slot t v h (s.frel.only t v h)
 | const c=>cases h;rfl
 | global g=>cases h;rfl
 | func f=>cases h;rfl
theorem Dz.put{u:Value}{v:AV}{d:Option Tmp}(h:Dz n ρ fr a)(hd:∀t,d=some t->t<n)(Q:VR ρ v u):Dz n ρ (fr.put d v) (a.put d u):=by
 cases d with
 | none=>exact h
 | some t =>
  have ht:=hd t rfl;refine⟨?_,?_,?_,?_⟩
  .intro j y hy A;rcases Yl hy with⟨rfl,rfl⟩|⟨D,hy⟩
   .show VR ρ y ((a.tmps.setIfInBounds j u).getD j undef);have:j<a.tmps.size:=Xm ht h.size;simp_all
   .show VR ρ y ((a.tmps.setIfInBounds t u).getD j undef);rw[Array.getD_eq_getD_getElem?,Array.getElem?_setIfInBounds];have:=h.slot j y hy A
    (split<;>simp_all)
  .show DR ρ (fr.upd t v).defers a.defers;rw[Yt];exact h.dfr
  .show n<=(a.tmps.setIfInBounds t u).size;simp;exact h.size
  .intro j y hy;rcases Yl hy with⟨rfl,rfl⟩|⟨D,hy⟩
   .grind
   .exact h.only j y hy
theorem Dz.mono(h:Dz n ρ fr a)(A:Sub ρ ρ'):Dz n ρ' fr a:=
 ⟨λt v D ht=>(h.slot t v D ht).mono A,h.dfr.mono A,h.size,h.only⟩
theorem St.step{H': Mem}{h:World}{v:AV}{u:Value}{d:Option Tmp}(s:St B G n n0 ρ0 w0 ρ fr H a w)(he:Ext B H.next ρ w ρ' h)(A:Sim B G ρ' H' h)(D:VR ρ' v u)(Q:H.next<=H'.next)
  (hd:∀t,d=some t->t<n):St B G n n0 ρ0 w0 ρ' (fr.put d v) H' (a.put d u) h:=
 ⟨s.ext.trans he s.le,A,(s.frel.mono (he.sub s.sim)).put hd D,Xa s.le Q⟩
def Dk(B G n n0:Nat)(ρ0:Rn)(w0:World)(out:Out):Exit->Act->World->Prop:=λe a' w' =>
 match out,e with
 | .norm fr H,.normal=>∃ρ',St B G n n0 ρ0 w0 ρ' fr H a' w'
 | .exit id fr H,.exit id'=>id'=id/\∃ρ',St B G n n0 ρ0 w0 ρ' fr H a' w'
 | .ret fr H,.ret=>∃ρ',St B G n n0 ρ0 w0 ρ' fr H a' w'
 | .panic v fr H,.panic chain=>∃ρ' u,chain=[{ v:=u,recovered:=false }]/\VR ρ' v u/\St B G n n0 ρ0 w0 ρ' fr H a' w'
 | _,_=>False
def Jg(B G n0:Nat)(ρ0:Rn)(w0:World)(r:A1):Ending->World->Prop:=λe w' =>
 match r,e with
 | .ret v H,.returned u=>∃ρ',Ext B n0 ρ0 w0 ρ' w'/\Sim B G ρ' H w'/\VR ρ' v u/\n0<=H.next
 | .panic v H,.panicked chain=>∃ρ' u,chain=[{ v:=u,recovered:=false }]/\VR ρ' v u/\Ext B n0 ρ0 w0 ρ' w'/\Sim B G ρ' H w'/\n0<=H.next
 | _,_=>False
def A8(B G:Nat)(P:Program)(callf:CallF):Prop:=∀f args H,callf f args H≠.bad->∀(ρ:Rn)(us:Array Value)(w:World),Sim B G ρ H w->VRs ρ args us.toList ->
 Calls P f us w (Jg B G H.next ρ w (callf f args H))
theorem Fl(h:Cn n o=true):∀t,o.dst=some t->t<n:=by
 intro t ht;simp_all[Cn]
theorem Tj{g:Nat×Bool}{b:Bool}(s:St B G n n0 ρ0 w0 ρ fr H a w)(ho:o.guard=some g)(h:Lh ops fr g=some b):
  Region.wanted o (yielded ops a.tmps)=b:=by
 obtain⟨j,a0⟩:=g;have Q:∀{d:Tmp}{v:AV},fr.get d=some v->∃u,a.tmps[d]?=some u/\VR ρ v u:=by
  intro d v A;have U:=s.frel.only d v A;have:=s.frel.slot d v A U;have a3:d<a.tmps.size:=Xm U s.frel.size;simp_all
 unfold Lh at h;split at h
 .rename_i Z hy;unfold Wt at hy;split at hy
  .rename_i oj a1;split at hy
   .rename_i d hd;split at hy
    .rename_i bb D;cases hy;obtain⟨u,hu,A⟩:=Q D;cases A;have a2:yielded ops a.tmps j=some Z:=by grind[yielded]
     simp only[Region.wanted,ho,a2];revert h;cases Z<;>cases a0<;>simp<;>exact λh=>h ▸ rfl
    grind
   grind
  grind
 .split at h
  .rename_i oj a1;split at h
   .rename_i d hd;split at h
    .rename_i vs D;cases h;obtain⟨u,hu,A⟩:=Q D;cases A;grind[yielded,Region.wanted]
    grind
   grind
  grind
theorem Hm(ρ:Rn):VR ρ (.lit undef) undef:=rfl
theorem a8p{callf:CallF}{a2:List Oper}{k:Fr->Mem->Out}{out:Out}(hc:A8 B G P callf)(hG:G=P.globals.size)(a5:Cn n o=true)
  (s:St B G n n0 ρ0 w0 ρ fr H a w)
  (hk:∀(a3:Fr)(H' : Mem)(ρ' : Rn)(a' : Act)(w' : World),St B G n n0 ρ0 w0 ρ' a3 H' a' w'->k a3 H'=out->wpList P ops (Dk B G n n0 ρ0 w0 out) a2 a' w')
  (h:after callf o fr k (opV P H fr.ev o)=out) (a4:out≠.bad) :
  o.wp P a w (wpList P ops (Dk B G n n0 ρ0 w0 out) a2) (Dk B G n n0 ρ0 w0 out):=by
 have D:=Ij (o:=o) s.sim s.ev hG;have hd:=Fl a5;unfold Oper.wp;unfold after at h
 cases Z:opV P H fr.ev o with
 | val v H' =>
  rw[Z] at D h;obtain⟨ρ',u,w',U,Q,h3,h4,h5⟩:=D;rw[U];have A:k (fr.put o.dst v) H'=out:=by
   have:(fr.putK o.dst v λfr=>k fr H')=out:=h;grind[Fr.putK_eq]
  exact hk _ _ _ _ _ (s.step Q h3 h4 h5 hd) A
 | skip H' =>
  rw[Z] at D h;obtain⟨ρ',w',U,Q,h3,h5⟩:=D;rw[U];have A:k (fr.put o.dst (.lit undef)) H'=out:=by
   have:(fr.putK o.dst (.lit undef) λfr=>k fr H')=out:=h;grind[Fr.putK_eq]
  exact hk _ _ _ _ _ (s.step Q h3 (Hm _) h5 hd) A
 | enter f args H' =>
  rw[Z] at D h;obtain⟨us,U,Q,rfl⟩:=D;rw[U]
  have A:(match callf f args H' with
   | .ret v H=>fr.putK o.dst v λfr=>k fr H
   | .panic v H=>.panic v fr H
   | .bad=>.bad)=out:=h
  cases a0:callf f args H' with
  | bad=>grind
  | ret v H2 =>
   rw[a0] at A;dsimp only at A;rw[X8] at A;have:=hc f args H' (by grind) ρ us w s.sim Q;rw[a0] at this;refine this.mono λe w' he=>?_
   cases e with
   | returned u =>
    obtain⟨ρ',g1,g2,g3,g4⟩:=he;exact hk _ _ _ _ _ (s.step g1 g2 g3 g4 hd) A
   | panicked a6=>exact he.elim
   | outgrown=>exact he.elim
  | panic v H2 =>
   rw[a0] at A;dsimp only at A;have:=hc f args H' (by grind) ρ us w s.sim Q;rw[a0] at this;refine this.mono λe w' he=>?_
   cases e with
   | returned u=>exact he.elim
   | panicked a6 =>
    obtain⟨ρ',u,g0,g1,g2,g3,g4⟩:=he;subst A;exact⟨ρ',u,g0,g1,s.ext.trans g2 s.le,g3,s.frel.mono (g2.sub s.sim),Xa s.le g4⟩
   | outgrown=>exact he.elim
 | dfr fn a1 args H' =>
  rw[Z] at D h;obtain⟨cs,as,U,Q,h3,rfl⟩:=D;rw[U];have A:k ((fr.defer (fn,a1,args)).put o.dst (.lit undef)) H'=out:=by
   have:((fr.defer (fn,a1,args)).putK o.dst (.lit undef) λfr=>k fr H')=out:=h;grind[Fr.putK_eq]
  have hf:Dz n ρ (fr.defer (fn,a1,args)) { a with defers:={ target:=.fn fn cs,args:=as }::a.defers }:=
   ⟨λt v hv ht=>s.frel.slot t v (by grind[Fr.get_defer]) ht,by rw[Y9];exact⟨cs,as,_,rfl,Q,h3,s.frel.dfr⟩,s.frel.size,
    λt v hv=>s.frel.only t v (by grind[Fr.get_defer])⟩
  exact hk _ _ _ _ _ ⟨s.ext,s.sim,hf.put hd (Hm _),s.le⟩ A
 | recover=>rw[Z] at h;exact absurd h.symm a4
 | panic v H' =>
  rw[Z] at D h;obtain⟨u,U,Q,rfl⟩:=D;rw[U];have A:Out.panic v fr H'=out:=h;subst A;exact⟨ρ,u,rfl,Q,s⟩
 | bad=>rw[Z] at h;exact absurd h.symm a4
theorem a0t{callf:CallF}(hc:A8 B G P callf)(hG:G=P.globals.size){out:Out}(a0:out≠.bad):∀(l:List Oper)(fr:Fr)(H:Mem)(ρ:Rn)(a:Act) (w:World),
  (∀o∈l,Cn n o=true)->St B G n n0 ρ0 w0 ρ fr H a w->Oq P callf ops l fr H=out->wpList P ops (Dk B G n n0 ρ0 w0 out) l a w
 | [],fr,H,ρ,a,w,_,s,h=>by
  have:Out.norm fr H=out:=h;subst this;exact wpList_nil ⟨ρ,s⟩
 | o::l,fr,H,ρ,a,w,hd,s,h=>by
  have A:Li P callf ops o fr H (Oq P callf ops l)=out:=h;have a1:=hd o (by simp);have D:∀(Q:Fr)(H' : Mem)(ρ' : Rn)(U:Act)(Z:World),St B G n n0 ρ0 w0 ρ' Q H' U Z->Oq P callf ops l Q H'=out->wpList P ops (Dk B G n n0 ρ0 w0 out) l U Z:=
   λQ H' ρ' U Z s' D=>a0t hc hG a0 l Q H' ρ' U Z (λo ho=>hd o (by grind)) s' D
  unfold Li at A;unfold wpList
  cases hg:o.guard with
  | none =>
   rw[hg] at A;rw[if_pos (by grind[Region.wanted])];exact .inl (a8p hc hG a1 s D A a0)
  | some g =>
   rw[hg] at A;have h2:Qc P callf ops o fr H (Oq P callf ops l) g=out:=A;unfold Qc at h2;split at h2
   .rename_i hw;rw[if_pos (Tj s hg hw)];grind[a8p]
   .rename_i hw;rw[if_neg (by grind[Tj])];rw[X8] at h2;exact D _ _ _ _ _ ⟨s.ext,s.sim,s.frel.put (Fl a1) (Hm _),s.le⟩ h2
   grind
end
section
variable {B G:Nat}{P:Program}{ops:Array Oper}{tab:List Nat}{fr0:Fr}{callf:CallF}
variable {H:Mem}{c:Nat}
theorem a8q{ev:Ev}{o:Oper}{H': Mem}{v:AV}(h:cls o.op=.read)(A:opV P H ev o=.val v H'):H'=H:=by
 have a0:∀{r:Option AV},ofOpt H r=.val v H'->H'=H:=by
  intro r Q
  cases r with
  | none=>cases Q
  | some x=>cases Q;rfl
 unfold opV at A;cases U:o.op<;>rw[U] at h A<;>first|(simp[cls,freeOp] at h;done)|skip
 .rename_i t x;have D:Fv P H t (ev x)=.val v H':=A
  (simp_all[Fv];grind)
 .rename_i t m k Z;have D:Hk P H ev o t (ev m) (ev k) Z=.val v H':=A
  (simp_all[Hk];grind)
 .rename_i c;have D:Br P H ev o c=.val v H':=A;unfold Br at D;split at D
  .grind
  .rename_i args _;simp only[cls,freeOp] at h;split at D
   ·(simp_all[Fg,Ld,Ic,J9];grind)
   all_goals grind
noncomputable def nxt(P:Program)(callf:CallF)(ops:Array Oper)(tab:List Nat)(fr:Fr)(all:List Nat)(k:Nat)(cs:List Nat)(res:T2 AV)(H:Mem)(held:List Nat)(als:Als):Out:=
 match cs with
 | []=>fin res H ops.toList 0 fr
 | c::cs=>act P callf ops tab fr c res H λres H=>Qg P callf ops tab fr all (k+1) cs res H (Hl tab c held) (Gf tab c als)
noncomputable def gate(P:Program)(callf:CallF)(ops:Array Oper)(tab:List Nat)(fr:Fr)(all:List Nat)(k:Nat)(cs:List Nat)(res:T2 AV)(H:Mem)(held:List Nat)(als:Als):Out:=
 match Nd P ops tab fr res H held&&Nf H als with
 | true=>nxt P callf ops tab fr all k cs res H held als
 | false=>.bad
theorem a8r(h:List Nat)(k:Nat)(cs:List Nat)(res:T2 AV)(H:Mem)(held:List Nat)(als:Als):
  Qg P callf ops tab fr0 h k cs res H held als=Qf P ops tab fr0 (E4 tab h k ops.toList 0) res H held als λres H held als=>gate P callf ops tab fr0 h k cs res H held als:=by
 cases cs<;>rfl
theorem a8s{res:T2 AV}:∀{held:List Nat},Nd P ops tab fr0 res H held=true->∀i∈held,∃o v,ops[i]?=some o/\Cq res i=some v/\quiet P H (env ops tab fr0 res i) o=some v
 | [],_,_,h=>by cases h
 | j::held,h,i,hi=>by
  unfold Nd at h;split at h
  .rename_i o v A D;split at h
   .rename_i U Q;split at h
    .rename_i he;rcases Xb.1 hi with rfl|hi
     .exact⟨o,v,A,D,by rw[Q,eqAV_sound _ _ he]⟩
     .exact a8s h i hi
    grind
   grind
  grind
theorem a0u{a b:Blk}(h:eqBlk a b=true):a=b:=by
 unfold eqBlk at h;split at h
 .simp only[W1] at h;rw[eqAVs_sound _ _ h.1.1,eq_of_beq h.1.2,Xe h.2]
 all_goals simp_all
theorem a8t:∀{als:Als},Nf H als=true->∀i A x,(i,A,x)∈als->H.get A=some x
 | [],_,_,_,_,h=>by cases h
 | (j,a,b)::als,h,i,A,x,hx=>by
  unfold Nf at h;split at h
  .rename_i Q D;split at h
   .rename_i he;rcases Xb.1 hx with e|hx
    .cases e;rw[D,a0u he]
    .exact a8t h i A x hx
   .cases h
  .cases h
theorem Tk{i:Nat}(h:A3 tab c i=false):∀{held:List Nat},i∈held->i∈Hl tab c held
 | [],hi=>by grind
 | j::held,hi=>by
  unfold Hl;rcases Xb.1 hi with rfl|hi
  .rw[h];simp
  .split
   .exact Tk h hi
   .exact e6o _ (Tk h hi)
theorem Tl{i:Nat}(h:A3 tab c i=false):∀{als:Als}{A:Nat}{x:Blk},(i,A,x)∈als->(i,A,x)∈Gf tab c als
 | [],_,_,hi=>by grind
 | y::als,A,x,hi=>by
  unfold Gf;rcases Xb.1 hi with rfl|hi
  .rw[h];simp
  .split
   .exact Tl h hi
   .exact e6o _ (Tl h hi)
theorem Ly:∀{als:Als},∀x∈Gf tab c als,x∈als
 | [],_,h=>by cases h
 | y::als,x,h=>by
  unfold Gf at h;split at h
  .exact e6o _ (Ly x h)
  .rcases Xb.1 h with rfl|h
   .simp
   .exact e6o _ (Ly x h)
end
section
def Dn(listed:Array Bool)(i:Nat):Prop:=listed.getD i false=true
structure Jh (B G n n0:Nat) (P:Program) (ops:Array Oper) (fr0:Fr) (ρ0:Rn) (w0:World) (dn cs:List Nat) (res:T2 AV) (H:Mem) (held:List Nat) (als:Als) (listed:Array Bool) (ρ:Rn) (a:Act) (w:World):Prop where
 ext:Ext B n0 ρ0 w0 ρ w
 sim:Sim B G ρ H w
 le:n0<=H.next
 size:listed.size=ops.size
 tsz:n<=a.tmps.size
 dfr:DR ρ fr0.defers a.defers
 only:∀t v,fr0.get t=some v->t<n
 chain:chainOf ops.toList 0=dn++cs
 csN:∀c∈cs,¬Dn listed c
 down:∀i o,Dn listed i->ops[i]?=some o->∀e∈o.after.toList,Region.binds .any e=true->Dn listed e.on
 old:∀t,(∀j,G4 t ops.toList 0=some j->¬Dn listed j)->∀v,fr0.get t=some v->VR ρ v (a.tmps.getD t undef)
 new:∀j o,Dn listed j->ops[j]?=some o->∃v,Cq res j=some v/\∀d,o.dst=some d->VR ρ v (a.tmps.getD d undef)
 known:∀i o,¬Dn listed i->ops[i]?=some o->Cw o.op=false->Et (ancs [] ops.toList) i (dn++cs)<=dn.length->Lx B P ops (ancs [] ops.toList) fr0 res held als i o
 aok:Eu n0 H als
 alsN:∀x∈als,¬Dn listed x.1->ρ x.2.1=none
variable {B G n n0:Nat}{P:Program}{ops:Array Oper}{fr0:Fr}{ρ0 ρ:Rn}{w0 w:World}{dn cs:List Nat}{res:T2 AV}{H:Mem}{held:List Nat}{als:Als}{listed:Array Bool}{a:Act}
structure Rd (ops:Array Oper) (listed:Array Bool) (i:Nat) (o:Oper):Prop where
 at' : ops[i]?=some o
 un:¬Dn listed i
 all:∀e∈o.after.toList,Region.binds .any e=true->Dn listed e.on
theorem Tm{i:Nat}(h:i∈Region.ready .any ops listed):∃o,Rd ops listed i o:=by
 obtain⟨U,o,A,D⟩:=mem_ready.1 h;refine⟨o,A,?_,λe he Q=>D e (Array.mem_toList_iff.1 he) Q⟩;grind[Dn]
theorem Rd.anc{i j:Nat}{o:Oper}(r:Rd ops listed i o)(d:Jh B G n n0 P ops fr0 ρ0 w0 dn cs res H held als listed ρ a w)(h:A3 (ancs [] ops.toList) i j=true):Dn listed j:=
 Th (listed:=Dn listed) d.down i o j r.at' r.all h
theorem Rd.not_anc{i j:Nat}{o:Oper}(r:Rd ops listed i o)(d:Jh B G n n0 P ops fr0 ρ0 w0 dn cs res H held als listed ρ a w)(Q:j<ops.size)(h:A3 (ancs [] ops.toList) j i=true):¬Dn listed j:=by
 intro hd;obtain⟨A,D⟩:∃A,ops[j]?=some A:=⟨ops[j],by grind⟩;exact r.un (Th (listed:=Dn listed) d.down j A i D (d.down j A hd D) h)
theorem Fm{i:Nat}{o:Oper}(h:ops[i]?=some o):i<ops.size:=by grind
theorem Co{i:Nat}{o:Oper}:ops.toList[i]?=some o↔ops[i]?=some o:=by grind
theorem Dn.set{i j:Nat}(h:i<listed.size):Dn (listed.setIfInBounds i true) j↔j=i\/Dn listed j:=by
 (simp_all[Dn];grind)
abbrev Yi:=@Dn.set
theorem a0v{i:Nat}{o:Oper}{A:T2 AV}(d:Jh B G n n0 P ops fr0 ρ0 w0 dn cs res H held als listed ρ a w)(r:Rd ops listed i o)(hg:Gr A res):
  EvR ρ (env ops (ancs [] ops.toList) fr0 A i) a.eval:=by
 intro x v hx
 cases x with
 | tmp t =>
  have h:Wu ops (ancs [] ops.toList) fr0 A i t=some v:=hx;unfold Wu at h;split at h
  .rename_i D;exact d.old t (λj hj=>by grind) v h
  .rename_i j D;obtain⟨_,Z,a3,a2⟩:=Lu D;have a0:ops[j]?=some Z:=Co.1 (by grind);split at h
   .rename_i Q;obtain⟨y,hy,hv⟩:=d.new j Z (r.anc d Q) a0;have:=hg _ _ h;rw[this] at hy;cases hy;exact hv t a2
   .split at h
    .rename_i Q;refine d.old t (λj' a1=>?_) v h;rw[D] at a1;cases a1;rcases e8t _ _ ▸ Q with U|U
     .exact r.not_anc d (Fm a0) U
     .have:=Xe U;subst this;exact r.un
    grind
 | const c=>cases hx;rfl
 | global g=>cases hx;rfl
 | func f=>cases hx;rfl
theorem a8u{i:Nat}{o:Oper}{U:T2 AV}{b:Bool}(a3:fit ops.toList ops.toList 0=true)(a4:∀(j:Nat)(o:Oper),ops[j]?=some o->Cn n o=true)
  (d:Jh B G n n0 P ops fr0 ρ0 w0 dn cs res H held als listed ρ a w) (r:Rd ops listed i o) (hg:Gr U res) (h:Ot (ancs [] ops.toList) U i o=some b) :
  Region.wanted o (yielded ops a.tmps)=b:=by
 unfold Ot at h;split at h
 .grind[Region.wanted]
 .rename_i g a0;obtain⟨j,a5⟩:=g;have Z:=Lw a3 i o (Co.2 r.at');unfold Kc at Z;simp only[W1] at Z;have Q:=Z.2;rw[a0] at Q;dsimp only at Q;split at Q
  .rename_i oj a6;have a1:ops[j]?=some oj:=Co.1 a6;obtain⟨t,ht⟩:=Option.isSome_iff_exists.1 Q;have a2:∀{v:AV},A3 (ancs [] ops.toList) i j=true->Cq U j=some v->∃u,a.tmps[t]?=some u/\VR ρ v u:=by
    intro v A D;obtain⟨y,hy,a9⟩:=d.new j oj (r.anc d A) a1;rw[hg _ _ D] at hy;cases hy;have a7:t<n:=Fl (a4 j oj a1) t ht;have b0:t<a.tmps.size:=Xm a7 d.tsz;simp_all
   unfold a6s at h;split at h
   .rename_i b' A hb;obtain⟨u,hu,D⟩:=a2 A hb;cases D;have a8:yielded ops a.tmps j=some b':=by grind[yielded]
    simp only[Region.wanted,a0,a8];revert h;cases b'<;>cases a5<;>simp<;>exact λh=>h ▸ rfl
   .rename_i vs A hb;obtain⟨u,hu,D⟩:=a2 A hb;cases D;grind[yielded,Region.wanted]
   grind
  grind
end
section
variable {B G n n0:Nat}{P:Program}{ops:Array Oper}{fr0:Fr}{ρ0 ρ:Rn}{w0 w:World}{dn cs:List Nat}{res:T2 AV}{H:Mem}{held:List Nat}{als:Als}{listed:Array Bool}{a:Act}
theorem Oz{i t:Nat}{o:Oper}(D:fit ops.toList ops.toList 0=true)(Q:ops[i]?=some o)(hd:o.dst=some t):G4 t ops.toList 0=some i:=by
 have A:=Lw D i o (Co.2 Q);unfold Kc at A;simp only[W1] at A;have h:=A.1.1.1;rw[hd] at h;dsimp only at h;split at h
 all_goals simp_all
theorem Tn{d:Option Tmp}{t:Tmp}{u:Value}(h:d≠some t):(a.put d u).tmps.getD t undef=a.tmps.getD t undef:=by
 cases d with
 | none=>rfl
 | some d =>
  have A:d≠t:=λe=>h (by rw[e]);show (a.tmps.setIfInBounds d u).getD t undef=_;simp_all
theorem a8v{t:Tmp}{u:Value}(h:t<a.tmps.size):(a.put (some t) u).tmps.getD t undef=u:=by
 show (a.tmps.setIfInBounds t u).getD t undef=_;simp_all
theorem a8w(d:Option Tmp)(u:Value):(a.put d u).tmps.size=a.tmps.size:=by
 cases d with
 | none=>rfl
 | some d=>show (a.tmps.setIfInBounds d u).size=_;simp
theorem O0(d:Option Tmp)(u:Value):(a.put d u).defers=a.defers:=by cases d<;>rfl
theorem Jh.go{i:Nat}{o:Oper}{U:Rn}{w': World}{u:Value}{v:AV}{a0 a1:List Nat}{a2:T2 AV}{H': Mem}{a7:List Nat}{a3:Als}
  (a4:fit ops.toList ops.toList 0=true) (a8:∀(j:Nat)(o:Oper),ops[j]?=some o->Cn n o=true)
  (d:Jh B G n n0 P ops fr0 ρ0 w0 dn cs res H held als listed ρ a w) (r:Rd ops listed i o)
  (a9:Ext B n0 ρ w U w') (a5:Sub ρ U) (hs:Sim B G U H' w') (b0:n0<=H'.next) (b1:Gr res a2) (hv:Cq a2 i=some v) (hr:VR U v u)
  (b2:chainOf ops.toList 0=a0++a1) (b3:∀c∈a1,c≠i/\c∈cs)
  (b5:∀j D,j≠i->¬Dn listed j->ops[j]?=some D->Cw D.op=false->Et (ancs [] ops.toList) j (a0++a1)<=a0.length->Lx B P ops (ancs [] ops.toList) fr0 a2 a7 a3 j D)
  (b4:Eu n0 H' a3) (b6:∀x∈a3,x.1≠i->¬Dn listed x.1->U x.2.1=none) :
  Jh B G n n0 P ops fr0 ρ0 w0 a0 a1 a2 H' a7 a3 (listed.setIfInBounds i true) U (a.put o.dst u) w':=by
 have hi:i<listed.size:=by rw[d.size];exact Fm r.at'
 have Q:∀j,Dn (listed.setIfInBounds i true) j↔j=i\/Dn listed j:=λj=>Yi hi;refine⟨d.ext.trans a9 (Wy _),hs,b0,by simp[d.size],by rw[a8w];exact d.tsz,by rw[O0];exact d.dfr.mono a5,d.only,b2,?_,?_,?_,?_,?_,b4,?_⟩
 .intro c hc hd;rcases (Q c).1 hd with e|h
  .grind
  .exact d.csN c (b3 c hc).2 h
 .intro j D Z A e he hb;rcases (Q j).1 Z with e1|h
  .subst e1;rw[r.at'] at A;cases A;exact(Q _).2 (.inr (r.all e he hb))
  .exact(Q _).2 (.inr (d.down j D h A e he hb))
 .intro t ht y hy;have a6:o.dst≠some t:=λe=>ht i (Oz a4 r.at' e) ((Q i).2 (.inl rfl));rw[Tn a6];exact(d.old t (λj Z hd=>ht j Z ((Q j).2 (.inr hd))) y hy).mono a5
 .intro j D Z A;by_cases e:j=i
  .subst e;rw[r.at'] at A;cases A;refine⟨v,hv,λt ht=>?_⟩;have b7:t<a.tmps.size:=Xm (Fl (a8 j _ r.at') t ht) d.tsz;grind[a8v]
  .rcases (Q j).1 Z with e1|h
   .grind
   .obtain⟨y,h1,h2⟩:=d.new j D h A;refine⟨y,b1 _ _ h1,λt ht=>?_⟩;have a6:o.dst≠some t:=by
     intro e1;have h3:=Oz a4 r.at' e1;rw[Oz a4 A ht] at h3;grind
    rw[Tn a6];exact(h2 t ht).mono a5
 all_goals grind
end
end Go.Ai
