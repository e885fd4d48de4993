/- A small verified interpreter over names, its proofs, and what was proved with it. No condition. -/
import Derived.Laws.Tables
import Derived.Laws.Append
import Derived.Laws.BytesString
import Derived.Laws.IdiomStrings
import Derived.Tactics
import Derived.Test.YtpimmmnkcgnjjaaGreatO01
set_option linter.all false
set_option linter.deprecated false
section
namespace Go.Ai
abbrev Gb:=Nat→Option Blk
abbrev Wd:=List Int
abbrev Wq:=List Wd
abbrev Lq:=List (Wd×Wd)
abbrev Tq:=List (List (Int×Int))
abbrev AV.li (n:Int):AV:=.lit (.int .i64 n)
abbrev AV.nl:AV:=.lit (.slice none 0 0)
end Go.Ai
end
section
namespace Go.Ai
open Go.RowKit (Below)
variable {B G:Nat} {ρ:Rn} {H:Mem} {w:World} {P:Program}
variable {n l h m:Nat}
def NB (v:Option Value) (d n:Nat) : Prop:=(v=none/\n=d)\/∃ k,v=some (.int k n)
theorem e1o {k:IntKind} {y:Nat} (h:n<=y) (code:BoundsCode) (w:World) : (Instr.sliceBound (.int k n) y code).run P w=.ok n w:=by
 simp[Instr.sliceBound,asIntOf,h]
theorem a9p {isS:Bool} {c:Nat} {lo hi mx:Option Value} (hl:NB lo 0 l) (hh:NB hi n h) (hm:NB mx c m) (ok:mx≠none->hi≠none) (h1:l<=h) (h2:h<=m) (h3:m<=c) (w:World) :
  (Instr.sliceBounds isS n c lo hi mx).run P w=.ok (l,h,m) w:=by
 rcases hm with⟨rfl,rfl⟩|⟨km,rfl⟩<;>rcases hh with⟨rfl,rfl⟩|⟨kh,rfl⟩<;>rcases hl with⟨rfl,rfl⟩|⟨kl,rfl⟩ <;>
  first
  | (simp_all[e1o,Instr.sliceBounds])
  | grind
theorem e1p {lo hi mx:Option AV} {lo' hi' mx': Option Value} {c:Nat} (hb:a0t lo hi mx n c=some (l,h,m))
  (hl:∀ v,lo=some v->∃ u,lo'=some u/\VR ρ v u) (hl0:lo=none->lo'=none)
  (hh:∀ v,hi=some v->∃ u,hi'=some u/\VR ρ v u) (hh0:hi=none->hi'=none)
  (hm:∀ v,mx=some v->∃ u,mx'=some u/\VR ρ v u) (hm0:mx=none->mx'=none) :
  NB lo' 0 l/\NB hi' n h/\NB mx' c m/\(mx'≠none->hi'≠none)/\l<=h/\h<=m/\m<=c:=by
 unfold a0t at hb;split at hb
 ·rename_i l' h' m' e1 e2 e3 e4;split at hb
  ·rename_i hc;cases hb;simp only[Dq] at hc;have nb:∀ {v:Option AV} {v' : Option Value} {d k:Nat},a7j v d=some k->(∀ x,v=some x->∃ u,v'=some u/\VR ρ x u)->(v=none->v'=none)->NB v' d k:=by
    intro v v' d k hk h1 h2
    cases v with
    | none=>simp[a7j] at hk;exact .inl ⟨h2 rfl,hk.symm⟩
    | some x =>
     simp only[a7j] at hk;obtain⟨u,hu,hv⟩:=h1 x rfl;obtain⟨kk,rfl⟩:=a7t hk hv;exact .inr ⟨kk,hu⟩
   refine⟨nb e1 hl hl0,nb e2 hh hh0,nb e3 hm hm0,?_,Dp hc.1.1,Dp hc.1.2,Dp hc.2⟩;intro hne
   cases mx with
   | none=>grind
   | some x=>cases hi with
    | none=>simp[b5c] at e4
    | some y=>grind
  grind
 grind
section one
variable {ev:Ev} {e:Operand→Value} {o:Oper} (s:Sim B G ρ H w) (he:EvR ρ ev e)
theorem b9a {size a off:Nat} {v:AV} (hv:a7k size a off (some (l,h,m))=some v) : v=if m=l then .sl a off 0 0 else .sl a (off+l*size) (h-l) (m-l):=by
 unfold a7k at hv;dsimp only at hv;split at hv
 all_goals (split<;>simp_all[a1s])
include s he
theorem e1q {t:TypeId} {x:Operand} {lo hi mx:Option Operand} (h:o.op=.slice t x lo hi mx) : RS B G P ρ H w (a0k P H ev o t (ev x) lo hi mx) (execOp e o):=by
 unfold a0k;split
 ·rename_i r hr;obtain⟨u,h1,h2⟩:=a9o (P:=P) (w:=w) (by grind) he hr;grind[RS.quiet]
 ·unfold a4f;split
  ·rename_i v hv;split
   ·rename_i lo' hi' mx' h1 h2 h3;have ho:∀ {y:Option Operand} {y' : Option AV},a2s ev y=some y'->(∀ v,y'=some v->∃ u,y.map e=some u/\VR ρ v u)/\(y'=none->y.map e=none):=by
     intro y y' hy
     cases y with
     | none=>grind[a2s]
     | some y =>
      simp only[a2s] at hy;grind
    have bs:∀ {n c l hh m:Nat},a0t lo' hi' mx' n c=some (l,hh,m)->_:=fun {n c l hh m} hb =>
     e1p hb (ho h1).1 (ho h1).2 (ho h2).1 (ho h2).2 (ho h3).1 (ho h3).2
    refine RS.ofOpt s fun r hr=>?_;unfold b8j at hr;split at hr
    ·rename_i el hd;split at hr
     ·rename_i info hinfo;unfold a7l at hr;split at hr
      ·rename_i a off n c;obtain⟨b,q,k,hp,hle,hu⟩:=he _ _ hv
       cases hb:a0t lo' hi' mx' n c with
       | none=>rw[hb] at hr;cases hr
       | some y =>
        obtain⟨l,hh,m⟩:=y;rw[hb] at hr;obtain⟨b1,b2,b3,b4,b5,b6,b7⟩:=bs hb;have:=b9a hr;subst this;refine⟨.slice (if m=l then some ⟨b,q+off,none⟩ else some ⟨b,q+off+l*info.size,none⟩) (hh-l) (m-l),?_,?_⟩
        ·simp[execOp,h,Instr.sliceAt,Instr.slice,Av hd,hu,a9p b1 b2 b3 b4 b5 b6 b7,Cu hinfo,a3g]
        ·split
         ·rename_i hml;exact⟨b,q,k,hp,Dm _,by grind⟩
         ·exact⟨b,q,k,hp,by omega,by grind⟩
      ·rename_i a off n d;obtain⟨b,q,k,hp,hle,hu⟩:=he _ _ hv;split at hr
       ·cases hb:a0t lo' hi' none n n with
        | none=>rw[hb] at hr;cases hr
        | some y =>
         obtain⟨l,hh,m⟩:=y;rw[hb] at hr;obtain⟨b1,b2,b3,b4,b5,b6,b7⟩:=bs hb;have hmx:=(ho h3).2 rfl;have b3' : NB (mx.map e) (k-d) (k-d):=.inl ⟨hmx,rfl⟩;unfold b8i at hr;dsimp only at hr;split at hr
         ·rename_i hlt;simp only[a1s] at hr;cases hr;have hlt' : l<n:=by simp_all
          refine⟨.slice (some ⟨b,q+off+l*info.size,none⟩) (hh-l) (k-d-l),?_,⟨b,q,k,hp,by omega,by grind⟩⟩;have hne:¬(k-d=l):=by omega
          simp[execOp,h,Instr.sliceAt,Instr.slice,Av hd,hu,a9p b1 b2 b3' b4 b5 (show hh<=k-d by omega) (Dm _),Cu hinfo,a3g,hne]
         ·rename_i hlt;cases hr;have hlt' : ¬ l<n:=fun h0=>by
           have:Nat.blt l n=true:=g6d.symm ▸ (show l+1<=n from h0);grind
          have hhl:hh-l=0:=by omega
          refine⟨.slice (if k-d=l then some ⟨b,q+off,none⟩ else some ⟨b,q+off+l*info.size,none⟩) (hh-l) (k-d-l),?_,?_⟩
          ·simp[execOp,h,Instr.sliceAt,Instr.slice,Av hd,hu,a9p b1 b2 b3' b4 b5 (show hh<=k-d by omega) (Dm _),Cu hinfo,a3g]
          ·rw[hhl];split<;>exact⟨_,_,rfl⟩
       ·rename_i mv
        cases hb:a0t lo' hi' (some mv) n n with
        | none=>rw[hb] at hr;cases hr
        | some y =>
         obtain⟨l,hh,m⟩:=y;rw[hb] at hr;obtain⟨b1,b2,b3,b4,b5,b6,b7⟩:=bs hb;have b3' : NB (mx.map e) (k-d) m:=by
          rcases b3 with⟨h0,_⟩|h0
          ·grind
          ·exact .inr h0
         have:=b9a hr;subst this;refine⟨.slice (if m=l then some ⟨b,q+off,none⟩ else some ⟨b,q+off+l*info.size,none⟩) (hh-l) (m-l),?_,?_⟩
         ·simp[execOp,h,Instr.sliceAt,Instr.slice,Av hd,hu,a9p b1 b2 b3' b4 b5 b6 (show m<=k-d by omega),Cu hinfo,a3g]
         ·split
          ·rename_i hml;exact⟨b,q,k,hp,Dm _,by grind⟩
          ·exact⟨b,q,k,hp,by omega,by grind⟩
      ·obtain⟨ad,c,hu⟩:=he _ _ hv
       cases hb:a0t lo' hi' mx' 0 0 with
       | none=>grind
       | some y =>
        obtain⟨l,hh,m⟩:=y;rw[hb] at hr;cases hr;obtain⟨b1,b2,b3,b4,b5,b6,b7⟩:=bs hb;obtain rfl:m=0:=by omega
        obtain rfl:hh=0:=by omega
        obtain rfl:l=0:=by omega
        rcases b3 with⟨h0,_⟩|h0
        ·have b3' : NB (mx.map e) c c:=.inl ⟨h0,rfl⟩;refine⟨.slice (if c=0 then some ad else some (ad.add 0)) 0 c,?_,by split<;>exact⟨_,_,rfl⟩⟩;simp[execOp,h,Instr.sliceAt,Instr.slice,Av hd,hu,a9p b1 b2 b3' b4 (Dm _) (Dt c) (Dm _),Cu hinfo]
        ·have b3' : NB (mx.map e) c 0:=.inr h0;refine⟨.slice (some ad) 0 0,?_,⟨_,_,rfl⟩⟩;simp[execOp,h,Instr.sliceAt,Instr.slice,Av hd,hu,a9p b1 b2 b3' b4 (Dm _) (Dm _) (Dt c),Cu hinfo]
      grind
     grind
    ·rename_i arr hd;split at hr
     ·rename_i n el a off hda;obtain⟨b,q,k,hp,hu⟩:=he _ _ hv;split at hr
      ·rename_i info hinfo
       cases hb:a0t lo' hi' mx' n n with
       | none=>rw[hb] at hr;cases hr
       | some y =>
        obtain⟨l,hh,m⟩:=y;rw[hb] at hr;obtain⟨b1,b2,b3,b4,b5,b6,b7⟩:=bs hb;have:=b9a hr;subst this;refine⟨.slice (some (if m=l then ⟨b,q+off,none⟩ else ⟨b,q+off+l*info.size,none⟩)) (hh-l) (m-l),?_,?_⟩
        ·simp[execOp,h,Instr.sliceAt,Instr.slice,Av hd,Av hda,asAddr,hu,a9p b1 b2 b3 b4 b5 b6 b7,Cu hinfo,a3g]
        ·split
         ·rename_i hml;exact⟨b,q,k,hp,Dm _,by grind⟩
         ·exact⟨b,q,k,hp,by omega,by grind⟩
      grind
     grind
    ·rename_i n el hd;split at hr
     ·rename_i info a off hinfo;obtain⟨b,q,k,hp,hu⟩:=he _ _ hv
      cases hb:a0t lo' hi' mx' n n with
      | none=>rw[hb] at hr;cases hr
      | some y =>
       obtain⟨l,hh,m⟩:=y;rw[hb] at hr;obtain⟨b1,b2,b3,b4,b5,b6,b7⟩:=bs hb;have:=b9a hr;subst this;refine⟨.slice (some (if m=l then ⟨b,q+off,none⟩ else ⟨b,q+off+l*info.size,none⟩)) (hh-l) (m-l),?_,?_⟩
       ·simp[execOp,h,Instr.sliceAt,Av hd,Instr.sureAddr,hu,a9p b1 b2 b3 b4 b5 b6 b7,Cu hinfo,a3g]
       ·split
        ·rename_i hml;exact⟨b,q,k,hp,Dm _,by grind⟩
        ·exact⟨b,q,k,hp,by omega,by grind⟩
     grind
    grind
   ·trivial
  ·trivial
end one
end Go.Ai
end
section
namespace Go.Ai
open Go.RowKit (Below)
variable {B G:Nat} {ρ:Rn} {H:Mem} {w:World} {P:Program}
theorem c9u (off:Nat) : ∀ (us:List Value) (k:Nat) (cs:Array Value),off+k+us.length<=cs.size ->
  ((us.zipIdx k).foldl (fun cs (x:Value×Nat)=>cs.setIfInBounds (off+x.2) x.1) cs).size=cs.size /\
  ∀ j,((us.zipIdx k).foldl (fun cs (x:Value×Nat)=>cs.setIfInBounds (off+x.2) x.1) cs)[j]?=if off+k<=j/\j<off+k+us.length then us[j-(off+k)]? else cs[j]?
 | [],k,cs,_=>⟨rfl,fun j=>by simp[if_neg]⟩
 | u :: us,k,cs,h=>by
  simp only[Ej] at h;obtain⟨h1,h2⟩:=c9u off us (k+1) (cs.setIfInBounds (off+k) u) (by grind)
  (simp_all;grind)
def PR (ρ:Rn) : List (Nat×AV)->List (Nat×Value)->Prop
 | [],ps=>ps=[]
 | (i,v) :: l,ps=>∃ u ps',ps=(i,u) :: ps'/\VR ρ v u/\PR ρ l ps'
theorem b5w {place place' : Nat->Option (Nat×Nat)} (hp:∀ i r,place i=some r->place' i=some r) : ∀ {parts:List (Nat×AV)} {ps:List (Nat×Value)} {cells l:List AV} {cs:Array Value},
  PR ρ parts ps->VRs ρ cells cs.toList->a7i place cells parts=some l->∃ cs',Instr.fill place' cs ps=some cs'/\VRs ρ l cs'.toList/\cs'.size=cs.size
 | [],_,_,_,cs,hps,hc,h=>by cases hps;cases h;exact⟨cs,rfl,hc,rfl⟩
 | (i,v) :: parts,_,cells,l,cs,⟨u,ps',hps,hv,hrest⟩,hc,h=>by
  subst hps;simp only[a7i] at h;split at h
  ·rename_i off size hpl;split at h
   ·rename_i hlen;rw[a9n] at h;split at h
    ·rename_i hle;have hcv:=hv.cells;have hsz:(cellsOf v).length=size:=by grind[a0b,Nat.eq_of_beq_eq_true]
     have hul:u.cells.size=size:=by have:=hcv.length;grind
     have hcl:cs.size=cells.length:=by have:=hc.length;grind
     obtain⟨f1,f2⟩:=c9u off u.cells.toList 0 cs (by grind);have hc' : VRs ρ (cells.take off++cellsOf v++cells.drop (off+(cellsOf v).length)) ((u.cells.toList.zipIdx 0).foldl (fun cs (x:Value×Nat)=>cs.setIfInBounds (off+x.2) x.1) cs).toList:=by
      refine VRs.of_get ?_ ?_
      ·grind
      ·intro j w hj;rw[Array.getElem?_toList,f2 j];by_cases h1:j<off
       ·rw[if_neg (by omega)];rw[List.append_assoc,List.getElem?_append_left (by grind),List.getElem?_take,if_pos h1] at hj;simpa using hc.get _ hj
       ·by_cases h2:j<off+(cellsOf v).length
        ·rw[if_pos (by grind)];rw[List.append_assoc,List.getElem?_append_right (by grind),List.getElem?_append_left (by grind)] at hj;have e1:min off cells.length=off:=by omega
         simp only[List.length_take,e1] at hj;exact hcv.get _ hj
        ·rw[if_neg (by grind)];rw[List.getElem?_append_right (by grind)] at hj;have e1:min off cells.length=off:=by omega
         simp only[List.length_append,List.length_take,e1,List.getElem?_drop] at hj;have e2:off+(cellsOf v).length+(j-(off+(cellsOf v).length))=j:=by omega
         rw[e2] at hj;simpa using hc.get _ hj
     obtain⟨cs',h1,h2,h3⟩:=b5w hp hrest hc' h;refine⟨cs',?_,h2,h3.trans f1⟩;simp only[Instr.fill,hp _ _ hpl];rw[if_neg (by grind)];grind[Array.toList_zipIdx]
    grind
   grind
  grind
theorem c9v {t:TypeId} {l:List AV} (h:Cl P t=some l) (w:World) : ∃ z:Value,(zeroValue t).run P w=.ok z w/\VRs ρ l z.cells.toList:=by
 grind[Cl,VRs.lits,a2g]
section one
variable {ev:Ev} {e:Operand→Value} {o:Oper} (s:Sim B G ρ H w) (he:EvR ρ ev e)
include he in
theorem evalParts_PR:∀ {l:List (Nat×Operand)} {vs:List (Nat×AV)},Dc ev l=some vs->PR ρ vs (l.map fun (i,x)=>(i,e x))
 | [],_,h=>by cases h;rfl
 | (i,x) :: l,vs,h=>by
  simp only[Dc] at h;split at h
  ·rename_i v hv;split at h
   ·rename_i ws hw;cases h;exact⟨_,_,rfl,he _ _ hv,evalParts_PR hw⟩
   grind
  grind
include s he
theorem e1r {t:TypeId} {parts:Array (Nat×Operand)} (h:o.op=.build t parts) : RS B G P ρ H w (a4t P H t (Dc ev parts.toList)) (execOp e o):=by
 unfold a4t;split
 ·rename_i ps hps;have hpr:=evalParts_PR he hps;refine RS.ofOpt s fun v hv=>?_;unfold build at hv;split at hv
  ·rename_i zero fields hz hd;obtain⟨z,hzr,hzc⟩:=c9v (ρ:=ρ) hz w;split at hv
   ·rename_i pl hpl;unfold b1k at hv;split at hv
    ·rename_i l hl;cases hv;obtain⟨cs,h1,h2,h3⟩:=b5w (place':=fun i=>pl[i]?) (fun i r hr=>by grind[a9m]) hpr hzc hl;refine⟨.agg cs,?_,⟨_,rfl,h2⟩⟩;have hpp:=run_places (P:=P) w _ _ hpl;simp_all[Av,Instr.build,execOp,Array.mapM_eq_mapM_toList]
    grind
   grind
  ·rename_i zero n el hz hd;obtain⟨z,hzr,hzc⟩:=c9v (ρ:=ρ) hz w;split at hv
   ·rename_i j hj;unfold b1k at hv;split at hv
    ·rename_i l hl;cases hv;obtain⟨cs,h1,h2,h3⟩:=b5w (place':=fun i=>some (i*j.size,j.size)) (fun i r hr=>hr) hpr hzc hl;refine⟨.agg cs,?_,⟨_,rfl,h2⟩⟩;simp_all[Cu,Av,Instr.build,execOp]
    grind
   grind
  grind
 ·trivial
end one
end Go.Ai
end
section
namespace Go.Ai
open Go.RowKit (Below)
variable {B G:Nat} {ρ:Rn} {H:Mem} {w:World} {P:Program}
theorem a9q {t e:TypeId} {size bytes:Nat} (h:a3c P t=some (e,size,bytes)) :
  P.underlying t=some (.slice e)/\∃ i z,P.info? e=some i/\i.size=size/\i.bytes=bytes/\i.zero=some z/\z.cells.size=size:=by
 unfold a3c at h;split at h
 ·rename_i e' hd;split at h
  ·rename_i i hi;split at h
   ·rename_i z hz;split at h
    all_goals simp_all
   grind
  grind
 grind
theorem c9w (z:List AV) : ∀ (n i:Nat),(rep z n)[i]?=if i<n*z.length then z[i % z.length]? else none
 | 0,i=>by simp[rep]
 | n+1,i=>by
  simp only[rep];by_cases h:i<z.length
  ·(simp_all[g6b];grind)
  (simp_all[Nat.mod_eq_sub_mod,c9w,Em];grind)
theorem b3l (z:List AV) : ∀ n,(rep z n).length=n*z.length
 | 0=>by simp[rep]
 | n+1=>by simp[rep,b3l z n,g5o,g5m]
theorem b3m {z:List AV} {zs:Array Value} (h:VRs ρ z zs.toList) (n:Nat) : VRs ρ (rep z n) ((Array.range (n*zs.size)).map (zs[· % zs.size]!)).toList:=by
 have hl:zs.size=z.length:=by have:=h.length;grind
 refine VRs.of_get (by grind[b3l]) fun i v hi=>?_;rw[c9w] at hi;split at hi
 ·rename_i hlt;obtain⟨u,hu,hv⟩:=h.get _ hi;grind
 grind
theorem b5x {e:TypeId} {i:TypeInfo} {zv:Value} {n:Nat} {z:List AV} (hi:P.info? e=some i) (hz:i.zero=some zv) (h:a1o P e n=some z) (w:World) :
  ∃ zs:Array Value,((if n=0 then pure #[] else do pure (<- zeroValue e).cells:Sem (Array Value))).run P w=.ok zs w/\VRs ρ z zs.toList/\(n≠0->zs=zv.cells)/\(n=0->zs=#[]):=by
 unfold a1o at h;split at h
 ·rename_i hb;cases h;exact⟨#[],by simp_all,rfl,fun h0=>absurd (Dz hb) h0,fun _=>rfl⟩
 ·rename_i hb;have h0:n≠0:=by intro h0;simp_all
  unfold Cl at h;rw[hi] at h;dsimp only at h;rw[hz] at h;cases h;exact⟨zv.cells,by simp_all[a2g],VRs.lits _,fun _=>rfl,fun h1=>absurd h1 h0⟩
section one
variable {ev:Ev} {e:Operand→Value} {o:Oper} (s:Sim B G ρ H w) (he:EvR ρ ev e)
include s he
theorem e1s {t:TypeId} {len:Nat} {parts:Array (Nat×Operand)} (h:o.op=.buildSlice t len parts) : RS B G P ρ H w (a3e P H t len (Dc ev parts.toList)) (execOp e o):=by
 unfold a3e;split
 ·rename_i el size bytes ps hel hps;obtain⟨hd,i,zv,hi,rfl,rfl,hz,hzs⟩:=a9q hel;have hpr:=evalParts_PR he hps;split
  ·rename_i z hle hz0;obtain⟨zs,hzr,hzc,hze,hz1⟩:=b5x (ρ:=ρ) hi hz hz0 w;split
   ·rename_i l hl;have hrep:VRs ρ (rep z len) ((Array.range (len*i.size)).map (zs[· % zs.size]!)).toList:=by
     by_cases h0:len*i.size=0
     ·have hzn:z=[]:=by simp_all[a1o]
      subst hzn;rw[h0];have:rep [] len=[]:=by have:=b3l [] len;simp_all
      grind
     grind[b3m]
    obtain⟨cs,h1,h2,h3⟩:=b5w (place':=fun j=>some (j*i.size,i.size)) (fun _ _ hr=>hr) hpr hrep hl;have hle' : len*i.size<=1048576:=Dp hle;unfold a0j;rw[Mem.newK_eq];refine b8y s (cells:=cs) (elem:=el) 0 0 (by simp) (.inl rfl) h2 (u:=.slice (some ⟨w.heap.size,0,none⟩) len len) ?_ ⟨_,_,_,a0l _ _ _,Dm _,rfl⟩;have hnl:¬(len*i.size > 2 ^ 24):=by omega
    simp only[execOp,h,Instr.buildSlice,Sem.run_bind,Av hd,Result.andThen_ok,Cu hi];simp only[hnl,if_false];by_cases h0:len*i.size=0
    all_goals simp_all[newRow,a2g]
   ·trivial
  ·trivial
 ·trivial
theorem e1t {t:TypeId} {l c:Operand} (h:o.op=.makeSlice t l c) : RS B G P ρ H w (a2r P H t (ev l) (ev c)) (execOp e o):=by
 unfold a2r;split
 ·rename_i el size bytes n k hel hn hk;obtain⟨hd,i,zv,hi,rfl,rfl,hz,hzs⟩:=a9q hel;have num:∀ {x:Operand} {m:Nat},(ev x).bind natOf=some m->∃ kk,e x=.int kk m:=by
   intro x m hx
   cases hx' : ev x with
   | none=>grind
   | some v=>grind[a7t]
  obtain⟨k1,hn'⟩:=num hn;obtain⟨k2,hk'⟩:=num hk;split
  ·rename_i z hc hz0;simp only[Dq] at hc;have hnk:n<=k:=Dp hc.1.1;have hk20:k<=1048576:=Dp hc.1.2;have hb20:i.bytes<=1048576:=Dp hc.2;obtain⟨zs,hzr,hzc,hze,hz1⟩:=b5x (ρ:=ρ) hi hz hz0 w;have hrep:VRs ρ (rep z k) ((Array.range (k*i.size)).map (zs[· % zs.size]!)).toList:=by
    by_cases h0:k*i.size=0
    ·have hzn:z=[]:=by simp_all[a1o]
     subst hzn;rw[h0];have:rep [] k=[]:=by have:=b3l [] k;simp_all
     grind
    grind[b3m]
   unfold a0j;rw[Mem.newK_eq];refine b8y s (cells:=(Array.range (k*i.size)).map (zs[· % zs.size]!)) (elem:=el) 0 0 (by simp) (.inl rfl) hrep (u:=.slice (some ⟨w.heap.size,0,none⟩) n k) ?_ ⟨_,_,_,a0l _ _ _,hnk,rfl⟩;have w1:IntKind.i64.wrap (n:Int)=n:=b1r (by omega);have w2:IntKind.i64.wrap (k:Int)=k:=b1r (by omega);have hprod:(i.bytes:Int)*k<=2 ^ 48:=by
    have:i.bytes*k<=1099511627776:=Dw (g3w hb20 hk20) (by decide);grind
   simp only[execOp,h,Instr.makeSlice,Sem.run_bind,Av hd,Result.andThen_ok,a3r hi,hn',hk',asInt,asIntOf,Sem.run_pure,w1,w2];have c1:¬((k:Int)<0):=by omega
   have c2:¬((n:Int)<0):=by omega
   have c3:¬((n:Int) > (k:Int)):=by omega
   have c4:¬((i.bytes:Int)*k > 2 ^ 48):=by omega
   simp only[c1,c2,c3,c4,decide_false,g5h,g6o,if_false,run_askRoom,Result.andThen_ok,Sem.run_bind,Cu hi,g4f]
   (split<;>simp_all[newRow,a2g])
  ·trivial
 ·trivial
theorem e1u {t:TypeId} {r:Option Operand} (h:o.op=.makeMap t r) : RS B G P ρ H w (a3o P H ev t r) (execOp e o):=by
 have key:(execOp e o).run P w=.ok (.value (.map (some w.heap.size))) { w with heap:=w.heap.push (.map #[] 0) } ->
   RS B G P ρ H w (H.newK (.map [] 0) fun H2=>.val (.map H.next) H2) (execOp e o):=by
  intro hrun;rw[Mem.newK_eq];refine⟨upd ρ H.next (w.heap.size,0,0),_,_,hrun,Ext.alloc ρ _ _ w _ _ rfl rfl rfl rfl s.base,?_,⟨_,_,_,a0l _ _ _,rfl⟩,Dx _⟩;exact s.alloc _ _ 0 _ rfl ⟨#[],by simp,rfl,s.base⟩
 unfold a3o;split
 ·simp_all[Instr.makeMap,execOp]
 ·rename_i x;split
  ·rename_i k v kk n hd hv;have hu:=he _ _ hv;simp_all[VR,asIntOf,asInt,Av,Instr.makeMap,execOp]
  ·trivial
theorem e1v {t:TypeId} {x:Operand} (h:o.op=.range t x) : RS B G P ρ H w (b5i P H t (ev x)) (execOp e o):=by
 unfold b5i;split
 ·rename_i str hd hv;have hu:=he _ _ hv;simp only[VR] at hu;rw[Mem.newK_eq];refine⟨upd ρ H.next (w.heap.size,0,0),.pointer (some ⟨w.heap.size,0,none⟩),{ w with heap:=w.heap.push (.stringIter str 0) },?_,Ext.alloc ρ _ _ w _ _ rfl rfl rfl rfl s.base,?_,⟨_,_,_,a0l _ _ _,rfl⟩,Dx _⟩
  ·simp_all[Av,Instr.range,execOp]
  ·exact s.alloc _ _ 0 _ rfl ⟨by simp,s.base,rfl⟩
 ·trivial
end one
end Go.Ai
end
section
namespace Go.Ai
open Go.RowKit (Below)
variable {B G:Nat} {ρ:Rn} {H:Mem} {w:World} {P:Program}
variable {c:Call} {args:List AV}
theorem VRs.one {v:AV} {us:List Value} (h:VRs ρ [v] us) : ∃ u,us=[u]/\VR ρ v u:=by
 obtain⟨u,us',e,hv,hn⟩:=h;cases hn;grind
theorem VRs.two {v v': AV} {us:List Value} (h:VRs ρ [v,v'] us) : ∃ u u',us=[u,u']/\VR ρ v u/\VR ρ v' u':=by
 obtain⟨u,us',e,hv,hn⟩:=h;obtain⟨u',e',hv'⟩:=hn.one;grind
theorem a7u {e:Operand->Value} {o:Oper} {b:Builtin} (h:o.op=.call c) (hc:c.callee=.builtin b) :
  execOp e o=builtin b c.argTypes o.type (c.args.map fun|.const _=>true|_=>false) (c.args.map e):=by
 simp only[execOp,h,resolve,hc];rfl
section one
variable {ev:Ev} {e:Operand→Value} {o:Oper} (s:Sim B G ρ H w) (he:EvR ρ ev e)
include s
theorem e1w {it:Operand} (he:EvR ρ ev e) (h:o.op=.next it true) : RS B G P ρ H w (b5j H (ev it)) (execOp e o):=by
 unfold b5j;split
 ·rename_i a hv;obtain⟨b,q,k,hr,hu⟩:=he _ _ hv;split
  ·rename_i str pos hx;obtain⟨hb,hB,rfl⟩:=s.at hx hr;split
   ·rename_i hlt;have hlt' : pos<str.size:=by simp_all
    unfold c8h;rw[Mem.setK_eq];refine⟨ρ,.tuple #[.bool true,goInt pos,.int .i32 (Utf8.decode str pos).1],{ w with heap:=w.heap.setIfInBounds b (.stringIter str (pos+(Utf8.decode str pos).2)) },?_,⟨fun _ _=>rfl,KD.turn hb rfl (fun j hj=>by grind),rfl,rfl,rfl,by simp,fun j hj=>by grind⟩,?_,?_,Dm _⟩
    ·simp[execOp,h,Instr.next,hu,getObj,setObj,Sem.run,hb,hlt']
    ·have hlt2:b<w.heap.size:=(g3x.1 hb).1;refine s.set hx hr rfl rfl (by simp) (fun j hj _=>by grind) ⟨by grind,hB,rfl⟩
    ·exact⟨_,rfl,_,_,rfl,rfl,_,_,rfl,rfl,_,_,rfl,rfl,rfl⟩
   ·rename_i hlt;have hlt' : ¬ pos<str.size:=fun h0=>by
     have:Nat.blt pos str.size=true:=g6d.symm ▸ (show pos+1<=str.size from h0);grind
    refine RS.quiet s (u:=.tuple #[.bool false]) ?_ ⟨_,rfl,_,_,rfl,rfl,rfl⟩;simp[execOp,h,Instr.next,hu,getObj,Sem.run,hb,hlt']
  ·trivial
 ·trivial
omit s in
theorem e1x {c:Call} (h:o.op=.call c) : ∀ cs b,o.op≠.select cs b:=by grind
theorem e1y (h:o.op=.call c) (hc:c.callee=.builtin .len) (ha:VRs ρ args (c.args.map e).toList) : RS B G P ρ H w (a4r P H c args) (execOp e o):=by
 rw[a7u h hc];have hrun:∀ {n:Nat},(Builtin.len_ c.argTypes o.type (c.args.map e)).run P w=.ok (goInt n) w ->
   (builtin .len c.argTypes o.type (c.args.map fun|.const _=>true|_=>false) (c.args.map e)).run P w=.ok (.value (goInt n)) w:=fun {n} h=>by
  simp[builtin,h]
 have a0:∀ {u:Value},(c.args.map e).toList=[u]->(c.args.map e)[0]?=some u:=fun {u} h=>by
  rw[<- g5s,h];rfl
 have t0:∀ {d:TypeDesc},(c.argTypes[0]?).bind P.underlying=some d->∃ t,c.argTypes[0]?=some t/\P.underlying t=some d:=fun {d} h=>by
  grind
 unfold a4r;split
 ·rename_i a off n cap el hd;obtain⟨u,hu,b,q,k,hr,hle,rfl⟩:=ha.one;obtain⟨t,ht,htd⟩:=t0 hd;exact RS.quiet s (hrun (n:=n) (by simp[Builtin.len_,ht,a0 hu,Av htd])) rfl
 ·rename_i a off n d el hd;obtain⟨u,hu,b,q,k,hr,hle,rfl⟩:=ha.one;obtain⟨t,ht,htd⟩:=t0 hd;exact RS.quiet s (hrun (n:=n) (by simp[Builtin.len_,ht,a0 hu,Av htd])) rfl
 ·rename_i el hd;obtain⟨u,hu,b,q,rfl⟩:=ha.one;obtain⟨t,ht,htd⟩:=t0 hd;exact RS.quiet s (hrun (n:=0) (by simp[Builtin.len_,ht,a0 hu,Av htd])) rfl
 ·rename_i a k el hd;obtain⟨u,hu,b,q,kk,hr,rfl⟩:=ha.one;obtain⟨t,ht,htd⟩:=t0 hd;split
  ·rename_i es clock hx;obtain⟨es',hb,her,hB⟩:=s.at hx hr;have hlen:∀ {l:List (AV×AV×Nat)} {m:List MapEntry},ER ρ l m->m.length=l.length:=by
    intro l
    induction l with
    | nil=>intro m h;cases h;rfl
    | cons x l ih=>intro m h;obtain⟨y,m',e,_,_,_,h'⟩:=h;grind
   have:=hlen her;refine RS.quiet s (hrun (n:=es.length) ?_) rfl;have e2:es'.size=es.length:=by grind
   simp[Builtin.len_,ht,a0 hu,Av htd,getObj,Sem.run,hb,e2]
  ·trivial
 ·rename_i str hd;obtain⟨u,hu,rfl⟩:=ha.one;obtain⟨t,ht,htd⟩:=t0 hd;exact RS.quiet s (hrun (n:=str.size) (by simp[Builtin.len_,ht,a0 hu,Av htd])) rfl
 ·trivial
theorem e1z (he:EvR ρ ev e) (h:o.op=.call c) (hc:c.callee=.builtin .len) (ha:VRs ρ args (c.args.map e).toList) : RS B G P ρ H w (a5q P H ev o c args) (execOp e o):=by
 grind[a5q,b1q,e1y]
theorem e2a (he:EvR ρ ev e) (h:o.op=.call c) (hc:c.callee=.builtin .cap) (ha:VRs ρ args (c.args.map e).toList) : RS B G P ρ H w (a9h P H ev o c args) (execOp e o):=by
 unfold a9h;split
 ·rename_i r hr;obtain⟨u,h1,h2⟩:=a9o (P:=P) (w:=w) (e1x h) he hr;grind[RS.quiet]
 ·split
  ·rename_i a off n cap el hd;obtain⟨u,hu,b,q,k,hr,hle,rfl⟩:=ha.one
   cases ht:c.argTypes[0]? with
   | none=>grind
   | some t =>
    rw[ht] at hd;have a0:(c.args.map e)[0]?=some (.slice (some ⟨b,q+off,none⟩) n cap):=by rw[<- g5s,hu];rfl
    rw[a7u h hc];exact RS.quiet s (u:=goInt cap) (by simp[builtin,Builtin.cap_,ht,a0,Av (show P.underlying t=some (.slice el) from hd)]) rfl
  ·trivial
end one
end Go.Ai
end
section
namespace Go.Ai
open Go.RowKit (Below)
variable {B G:Nat} {ρ:Rn} {H:Mem} {w:World} {P:Program}
theorem b9b {x:AV} {n:Nat} {u:Value} (h:lenOf x=some n) (hv:VR ρ x u) (w:World) : (Builtin.lenOf u).run P w=.ok n w:=by
 unfold lenOf at h;split at h
 ·obtain⟨_,_,_,_,_,rfl⟩:=hv;cases h;rfl
 ·obtain⟨_,_,_,_,_,rfl⟩:=hv;cases h;rfl
 ·obtain⟨_,_,rfl⟩:=hv;cases h;rfl
 ·cases hv;cases h;rfl
 ·cases hv;cases h;rfl
 grind
theorem c3a {x:AV} {size n:Nat} {l:List AV} {u:Value} (s:Sim B G ρ H w) (h:Cx H size n x=some l) (hv:VR ρ x u) :
  ∃ cs:Array Value,(∀ w',w'.heap=w.heap->(Builtin.firstCells size n u).run P w'=.ok cs w')/\VRs ρ l cs.toList:=by
 unfold Cx at h;have key:∀ {a off b q k:Nat} {l0:List AV} {own:Bool} {z:Nat} (m c:Nat),H.get a=some (.cells l0 own z)->ρ a=some (b,q,k)->a9d l0 (n*size) off none some=some l ->
   ∃ cs:Array Value,(∀ w',w'.heap=w.heap->(Builtin.firstCells size n (.slice (some ⟨b,q+off,none⟩) m c)).run P w'=.ok cs w')/\VRs ρ l cs.toList:=by
  intro a off b q k l0 own z m c hx hr hs;rw[a6p] at hs;split at hs
  ·rename_i hle;cases hs;obtain⟨us,hlen,hus,hcell⟩:=(s.at hx hr).sub hle;refine⟨us.toArray,fun w' hw'=>?_,by grind⟩;grind[Builtin.firstCells,b8x,World.cell?]
  grind
 split at h
 ·obtain⟨b,q,k,hr,hle,rfl⟩:=hv;split at h
  ·rename_i hx;exact key _ _ hx hr h
  grind
 ·obtain⟨b,q,k,hr,hle,rfl⟩:=hv;split at h
  ·rename_i hx;exact key _ _ hx hr h
  grind
 ·obtain⟨ad,c,rfl⟩:=hv;split at h
  ·rename_i h0;subst h0;cases h;exact⟨#[],fun w' _=>by simp[Builtin.firstCells,loadCells,loadCellsFrom],rfl⟩
  grind
 ·cases hv;cases h;exact⟨#[],fun w' _=>rfl,rfl⟩
 ·cases hv;cases h;rename_i str;refine⟨(str.extract 0 n).data.map fun b=>.int .u8 b.toNat,fun w' _=>rfl,?_⟩;have:=VRs.lits (ρ:=ρ) ((str.extract 0 n).data.toList.map fun b=>(.int .u8 b.toNat:Value));simp_all[Function.comp_def]
 grind
theorem c9x (newLen:Nat) : ∀ (r c:Nat),Builtin.growBy newLen r c<=2 ^ r*(c+768)
 | 0,c=>by simp[Builtin.growBy]
 | r+1,c=>by
  simp only[Builtin.growBy];split
  ·exact Dw (g5f c 768) (Nat.le_mul_of_pos_left _ (Nat.two_pow_pos _))
  ·have h1:=c9x newLen r (c+(c+768) / 4);have h2:c+(c+768) / 4+768<=2*(c+768):=by omega
   have h3:=g3w (Dm (2 ^ r)) h2;grind
theorem c9y {need cap:Nat} (h1:need<=1048576) (h2:cap<=1048576) : Builtin.nextslicecap need cap<=33554432:=by
 unfold Builtin.nextslicecap;split
 ·omega
 ·split
  ·omega
  ·have h4:=c9x need 4 cap;grind
variable {argTypes:Array TypeId} {args:Array Value} {ty sT xT el:TypeId} {dx:TypeDesc} {i:TypeInfo} {base:Option Addr} {sLen sCap n:Nat} {x:Value} {new old:Array Value}
theorem c9z (ht:argTypes[0]?=some sT) (hx:argTypes[1]?=some xT) (hd:P.underlying sT=some (.slice el)) (hxd:P.underlying xT=some dx) (hni:∀ k,dx≠.int k)
  (hi:P.info? el=some i) (ha0:args[0]?=some (.slice base sLen sCap)) (ha1:args[1]?=some x) (hn:(Builtin.lenOf x).run P w=.ok n w) (hle:sLen+n<=sCap)
  (hf:(Builtin.firstCells i.size n x).run P w=.ok new w) :
  (Builtin.append_ argTypes ty args).run P w =
   ((match base with|some a=>storeCells (a.add (sLen*i.size)) new.toList|none=>pure ()).run P w).andThen fun _ w'=>.ok (.slice base (sLen+n) sCap) w':=by
 cases base with
 | none=>simp[Builtin.append_,ht,hx,ha0,ha1,Av hd,Av hxd,Cu hi,hn,hle,hf]
 | some a=>simp[Builtin.append_,ht,hx,ha0,ha1,Av hd,Av hxd,Cu hi,hn,hle,hf]
theorem run_append_grow {zv:Value} (ht:argTypes[0]?=some sT) (hx:argTypes[1]?=some xT) (hd:P.underlying sT=some (.slice el)) (hxd:P.underlying xT=some dx) (hni:∀ k,dx≠.int k)
  (hi:P.info? el=some i) (hz:i.zero=some zv) (ha0:args[0]?=some (.slice base sLen sCap)) (ha1:args[1]?=some x) (hn:(Builtin.lenOf x).run P w=.ok n w) (hgt:sCap<sLen+n)
  (hsm:small (sLen+n) sCap i.bytes=true)
  (ho:(Builtin.firstCells i.size sLen (.slice base sLen sCap)).run P w.drew=.ok old w.drew)
  (hf:(Builtin.firstCells i.size n x).run P w.drew=.ok new w.drew) :
  ∃ cap,sLen+n<=cap/\(Builtin.append_ argTypes ty args).run P w =
   .ok (.slice (some ⟨w.heap.size,0,none⟩) (sLen+n) cap) (w.drew.alloc (.cells (old++(new++Builtin.zeroCells zv.cells (cap-(sLen+n)))) el)):=by
 simp only[small,Dq,decide_eq_true_eq] at hsm;obtain⟨⟨h1,h2⟩,h3⟩:=hsm;have hle:¬(sLen+n<=sCap):=by omega
 have hcap:¬(281474976710656<Builtin.nextslicecap (sLen+n) sCap*i.bytes):=by
  have h5:=g3w (c9y h1 h2) h3;grind
 refine⟨(Question.appendCap (sLen+n) sCap el).cut (w.tape w.drawn (.appendCap (sLen+n) sCap el)),by simp[Question.cut],?_⟩;simp[Builtin.append_,ht,hx,ha0,ha1,Av hd,Av hxd,Cu hi,hn,hle,a3r hi,hcap,Question.forced,ho,hf,a2g hi hz,newRow];grind
section zeros
variable {k k' : IntKind} {zv:Value}
theorem d0a {n b:Nat} (h1:n<=1048576) (h2:b<=1048576) : ¬((n:Int)*(b:Int) > 281474976710656):=by
 have h3:n*b<=1099511627776:=Dw (g3w h1 h2) (by decide);grind
theorem c3b {n:Nat} (h:n<=1048576) : IntKind.i64.wrap (n:Int)=n:=b1r (by omega)
theorem e2b (ht:argTypes[0]?=some sT) (hx:argTypes[1]?=some xT) (hd:P.underlying sT=some (.slice el)) (hxd:P.underlying xT=some (.int k))
  (hi:P.info? el=some i) (ha0:args[0]?=some (.slice base sLen sCap)) (ha1:args[1]?=some (.int k' 0)) (hle:sLen<=sCap) :
  (Builtin.append_ argTypes ty args).run P w=.ok (.slice base sLen sCap) w:=by
 have w0:IntKind.i64.wrap 0=0:=c3b (n:=0) (by omega)
 cases base with
 | none=>simp[Builtin.append_,ht,hx,ha0,ha1,Av hd,Av hxd,Cu hi,a3r hi,asInt,asIntOf,w0,hle]
 | some a=>simp[Builtin.append_,ht,hx,ha0,ha1,Av hd,Av hxd,Cu hi,a3r hi,asInt,asIntOf,w0,hle,storeCells]
theorem e2c (ht:argTypes[0]?=some sT) (hx:argTypes[1]?=some xT) (hd:P.underlying sT=some (.slice el)) (hxd:P.underlying xT=some (.int k))
  (hi:P.info? el=some i) (hz:i.zero=some zv) (ha0:args[0]?=some (.slice base sLen sCap)) (ha1:args[1]?=some (.int k' n)) (hn:n<=1048576) (hb:i.bytes<=1048576) (hns:n*i.size≠0) (hle:sLen+n<=sCap) :
  (Builtin.append_ argTypes ty args).run P w =
   ((match base with|some a=>storeCells (a.add (sLen*i.size)) (Builtin.zeroCells zv.cells n).toList|none=>pure ()).run P w).andThen fun _ w'=>.ok (.slice base (sLen+n) sCap) w':=by
 have w1:=c3b hn;have c1:¬((n:Int)<0):=by omega
 have c2:=d0a hn hb;have c3:¬(281474976710656<(n:Int)*(i.bytes:Int)):=c2
 cases base with
 | none=>simp[Builtin.append_,ht,hx,ha0,ha1,Av hd,Av hxd,Cu hi,a3r hi,asInt,asIntOf,w1,c1,c3,hle,hns,a2g hi hz]
 | some a=>simp[Builtin.append_,ht,hx,ha0,ha1,Av hd,Av hxd,Cu hi,a3r hi,asInt,asIntOf,w1,c1,c3,hle,hns,a2g hi hz]
theorem e2d (ht:argTypes[0]?=some sT) (hx:argTypes[1]?=some xT) (hd:P.underlying sT=some (.slice el)) (hxd:P.underlying xT=some (.int k))
  (hi:P.info? el=some i) (hz:i.zero=some zv) (ha0:args[0]?=some (.slice base sLen sCap)) (ha1:args[1]?=some (.int k' n)) (hn:n<=1048576) (hns:n*i.size≠0) (hgt:sCap<sLen+n)
  (hsm:small (sLen+n) sCap i.bytes=true)
  (ho:(Builtin.firstCells i.size sLen (.slice base sLen sCap)).run P w.drew=.ok old w.drew) :
  ∃ cap,sLen+n<=cap/\(Builtin.append_ argTypes ty args).run P w =
   .ok (.slice (some ⟨w.heap.size,0,none⟩) (sLen+n) cap) (w.drew.alloc (.cells (old++(Builtin.zeroCells zv.cells n++Builtin.zeroCells zv.cells (cap-(sLen+n)))) el)):=by
 simp only[small,Dq,decide_eq_true_eq] at hsm;obtain⟨⟨h1,h2⟩,h3⟩:=hsm;have hle:¬(sLen+n<=sCap):=by omega
 have hcap:¬(281474976710656<Builtin.nextslicecap (sLen+n) sCap*i.bytes):=by
  have h5:=g3w (c9y h1 h2) h3;grind
 have w1:=c3b hn;have c1:¬((n:Int)<0):=by omega
 have c3:¬(281474976710656<(n:Int)*(i.bytes:Int)):=d0a hn h3;refine⟨(Question.appendCap (sLen+n) sCap el).cut (w.tape w.drawn (.appendCap (sLen+n) sCap el)),by simp[Question.cut],?_⟩;simp[Builtin.append_,ht,hx,ha0,ha1,Av hd,Av hxd,Cu hi,hle,a3r hi,hcap,Question.forced,ho,a2g hi hz,newRow,asInt,asIntOf,w1,c1,c3,hns];grind
end zeros
end Go.Ai
end
section
namespace Go.Ai
open Go.RowKit (Below)
variable {B G:Nat} {ρ:Rn} {H:Mem} {w:World} {P:Program}
def VS (B G:Nat) (P:Program) (ρ:Rn) (H:Mem) (w:World) (r:Option (AV×Mem)) (m:Sem Value) : Prop :=
 ∀ v H',r=some (v,H')->∃ ρ' u w',m.run P w=.ok u w'/\Ext B H.next ρ w ρ' w'/\Sim B G ρ' H' w'/\VR ρ' v u/\H.next<=H'.next
theorem b9c {v:AV} {u:Value} {m:Sem Value} (s:Sim B G ρ H w) (h:m.run P w=.ok u w) (hv:VR ρ v u) : VS B G P ρ H w (some (v,H)) m:=by
 intro v' H' e;cases e;exact⟨ρ,u,w,h,Ext.refl _ _ _ _,s,hv,Dm _⟩
theorem Cc {m:Sem Value} : VS B G P ρ H w none m:=fun _ _ e=>by cases e
theorem c3c {l:List AV} {cells:Array Value} {el:TypeId} {m:Sem Value} {n size cap:Nat} (s:Sim B G ρ H w) (hn:n<=cap) (hc:VRs ρ l cells.toList) (rest:Array Value)
  (hl:l.length=n*size) (hrest:rest.size=(cap-n)*size)
  (hrun:m.run P w=.ok (.slice (some ⟨w.heap.size,0,none⟩) n cap) (w.drew.alloc (.cells (cells++rest) el))) : VS B G P ρ H w (a5p H l n size) m:=by
 unfold a5p;rw[Mem.newK_eq];intro v H' e;cases e;have hcl:cells.size=n*size:=by have:=hc.length;grind
 have hcap:n*size+(cap-n)*size=cap*size:=by rw[<- g4y];grind
 refine⟨upd ρ H.next (w.heap.size,0,cap),_,_,hrun,Ext.alloc ρ _ _ w _ (.cells (cells++rest) el) rfl rfl rfl rfl s.base,?_,⟨_,_,_,a0l _ _ _,by omega,rfl⟩,Dx _⟩;refine s.alloc _ (.cells (cells++rest) el) cap _ rfl ⟨cells++rest,el,(0,0),c9e w _ _ rfl,?_,fun _=>⟨s.base,by simp,?_,?_⟩⟩
 ·intro i v hi;obtain⟨u,hu,hv⟩:=hc.get i hi;have hlt:i<cells.size:=by
   grind
  exact⟨u,by grind,hv.mono (a6q s.none)⟩
 all_goals grind
theorem Sim.drew (s:Sim B G ρ H w) : Sim B G ρ H w.drew:=s.heap rfl
theorem c3d (z:Array Value) (n:Nat) : (Builtin.zeroCells z n).size=n*z.size:=by simp[Builtin.zeroCells]
theorem b5y {a:Nat} {l new:List AV} {z off b q k:Nat} {vs:List Value} {v:AV} {u:Value} {m:Sem Value} (s:Sim B G ρ H w) (ha:H.get a=some (.cells l true z)) (hr:ρ a=some (b,q,k))
  (hv:VRs ρ new vs) (hvr:VR ρ v u) (hrun:∀ w',(storeCells ⟨b,q+off,none⟩ vs).run P w=.ok () w'->m.run P w=.ok u w') : VS B G P ρ H w (a7m H a l z off new v) m:=by
 unfold Go.Ai.a7m;split
 ·rename_i hall;rw[a9n];split
  ·rename_i hle;rw[Mem.setK_eq];intro v' H' e;cases e;obtain⟨w',h1,h2,h3⟩:=c9j (P:=P) s ha hr hle hv (allOne_VRs hv hall);exact⟨ρ,u,w',hrun w' h1,h2,h3,hvr,Dm _⟩
  simp[Cc]
 simp[Cc]
section app
variable {argTypes:Array TypeId} {args:Array Value} {ty sT xT el:TypeId} {dx:TypeDesc} {i:TypeInfo} {zv:Value} {n:Nat} {x:AV} {xu su:Value} {st:AV} {new:List AV}
 (ht:argTypes[0]?=some sT) (hx:argTypes[1]?=some xT) (hd:P.underlying sT=some (.slice el)) (hxd:P.underlying xT=some dx) (hni:∀ k,dx≠.int k)
 (hi:P.info? el=some i) (hz:i.zero=some zv) (hzs:zv.cells.size=i.size) (ha0:args[0]?=some su) (ha1:args[1]?=some xu)
include ht hx hd hxd hni hi hz hzs ha0 ha1
omit ht hx hd hxd hni hi ha0 ha1 hz in
theorem d0b {cs:Array Value} (s:Sim B G ρ H w) (hsv:VR ρ st su) (hn0:n≠0) (hs0:i.size≠0) (hcs:VRs ρ new cs.toList)
  (hin:∀ {base:Option Addr} {sLen sCap:Nat},su=.slice base sLen sCap->sLen+n<=sCap->(Builtin.append_ argTypes ty args).run P w =
   ((match base with|some a=>storeCells (a.add (sLen*i.size)) cs.toList|none=>pure ()).run P w).andThen fun _ w'=>.ok (.slice base (sLen+n) sCap) w')
  (hgrow:∀ {base:Option Addr} {sLen sCap:Nat} {old:Array Value},su=.slice base sLen sCap->sCap<sLen+n->small (sLen+n) sCap i.bytes=true ->
   (Builtin.firstCells i.size sLen (.slice base sLen sCap)).run P w.drew=.ok old w.drew->∃ cap,sLen+n<=cap/\(Builtin.append_ argTypes ty args).run P w =
   .ok (.slice (some ⟨w.heap.size,0,none⟩) (sLen+n) cap) (w.drew.alloc (.cells (old++(cs++Builtin.zeroCells zv.cells (cap-(sLen+n)))) el))) :
  VS B G P ρ H w (a1c H i.size i.bytes n st new) (Builtin.append_ argTypes ty args):=by
 unfold a1c;split
 ·rename_i hl;have hl' : new.length=n*i.size:=by grind[a0b,Nat.eq_of_beq_eq_true]
  split
  ·
   cases hsv;unfold b8l;split
   ·rename_i hsm;obtain⟨cap,hcap,hrun⟩:=hgrow rfl (by omega) (by grind) (old:=#[]) rfl;simp only[Nat.zero_add] at hrun hcap;grind[c3d,c3c]
   simp[Cc]
  ·
   rename_i a off k cap;obtain⟨b,q,kk,hr,hle,rfl⟩:=hsv;unfold b5d;split
   ·rename_i hfit;have hfit' : k+n<=cap:=Nat.le_of_ble_eq_true hfit;split
    ·rename_i l z hb;refine b5y s hb hr hcs ⟨b,q,kk,hr,hfit',rfl⟩ fun w' hw'=>?_;rw[hin rfl hfit'];simp_all[a3g,Nat.add_assoc]
    simp[Cc]
   ·rename_i hfit;have hfit' : cap<k+n:=Nat.not_le.1 fun h0=>by
     grind[Nat.ble_eq]
    split
    ·rename_i l own z hb hsm;rw[a6p];split
     ·rename_i hle2;rw[b5r];obtain⟨us,hul,hus,hcell⟩:=(s.at hb hr).sub hle2;have hold:(Builtin.firstCells i.size k (.slice (some ⟨b,q+off,none⟩) k cap)).run P w.drew=.ok us.toArray w.drew:=by
       rw[Builtin.firstCells,<- hul];exact b8x us fun j v hj=>hcell j v hj
      obtain⟨cap',hcap,hrun⟩:=hgrow rfl hfit' hsm hold;refine c3c (el:=el) s hcap (cells:=us.toArray++cs) (by simpa using hus.append hcs) (Builtin.zeroCells zv.cells (cap' - (k+n))) ?_ (by grind[c3d]) ?_
      all_goals grind
     simp[Cc]
    simp[Cc]
  ·
   rename_i a off k d;obtain⟨b,q,K,hr,hle,rfl⟩:=hsv;unfold b8m;split
   ·rename_i l z hb;have hBR:=s.at hb hr;obtain⟨c,e,fz,hbb,hcc,hown⟩:=hBR;obtain⟨hB,hfr,hK,hKl⟩:=hown rfl;split
    ·rename_i h1 h2;simp only[Bool.and_eq_true] at h1;have hz1:z=i.size:=Nat.eq_of_beq_eq_true h1.1;have hoff:off=d*i.size:=Nat.eq_of_beq_eq_true h1.2;have hvis:off+(k+n)*i.size<=l.length:=by simp_all[a0b]
     have hfit:k+n<=K-d:=by
      rcases hKl with h0|h0
      ·omega
      ·rw[hz1] at h0;have:(d+(k+n))*i.size<=K*i.size:=by grind
       have:=Nat.le_of_mul_le_mul_right this (by omega);omega
     refine b5y s hb hr hcs ⟨b,q,K,hr,by omega,rfl⟩ fun w' hw'=>?_;rw[hin rfl hfit];simp_all[a3g,Nat.add_assoc]
    ·rename_i h1 h2 h3;simp only[Bool.and_eq_true] at h1 h3;have hz1:z=i.size:=Nat.eq_of_beq_eq_true h1.1;have hoff:off=d*i.size:=Nat.eq_of_beq_eq_true h1.2;have hend:off+k*i.size=l.length:=by grind[a0b,Nat.eq_of_beq_eq_true]
     have hsm:=h3.1.2;have hone:=allOne_VRs hcs h3.2;rw[a6p];split
     ·rename_i hle2;rw[b5r,Mem.delK_eq];obtain⟨us,hul,hus,hcell⟩:=(s.at hb hr).sub hle2;by_cases hfit:k+n<=K-d
      ·
       have hsz:q+off+k*i.size+cs.toList.length<=c.size:=by
        have e1:cs.toList.length=n*i.size:=by have:=hcs.length;omega
        have e2:(d+(k+n))*i.size<=K*i.size:=Nat.mul_le_mul_right _ (by omega);grind
       obtain⟨w',c',hst,hb',hcz,hcells,hoth,hws,g2,g3,g4⟩:=c2x (P:=P) b (q+off+k*i.size) e fz cs.toList 0 c w hbb hfr (by omega) hone;unfold a5p;rw[Mem.newK_eq];intro v H' e0;cases e0;have srm:=s.rm a;have hext:Ext B H.next ρ w (upd ρ H.next (b,q+off,K-d)) w':=⟨fun j hj=>a0c _ _ (by omega),KD.turn hbb rfl (fun j hj=>hoth j hj),g2,g3,g4,by omega,fun j hj=>hoth j (by omega)⟩;refine⟨upd ρ H.next (b,q+off,K-d),.slice (some ⟨b,q+off,none⟩) (k+n) (K-d),w',?_,hext,?_,⟨_,_,_,a0l _ _ _,by omega,by simp⟩,Nat.le_succ _⟩
       ·rw[hin rfl hfit];simp_all[a3g]
       ·refine srm.add (by omega) ?_ ⟨c',e,fz,hb',?_,fun _=>⟨hB,by grind,?_,?_⟩⟩
        ·intro j y b1 o1 k1 hy hrj;obtain⟨hne,hy⟩:=Mem.get_rm hy;have hbne:b1≠b:=by
          rintro rfl;exact s.inj a j _ y b1 q K o1 k1 hb hy (Ne.symm hne) rfl hr hrj
         grind
        ·intro j v hj;have hlo:((l.drop off).take (k*i.size)).length=k*i.size:=by grind
         have hsub:=a6q (x:=(b,q+off,K-d)) s.none;by_cases hj1:j<k*i.size
         ·rw[List.getElem?_append_left (by omega)] at hj;rw[List.getElem?_take,if_pos hj1,List.getElem?_drop] at hj;obtain⟨u,hu,huv⟩:=hcc _ _ hj;refine⟨u,?_,huv.mono hsub⟩;grind
         ·rw[List.getElem?_append_right (by omega),hlo] at hj;obtain⟨u,hu,huv⟩:=hcs.get _ hj;have hjlt:=(List.getElem?_eq_some_iff.1 hu).1;refine⟨u,?_,huv.mono hsub⟩;grind
        ·rw[hcz];have e2:(K-d)*i.size+d*i.size=K*i.size:=by rw[<- Nat.add_mul];grind
         grind
        ·right;have e2:(k+n)*i.size<=(K-d)*i.size:=Nat.mul_le_mul_right _ hfit;grind
      ·have hfit' : K-d<k+n:=by omega
       have hold:(Builtin.firstCells i.size k (.slice (some ⟨b,q+off,none⟩) k (K-d))).run P w.drew=.ok us.toArray w.drew:=by
        rw[Builtin.firstCells,<- hul];exact b8x us fun j v hj=>hcell j v hj
       have hsm' : small (k+n) (K-d) i.bytes=true:=by
        simp only[small,Bool.and_eq_true,decide_eq_true_eq] at hsm |-;omega
       obtain⟨cap',hcap,hrun⟩:=hgrow rfl hfit' hsm' hold;refine c3c (el:=el) (H:=H.rm a) (s.rm a) hcap (cells:=us.toArray++cs) (by simpa using hus.append hcs) (Builtin.zeroCells zv.cells (cap' - (k+n))) ?_ (by grind[c3d]) ?_
       all_goals grind
     grind
    simp[Cc]
   simp[Cc]
  simp[Cc]
 simp[Cc]
theorem e2e (s:Sim B G ρ H w) (hsv:VR ρ st su) (hxv:VR ρ x xu) (hn:lenOf x=some n) (hn0:n≠0) (hs0:i.size≠0) (hf:Cx H i.size n x=some new) :
  VS B G P ρ H w (a1c H i.size i.bytes n st new) (Builtin.append_ argTypes ty args):=by
 obtain⟨cs,hfc,hcs⟩:=c3a (P:=P) s hf hxv;have hlen:=b9b (P:=P) hn hxv w;exact d0b (el:=el) hzs s hsv hn0 hs0 hcs
  (fun e hfit=>c9z (P:=P) (w:=w) (ty:=ty) ht hx hd hxd hni hi (by grind) ha1 hlen hfit (hfc w rfl))
  (fun e hgt hsm hold=>run_append_grow (P:=P) (w:=w) (ty:=ty) ht hx hd hxd hni hi hz (by grind) ha1 hlen hgt hsm hold (hfc _ rfl))
end app
end Go.Ai
end
section
namespace Go.Ai
open Go.RowKit (Below)
variable {B G:Nat} {ρ:Rn} {H:Mem} {w:World} {P:Program}
variable {x:AV} {argTypes:Array TypeId} {args:Array Value} {ty:TypeId}
theorem c3e {v:AV} {u:Value} (h:isSlice v=true) (hv:VR ρ v u) : ∃ base n c,u=.slice base n c/\n<=c:=by
 unfold isSlice at h;split at h
 ·obtain⟨_,_,_,_,hle,rfl⟩:=hv;grind
 ·obtain⟨_,_,_,_,hle,rfl⟩:=hv;grind
 ·cases hv;grind
 grind
theorem e2f {u:Value} {size:Nat} (h:lenOf x=some 0) (hv:VR ρ x u) (w:World) : (Builtin.firstCells size 0 u).run P w=.ok #[] w:=by
 unfold lenOf at h;split at h
 ·obtain⟨_,_,_,_,_,rfl⟩:=hv;simp[Builtin.firstCells,loadCells,loadCellsFrom]
 ·obtain⟨_,_,_,_,_,rfl⟩:=hv;simp[Builtin.firstCells,loadCells,loadCellsFrom]
 ·obtain⟨_,_,rfl⟩:=hv;simp[Builtin.firstCells,loadCells,loadCellsFrom]
 ·cases hv;rfl
 ·rename_i str;cases hv;simp[Builtin.firstCells]
 grind
theorem e2g {argTypes:Array TypeId} {args:Array Value} {ty sT:TypeId} {st x:AV} {su xu:Value} (s:Sim B G ρ H w) (ht:argTypes[0]?=some sT)
  (ha0:args[0]?=some su) (ha1:args[1]?=some xu) (hsv:VR ρ st su) (hxv:VR ρ x xu) :
  VS B G P ρ H w (append P H sT argTypes[1]? st x) (Builtin.append_ argTypes ty args):=by
 unfold append;split
 ·rename_i el size bytes hel happ;obtain⟨hd,i,zv,hi,rfl,rfl,hz,hzs⟩:=a9q hel;unfold b8n at happ
  cases hx:argTypes[1]? with
  | none=>grind
  | some xT =>
   rw[hx] at happ;have hdx:∃ dx,P.underlying xT=some dx/\∀ k,dx≠.int k:=by
    grind
   obtain⟨dx,hxd,hni⟩:=hdx;unfold a2d;split
   ·rename_i hn;split
    ·rename_i hsl;obtain⟨base,n,c,rfl,hle⟩:=c3e hsl hsv;refine b9c s ?_ hsv;rw[c9z (P:=P) (w:=w) (ty:=ty) ht hx hd hxd hni hi ha0 ha1 (b9b hn hxv w) (by omega) (e2f hn hxv w)]
     (split<;>rfl)
    simp[Cc]
   ·rename_i n hn0 hn;split
    ·rename_i new hs0 hf;refine e2e ht hx hd hxd hni hi hz hzs ha0 ha1 s hsv hxv hn (fun h0=>hn0 (by rw[h0])) (fun h0=>?_) hf;simp_all
    simp[Cc]
   simp[Cc]
 ·rename_i el size bytes hel happ;split
  ·rename_i hint;obtain⟨hd,i,zv,hi,rfl,rfl,hz,hzs⟩:=a9q hel;unfold c2i at hint
   cases hx:argTypes[1]? with
   | none=>grind
   | some xT =>
    rw[hx] at hint;have hdx:∃ k,P.underlying xT=some (.int k):=by
     grind
    obtain⟨k,hxd⟩:=hdx;unfold c2j;split
    ·rename_i hn;obtain⟨k',rfl⟩:=a7t hn hxv;split
     ·rename_i hsl;obtain⟨base,n,c,rfl,hle⟩:=c3e hsl hsv;exact b9c s (e2b (P:=P) (w:=w) (ty:=ty) ht hx hd hxd hi ha0 ha1 hle) hsv
     simp[Cc]
    ·rename_i n hn0 hn;obtain⟨k',rfl⟩:=a7t hn hxv;split
     ·rename_i z hs0 hc hzl;simp only[Bool.and_eq_true] at hc;have hn20:n<=1048576:=Nat.le_of_ble_eq_true hc.1;have hb20:i.bytes<=1048576:=Nat.le_of_ble_eq_true hc.2;have hs:i.size≠0:=fun h0=>by simp_all
      have hn1:n≠0:=fun h0=>hn0 (by rw[h0]);have hns:n*i.size≠0:=Nat.mul_ne_zero hn1 hs;have hz0:a1o P el (n*i.size)=some z:=by
       grind[a1o,Nat.eq_of_beq_eq_true]
      obtain⟨zs,_,hzc,hze,_⟩:=b5x (ρ:=ρ) hi hz hz0 w;have hze':=hze hns;subst hze';exact d0b (el:=el) (cs:=Builtin.zeroCells zv.cells n) hzs s hsv hn1 hs (b3m hzc n)
       (fun e hfit=>e2c (P:=P) (w:=w) (ty:=ty) ht hx hd hxd hi hz (by grind) ha1 hn20 hb20 hns hfit)
       (fun e hgt hsm hold=>e2d (P:=P) (w:=w) (ty:=ty) ht hx hd hxd hi hz (by grind) ha1 hn20 hns hgt hsm hold)
     simp[Cc]
    simp[Cc]
  simp[Cc]
 simp[Cc]
theorem e2h {dT:TypeId} {d:AV} {du xu:Value} (s:Sim B G ρ H w) (ht:argTypes[0]?=some dT)
  (ha0:args[0]?=some du) (ha1:args[1]?=some xu) (hdv:VR ρ d du) (hxv:VR ρ x xu) :
  VS B G P ρ H w (copy P H dT d x) (Builtin.copy_ argTypes ty args):=by
 unfold copy;split
 ·rename_i el size bytes n k hel hn hk;obtain⟨hd,i,zv,hi,rfl,rfl,hz,hzs⟩:=a9q hel;have hlen:=b9b (P:=P) hn hxv w;have hrun:∀ {base:Option Addr} {k' c:Nat} {cells:Array Value},du=.slice base k' c->k'=k->(Builtin.firstCells i.size (Nat.min n k) xu).run P w=.ok cells w ->
    (Builtin.copy_ argTypes ty args).run P w=((match base with|some a=>storeCells a cells.toList|none=>pure ()).run P w).andThen fun _ w'=>.ok (goInt (Nat.min n k)) w':=by
   intro base k' c cells hu hk' hf
   (split<;>simp_all[Cu,Av,Builtin.copy_])
  have hkk:∀ {base:Option Addr} {k' c:Nat},du=.slice base k' c->k'=k:=by
   intro base k' c hu;have:=b9b (P:=P) hk hdv w;grind[Sem.run_pure,Builtin.lenOf]
  split
  ·rename_i hm;split
   ·rename_i hsl;obtain⟨base,k',c,hu,hle⟩:=c3e hsl hdv;have hf:(Builtin.firstCells i.size (Nat.min n k) xu).run P w=.ok #[] w:=by
     rw[hm];unfold lenOf at hn;split at hn
     ·obtain⟨_,_,_,_,_,rfl⟩:=hxv;simp[Builtin.firstCells,loadCells,loadCellsFrom]
     ·obtain⟨_,_,_,_,_,rfl⟩:=hxv;simp[Builtin.firstCells,loadCells,loadCellsFrom]
     ·obtain⟨_,_,rfl⟩:=hxv;simp[Builtin.firstCells,loadCells,loadCellsFrom]
     ·cases hxv;rfl
     ·rename_i str;cases hxv;simp[Builtin.firstCells]
     grind
    refine b9c (u:=goInt 0) s ?_ rfl;rw[hrun hu (hkk hu) hf,hm]
    (split<;>rfl)
   simp[Cc]
  ·rename_i m hm0;split
   ·rename_i l hs0 hf;obtain⟨cs,hfc,hcs⟩:=c3a (P:=P) s hf hxv;unfold c8e;split
    ·rename_i a off k1 c1;obtain⟨b,q,K,hr,hle,hu⟩:=hdv;split
     ·rename_i c z hb;refine b5y s hb hr hcs rfl fun w' hw'=>?_;rw[hrun hu (hkk hu) (hfc w rfl)];simp[*]
     simp[Cc]
    ·rename_i a off k1 d1;obtain⟨b,q,K,hr,hle,hu⟩:=hdv;split
     ·rename_i c z hb;refine b5y s hb hr hcs rfl fun w' hw'=>?_;rw[hrun hu (hkk hu) (hfc w rfl)];simp[*]
     simp[Cc]
    simp[Cc]
   simp[Cc]
 simp[Cc]
theorem e2i {dT el:TypeId} {sz by_:Nat} {d:AV} {du:Value} (s:Sim B G ρ H w) (ht:argTypes[0]?=some dT) (hel:a3c P dT=some (el,sz,by_))
  (ha0:args[0]?=some du) (hdv:VR ρ d du) : VS B G P ρ H w (b8q P H el d) (Builtin.clear_ argTypes ty args):=by
 obtain⟨hd,i,zv,hi,rfl,rfl,hz,hzs⟩:=a9q hel;have hzl:∀ z,Cl P el=some z->VRs ρ z zv.cells.toList:=by
  intro z h;unfold Cl at h;rw[hi] at h;dsimp only at h;rw[hz] at h;cases h;exact VRs.lits _
 have go:∀ {a off n:Nat} {cp:Nat} {b q K:Nat} {z:List AV} {c:List AV} {k:Nat},Cl P el=some z->H.get a=some (.cells c true k)->ρ a=some (b,q,K)->du=.slice (some ⟨b,q+off,none⟩) (n+1) cp ->
   VS B G P ρ H w (a7m H a c k off (rep z (n+1)) (.lit (.tuple #[]))) (Builtin.clear_ argTypes ty args):=by
  intro a off n cp b q K z c k h1 h2 h3 h4;refine b5y s h2 h3 (b3m (hzl z h1) (n+1)) rfl fun w' hw'=>?_;rw[h4] at ha0;have hw2:(storeCells ⟨b,q+off,none⟩ (Builtin.zeroCells zv.cells (n+1)).toList).run P w=.ok () w':=hw';simp[Builtin.clear_,ht,ha0,Av hd,a2g hi hz,hw2]
 unfold b8q;split
 ·rename_i z hzz;obtain⟨b,q,K,hr,hle,hu⟩:=hdv;split
  ·rename_i hb;exact go hzz hb hr hu
  ·exact Cc
 ·rename_i z hzz;obtain⟨b,q,K,hr,hle,hu⟩:=hdv;split
  ·rename_i hb;exact go hzz hb hr hu
  ·exact Cc
 ·exact Cc
theorem e2j {v:AV} {l:List AV} {b:List UInt8} (h:bytesOf (v :: l)=some b) : ∃ n r,v=.lit (.int .u8 n)/\bytesOf l=some r/\b=UInt8.ofNat n.toNat :: r:=by
 unfold bytesOf at h;grind
theorem bytesOf_ints:∀ {l:List AV} {b:List UInt8} {us:List Value},bytesOf l=some b->VRs ρ l us ->
  ∃ ns:Wd,us=ns.map (Value.int .u8)/\∀ r:ByteArray,ns.foldl (fun r n=>r.push (UInt8.ofNat n.toNat)) r=⟨r.data++b.toArray⟩
 | [],b,us,h,hv=>by cases h;cases hv;simp
 | v :: l,b,us,h,⟨u,us',e,hv,hr⟩=>by
  subst e;obtain⟨n,r,rfl,hb,rfl⟩:=e2j h;cases hv;obtain⟨ns,rfl,hf⟩:=bytesOf_ints hb hr;exact⟨n :: ns,rfl,fun r=>by simp_all⟩
end Go.Ai
end
section
namespace Go.Ai
open Go.RowKit (Below)
variable {B G:Nat} {ρ:Rn} {H:Mem} {w:World} {P:Program}
variable {src dst:TypeId}
theorem e2k {e:TypeId} {str:ByteArray} (s:Sim B G ρ H w) (hs:P.underlying src=some .string) (hd:P.underlying dst=some (.slice e)) (he:P.underlying e=some (.int .u8)) :
  VS B G P ρ H w (a5p H (str.data.toList.map fun b=>.lit (.int .u8 b.toNat)) str.size 1) (Go.convert src dst (.string str)):=by
 unfold a5p;rw[Mem.newK_eq];intro v H' e0;cases e0;have hrun:=run_bytes_of_string (P:=P) w src dst e str hs hd he;have hcap:str.size<=grownCap w str.size 0 e:=by simp[grownCap,Question.cut]
 have hsz:str.data.size=str.size:=rfl;have hcs:(bytesRow str (grownCap w str.size 0 e)).size=grownCap w str.size 0 e:=by grind[bytesRow]
 refine⟨upd ρ H.next (w.heap.size,0,grownCap w str.size 0 e),_,_,hrun,Ext.alloc ρ _ _ w _ _ rfl rfl rfl rfl s.base,?_,⟨_,_,_,a0l _ _ _,by omega,by simp⟩,Dx _⟩;refine s.alloc _ _ (grownCap w str.size 0 e) _ rfl ⟨bytesRow str (grownCap w str.size 0 e),e,_,c9e w _ _ rfl,?_,fun _=>⟨s.base,by grind,by omega,.inr ?_⟩⟩
 ·intro j v hj;rw[g4l] at hj
  cases hb:str.data.toList[j]? with
  | none=>grind
  | some b =>
   rw[hb] at hj;cases hj;have hlt:=(Eb.1 hb).1;have hlt' : j<str.data.size:=by grind
   refine⟨_,?_,rfl⟩;simp_all[bytesRow_at]
 grind
theorem e2l {e:TypeId} {x:AV} {u:Value} {n:Nat} {l:List AV} {b:List UInt8} (s:Sim B G ρ H w) (hx:VR ρ x u) (hs:P.underlying src=some (.slice e)) (hd:P.underlying dst=some .string)
  (he:P.underlying e=some (.int .u8)) (hn:lenOf x=some n) (hl:Cx H 1 n x=some l) (hb:bytesOf l=some b) (hst:∀ str,x≠.lit (.string str)) :
  (Go.convert src dst u).run P w=.ok (.string ⟨b.toArray⟩) w:=by
 obtain⟨cs,hfc,hcs⟩:=c3a (P:=P) s hl hx;obtain⟨ns,hns,hfold⟩:=bytesOf_ints hb hcs;have hr:=hfc w rfl;have key:∀ {a:Addr} {c:Nat},u=.slice (some a) n c->(Go.convert src dst u).run P w=.ok (.string ⟨b.toArray⟩) w:=by
  intro a c hu;subst hu;rw[run_convert_bytes_string w src dst e (some a) n c hs he hd,run_bytesToString w a n c ns ?_]
  ·simp_all
  (simp_all[Builtin.firstCells];grind)
 unfold lenOf at hn;split at hn
 ·obtain⟨_,_,_,_,_,hu⟩:=hx;grind
 ·obtain⟨_,_,_,_,_,hu⟩:=hx;grind
 ·obtain⟨_,_,hu⟩:=hx;grind
 ·cases hx;cases hn;simp only[Cx] at hl;cases hl;cases hb;rw[run_convert_bytes_string w src dst e none _ _ hs he hd];rfl
 all_goals grind
theorem e2m {x:AV} {u:Value} (s:Sim B G ρ H w) (hx:VR ρ x u) : VS B G P ρ H w (convert P H src dst x) (Go.convert src dst u):=by
 unfold Go.Ai.convert;split
 ·rename_i e str hs hd;cases hx;grind[Cc,e2k]
 ·exact Cc
 ·rename_i y e hst hs hd;split
  ·rename_i he;split
   ·rename_i n hn;split
    ·rename_i l hl;split
     ·rename_i b hb;exact b9c s (e2l s hx (by grind) (by grind) he hn hl hb (by grind)) rfl
     simp[Cc]
    simp[Cc]
   simp[Cc]
  simp[Cc]
 simp[Cc]
section one
variable {ev:Ev} {e:Operand→Value} {o:Oper} (s:Sim B G ρ H w) (he:EvR ρ ev e)
include s he
theorem e2n {x:Operand} (h:o.op=.convert src dst x) : RS B G P ρ H w (a1p P H ev o src dst (ev x)) (execOp e o):=by
 unfold a1p;split
 ·rename_i r hr;obtain⟨u,h1,h2⟩:=a9o (P:=P) (w:=w) (by grind) he hr;grind[RS.quiet]
 ·split
  ·rename_i v hv;have key:=e2m (P:=P) (src:=src) (dst:=dst) s (he _ _ hv);split
   ·rename_i r H' hr;obtain⟨ρ',u,w',h1,h2,h3,h4,h5⟩:=key r H' hr;exact⟨ρ',u,w',by simp_all[execOp],h2,h3,h4,h5⟩
   ·trivial
  ·trivial
end one
end Go.Ai
end
section
namespace Go.Ai
open Go.RowKit (Below)
variable {B G:Nat} {ρ:Rn} {H:Mem} {w:World} {P:Program}
variable {es:List (AV×AV×Nat)} {l:List MapEntry} {k v:AV}
theorem d0c {α β:Type} (m:Sem α) (f:α->Sem β) : Ao P (m.bind f)=match Ao P m with|some a=>Ao P (f a)|none=>none:=by
 induction m with
 | pure a=>rfl
 | program k ih=>grind[Ao,Sem.bind]
 | mark m k ih=>assumption
 | choose q k ih=>grind[Ao,Sem.bind]
 | _=>simp[Sem.bind,Ao]
theorem d0d (kind:TypeDesc) (k:Value) : ∀ (l1 l2:List MapEntry) (i:Nat),l1.map (·.key)=l2.map (·.key) ->
  match Instr.findNow kind k l1 i with
  | none=>Instr.findNow kind k l2 i=none
  | some none=>Instr.findNow kind k l2 i=some none
  | some (some (j,_))=>∃ e,l2[j-i]?=some e/\i<=j/\Instr.findNow kind k l2 i=some (some (j,e.val))
 | [],[],i,_=>rfl
 | [],_ :: _,_,h=>by grind
 | _ :: _,[],_,h=>by grind
 | a :: l1,b :: l2,i,h=>by
  simp only[g4j,List.cons.injEq] at h;obtain⟨hk,hl⟩:=h;simp only[Instr.findNow,hk]
  cases hs:Instr.sameNow kind k b.key with
  | none=>rfl
  | some t=>cases t with
   | true=>grind
   | false =>
    have:=d0d kind k l1 l2 (i+1) hl;dsimp only;revert this
    cases Instr.findNow kind k l1 (i+1) with
    | none=>exact id
    | some r=>cases r with
     | none=>exact id
     | some y =>
      obtain⟨j,v⟩:=y;rintro⟨e,he,hle,hr⟩;exact⟨e,by rw[show j-i=(j-(i+1))+1 by omega];simpa using he,by omega,hr⟩
theorem d0e (kt:TypeId) (k:Value) : ∀ (l1 l2:List MapEntry) (i:Nat) (r:Option (Nat×Value)),l1.map (·.key)=l2.map (·.key)->Ao P (Instr.findAsking kt k l1 i)=some r->∀ w:World,
  match r with
  | none=>(Instr.findAsking kt k l2 i).run P w=.ok none w
  | some (j,_)=>∃ e,l2[j-i]?=some e/\i<=j/\(Instr.findAsking kt k l2 i).run P w=.ok (some (j,e.val)) w
 | [],[],i,r,_,hp,w=>by simp only[Instr.findAsking] at hp;cases hp;rfl
 | [],_ :: _,_,_,h,_,_=>by grind
 | _ :: _,[],_,_,h,_,_=>by grind
 | a :: l1,b :: l2,i,r,h,hp,w=>by
  simp only[g4j,List.cons.injEq] at h;obtain⟨hk,hl⟩:=h;simp only[Instr.findAsking,hk] at hp |-;have hp':=hp;change Ao P (Sem.bind _ _)=_ at hp';rw[d0c] at hp'
  cases hq:Ao P (Op.equal kt k b.key) with
  | none=>grind
  | some t =>
   rw[hq] at hp';have hrun:=b5u hq w
   cases t with
   | true =>
    simp only[if_true] at hp';cases hp';simp_all
   | false =>
    simp only[g6o,if_false] at hp';have:=d0e kt k l1 l2 (i+1) r hl hp' w
    cases r with
    | none=>simp_all
    | some y =>
     obtain⟨j,v⟩:=y;obtain⟨e,he,hle,hr⟩:=this;exact⟨e,by grind,by omega,by simp_all⟩
theorem d0f {kt:TypeId} {k:Value} {l1 l2:List MapEntry} {r:Option (Nat×Value)} (h:l1.map (·.key)=l2.map (·.key)) (hp:Ao P (Instr.findKey kt k l1)=some r) (w:World) :
  match r with
  | none=>(Instr.findKey kt k l2).run P w=.ok none w
  | some (j,_)=>∃ e,l2[j]?=some e/\(Instr.findKey kt k l2).run P w=.ok (some (j,e.val)) w:=by
 unfold Instr.findKey at hp |-;have hp':=hp;change Ao P (Sem.bind _ _)=_ at hp';rw[d0c] at hp'
 cases hq:Ao P (underlying kt) with
 | none=>grind
 | some d =>
  rw[hq] at hp';have hrun:=b5u hq w;have hn:=d0d d k l1 l2 0 h;dsimp only at hp'
  cases hf:Instr.findNow d k l1 0 with
  | some x =>
   rw[hf] at hp' hn
   cases x with
   | none =>
    cases hp';simp_all
   | some y =>
    obtain⟨j,v⟩:=y;cases hp';obtain⟨e,he,_,hr⟩:=hn;simp_all
  | none =>
   rw[hf] at hp' hn;dsimp only at hn hp';have:=d0e kt k l1 l2 0 r h hp' w
   (split<;>simp_all)
theorem ER.keys:∀ {es:List (AV×AV×Nat)} {l:List MapEntry} {ks:List Value},ER ρ es l->litAll (es.map (·.1))=some ks->l.map (·.key)=ks
 | [],_,_,h,hk=>by cases h;cases hk;rfl
 | (k,v,b) :: es,_,ks,⟨e,l',he,h1,h2,h3,h4⟩,hk=>by
  subst he;simp only[List.map_cons] at hk
  cases k with
  | lit x =>
   simp only[litAll] at hk;split at hk
   ·rename_i ws hw;cases hk;cases h1;simp[ER.keys h4 hw]
   grind
  | _=>simp[litAll] at hk
theorem ER.get:∀ {es:List (AV×AV×Nat)} {l:List MapEntry} {i:Nat} {k v:AV} {b:Nat} {e:MapEntry},ER ρ es l->es[i]?=some (k,v,b)->l[i]?=some e->VR ρ k e.key/\VR ρ v e.val
 | [],_,i,_,_,_,_,_,h,_=>by grind
 | (k,v,b) :: es,_,0,_,_,_,_,⟨e,l',he,h1,h2,h3,h4⟩,h,h'=>by grind
 | (k,v,b) :: es,_,i+1,_,_,_,_,⟨e,l',he,h1,h2,h3,h4⟩,h,h'=>by subst he;simp at h h';exact ER.get h4 h h'
theorem ER.length:∀ {es:List (AV×AV×Nat)} {l:List MapEntry},ER ρ es l->l.length=es.length
 | [],_,h=>by cases h;rfl
 | _ :: _,_,⟨e,l',he,_,_,_,h4⟩=>by subst he;simp[ER.length h4]
theorem ER.snoc:∀ {es:List (AV×AV×Nat)} {l:List MapEntry} {k v:AV} {b:Nat} {e:MapEntry},ER ρ es l->VR ρ k e.key->VR ρ v e.val->e.born=b->ER ρ (es++[(k,v,b)]) (l++[e])
 | [],_,_,_,_,e,h,h1,h2,h3=>by cases h;exact⟨e,[],rfl,h1,h2,h3,rfl⟩
 | _ :: _,_,_,_,_,_,⟨e,l',he,a,b,c,d⟩,h1,h2,h3=>by subst he;exact⟨e,_,rfl,a,b,c,ER.snoc d h1 h2 h3⟩
theorem ER.set {ku vu:Value} (h1:VR ρ k ku) (h2:VR ρ v vu) : ∀ {es:List (AV×AV×Nat)} {l:List MapEntry} (i:Nat),ER ρ es l->ER ρ (b8o (k,v) es i) (l.modify i fun e=>{ e with key:=ku,val:=vu })
 | [],_,i,h=>by cases h;simp[b8o];rfl
 | (_,_,b) :: _,_,0,⟨e,l',he,_,_,c,d⟩=>by subst he;exact⟨{ e with key:=ku,val:=vu },l',by simp,h1,h2,c,d⟩
 | _ :: _,_,i+1,⟨e,l',he,a,b,c,d⟩=>by subst he;exact⟨e,l'.modify i fun e=>{ e with key:=ku,val:=vu },by simp,a,b,c,ER.set h1 h2 i d⟩
theorem d0g {kt:TypeId} {k:Value} {r:Option Nat} (h:a9f P kt k es=some r) (he:ER ρ es l) (w:World) :
  match r with
  | none=>(Instr.findKey kt k l).run P w=.ok none w
  | some j=>∃ e,l[j]?=some e/\(Instr.findKey kt k l).run P w=.ok (some (j,e.val)) w:=by
 unfold a9f at h;split at h
 ·rename_i ks hks;have hkeys:=he.keys hks;have hmap:(ks.map fun q=>({ key:=q,val:=undef,born:=0 } : MapEntry)).map (·.key)=l.map (·.key):=by
   rw[hkeys,List.map_map];exact List.map_id' ks
  split at h
  ·rename_i i v hp;cases h;exact d0f hmap hp w
  ·rename_i hp;cases h;exact d0f hmap hp w
  grind
 grind
section one
variable {ev:Ev} {e:Operand→Value} {o:Oper} (s:Sim B G ρ H w) (he:EvR ρ ev e)
include s he
theorem e2o {t:TypeId} {m k:Operand} {ok:Bool} (h:o.op=.lookup t m k ok) : RS B G P ρ H w (a2t P H ev o t (ev m) (ev k) ok) (execOp e o):=by
 unfold a2t;split
 ·rename_i m' k' hm hk;refine RS.ofOpt s fun r hr=>?_;unfold b5g at hr;split at hr
  ·rename_i v hv;cases hr;exact a9o (by grind) he hv
  ·unfold lookup at hr;split at hr
   ·rename_i key elem a kv hd hkv;obtain⟨b,q,K,hrr,hmu⟩:=he _ _ hm;have hku:=c2y hkv (he _ _ hk);split at hr
    ·rename_i es clock hx;obtain⟨es',hb,her,hB⟩:=s.at hx hrr;split at hr
     ·rename_i x i hck hfk;have hlen:=her.length;have hemp:es'.isEmpty=es.isEmpty:=by
       (simp_all[Array.isEmpty];grind)
      have hck':=b5u hck w;have hf:=d0g hfk her w;have hget:(getObj b).run P w=.ok (.map es' clock) w:=by grind[Sem.run,getObj]
      unfold b3d at hr
      cases i with
      | some j =>
       dsimp only at hr;obtain⟨en,hen,hrun⟩:=hf;rw[a9m] at hr;split at hr
       ·rename_i k0 v0 b0 hes;cases hr;have hvr:=(her.get hes hen).2;cases ok
        ·exact⟨en.val,by simp_all[Av,Instr.lookup,execOp],hvr⟩
        ·exact⟨.tuple #[en.val,.bool true],by simp_all[Av,Instr.lookup,execOp],⟨_,rfl,_,_,rfl,hvr,_,_,rfl,rfl,rfl⟩⟩
       grind
      | none =>
       dsimp only at hr hf;split at hr
       ·rename_i z hz;cases hr;unfold a9g at hz;split at hz
        ·rename_i info hinfo;cases ok
         ·exact⟨z,by simp_all[a2g,Av,Instr.lookup,execOp],rfl⟩
         ·exact⟨.tuple #[z,.bool false],by simp_all[a2g,Av,Instr.lookup,execOp],⟨_,rfl,_,_,rfl,rfl,_,_,rfl,rfl,rfl⟩⟩
        grind
       grind
     grind
    grind
   grind
 ·trivial
theorem d0h {t:TypeId} {m k x:Operand} (h:o.op=.mapUpdate t m k x\/o.op=.insert t m k x) : RS B G P ρ H w (a4h P H t (ev m) (ev k) (ev x)) (execOp e o):=by
 have hexec:execOp e o=(do Instr.mapUpdate t (e m) (e k) (e x);pure .skip):=by grind[execOp]
 rw[hexec];unfold a4h;split
 ·rename_i m' k' x' hm hk hx;split
  ·rename_i H' hu;unfold mapUpdate at hu;split at hu
   ·rename_i key elem a kv hd hkv;obtain⟨b,q,K,hrr,hmu⟩:=he _ _ hm;have hku:=c2y hkv (he _ _ hk);split at hu
    ·rename_i es clock hmx;obtain⟨es',hb,her,hB⟩:=s.at hmx hrr;split at hu
     ·rename_i y i hck hfk;have hck':=b5u hck w;have hf:=d0g hfk her w;have hget:(getObj b).run P w=.ok (.map es' clock) w:=by grind[Sem.run,getObj]
      have hblt:b<w.heap.size:=(g3x.1 hb).1;have fin:∀ (es1:List (AV×AV×Nat)) (es2:Array MapEntry) (c2:Nat),ER ρ es1 es2.toList ->
        (Instr.mapUpdate t (e m) (e k) (e x)).run P w=.ok () { w with heap:=w.heap.setIfInBounds b (.map es2 c2) } ->
        RS B G P ρ H w (.skip (H.upd a (.map es1 c2))) (do Instr.mapUpdate t (e m) (e k) (e x);pure .skip):=by
       intro es1 es2 c2 hE hrun;refine⟨ρ,{ w with heap:=w.heap.setIfInBounds b (.map es2 c2) },by simp_all,⟨fun _ _=>rfl,KD.turn hb rfl (fun j hj=>by grind),rfl,rfl,rfl,by simp,fun j hj=>by grind⟩,?_,Dm _⟩;exact s.set hmx hrr rfl rfl (by simp) (fun j hj _=>by grind) ⟨es2,by grind,hE,hB⟩
      split at hu
      ·rename_i blk hblk;rw[Mem.setK_eq] at hu;cases hu;unfold b8p at hblk
       cases i with
       | some j =>
        dsimp only at hblk;obtain⟨en,hen,hrun⟩:=hf;rw[a9m] at hblk;split at hblk
        ·rename_i old v0 b0 hes;split at hblk
         ·rename_i hsb;cases hblk;have hold:=(her.get hes hen).1;simp only[VR] at hold;refine fin _ (es'.modify j fun en=>{ en with key:=kv,val:=e x }) _ ?_ ?_
          ·have:=ER.set (ρ:=ρ) (k:=.lit kv) (v:=x') (ku:=kv) (vu:=e x) rfl (he _ _ hx) j her;grind
          ·have hen' : es'[j]?=some en:=by grind
           simp[Instr.mapUpdate,Av hd,hmu,hku,hget,hck',hrun,hen',hold,Instr.keyThatStays,hsb,setObj,Sem.run,hb]
         grind
        grind
       | none =>
        dsimp only at hblk hf;cases hblk;refine fin _ (es'.push { key:=kv,val:=e x,born:=clock }) _ ?_ ?_
        ·have:=ER.snoc (k:=.lit kv) (v:=x') (b:=clock) (e:={ key:=kv,val:=e x,born:=clock }) her rfl (he _ _ hx) rfl;grind
        ·simp[Instr.mapUpdate,Av hd,hmu,hku,hget,hck',hf,setObj,Sem.run,hb]
      grind
     grind
    grind
   grind
  ·trivial
 ·trivial
end one
end Go.Ai
end
section
namespace Go.Ai
open Go.RowKit (Below)
variable {B G:Nat} {ρ:Rn} {H:Mem} {w:World} {P:Program}
theorem b9d {f:FuncId} (h:Aq P f=true) (args:Array Value) (w:World) : (callFunc f args).run P w=.ok (.enter f args) w:=by
 unfold Aq at h;split at h
 ·(simp_all[callFunc];grind)
 grind
section one
variable {ev:Ev} {e:Operand→Value} {o:Oper} (s:Sim B G ρ H w) (he:EvR ρ ev e)
include s
omit s in
theorem c3f {f:FuncId} {args:List AV} {us:Array Value} {m:Sem Next} (hm:m.run P w=(callFunc f us).run P w) (hv:VRs ρ args us.toList) : RS B G P ρ H w (a6i P H f args) m:=by
 unfold a6i;split
 ·rename_i h;exact⟨us,by grind[b9d],hv,rfl⟩
 ·trivial
omit s in
theorem e2p {d:Option TypeDesc} (h:b5e d=some true) : ∃ e,d=some (.pointer e):=by
 unfold b5e at h;grind
omit s in
theorem e2q {d:Option TypeDesc} (h:b5e d=some false) : ∃ t,d=some t/\∀ e,t≠.pointer e:=by
 unfold b5e at h;grind
omit s in
theorem e2r {t:TypeId} {name:String} {f:FuncId} {u:Value} (h:c2l P t name=some f) (n:Nat) (w:World) : (method (n+1) t u name).run P w=.ok (f,u) w:=by
 unfold c2l at h;split at h
 ·rename_i i hi;split at h
  ·rename_i m hm;have base:∀ (pr:Bool),m.path.isEmpty=true->m.func=some (f,pr)->(receiverAt t (.val u) pr (some ((name.splitOn ".").getLastD name))).run P w=.ok u w->(method (n+1) t u name).run P w=.ok (f,u) w:=by
    simp_all[follow,a3r,method]
   unfold c8f at h;split at h
   ·rename_i f' pr h1 h2;split at h
    ·rename_i h3;cases h;obtain⟨el,hd⟩:=e2p h3;simp_all[Place.get,Av,receiverAt]
    ·rename_i h3;cases h;obtain⟨d,hd,hnp⟩:=e2q h3;refine base false h1 h2 ?_;cases d<;>first|exact absurd rfl (hnp _)|simp[receiverAt,Av hd,Place.get]
    grind
   grind
  grind
 grind
omit s in
theorem e2s (a:Value) (b:Array Value) : (#[a]++b).extract 1 (#[a]++b).size=b:=by
 simp
include he
theorem e2t {c:Call} (h:o.op=.call c) : RS B G P ρ H w (Cb P H ev o c) (execOp e o):=by
 unfold Cb;split
 ·trivial
 ·rename_i args hargs;have hva:VRs ρ args (c.args.map e).toList:=by simpa using evals_VRs he hargs
  split
  ·rename_i b hc;unfold a3d;have two:∀ {x y:AV},args=[x,y]->∃ u u',(c.args.map e)[0]?=some u/\(c.args.map e)[1]?=some u'/\VR ρ x u/\VR ρ y u':=by
    intro x y ha;subst ha;obtain⟨u,u',hl,h1,h2⟩:=hva.two;exact⟨u,u',by rw[<- g5s,hl];rfl,by rw[<- g5s,hl];rfl,h1,h2⟩
   split
   ·unfold b5f;split
    ·rename_i x y st hst;obtain⟨u,u',h0,h1,hx,hy⟩:=two rfl;have key:=e2g (P:=P) (ty:=o.type) s hst h0 h1 hx hy;split
     ·rename_i v H' hr;obtain⟨ρ',r,w',g1,g2,g3,g4,g5⟩:=key v H' hr;exact⟨ρ',r,w',by simp_all[a7u,builtin],g2,g3,g4,g5⟩
     ·trivial
    ·trivial
   ·unfold c2m;split
    ·rename_i x y st hst;obtain⟨u,u',h0,h1,hx,hy⟩:=two rfl;have key:=e2h (P:=P) (ty:=o.type) s hst h0 h1 hx hy;split
     ·rename_i v H' hr;obtain⟨ρ',r,w',g1,g2,g3,g4,g5⟩:=key v H' hr;exact⟨ρ',r,w',by simp_all[a7u,builtin],g2,g3,g4,g5⟩
     ·trivial
    ·trivial
   ·unfold b8r;split
    ·rename_i x st hst;obtain⟨u,us,hl,hx,hn⟩:=hva;have h0:(c.args.map e)[0]?=some u:=by rw[<- g5s,hl];rfl
     split
     ·rename_i el _ _ hel;have key:=e2i (P:=P) (ty:=o.type) s hst hel h0 hx;split
      ·rename_i v H' hr;obtain⟨ρ',r,w',g1,g2,g3,g4,g5⟩:=key v H' hr;exact⟨ρ',r,w',by rw[a7u h hc];simp[builtin,g1],g2,g3,g4,g5⟩
      ·trivial
     ·trivial
    ·trivial
   ·grind[e1z]
   ·grind[e2a]
   ·show (execOp e o).run P w=.ok .recover w;rw[a7u h hc];rfl
   grind[b1q]
  ·rename_i recv name hc;unfold b8s;split
   ·rename_i r hr;split
    ·rename_i t v hi;have hv:∃ u,e recv=.iface t u/\VR ρ v u:=by
      unfold ifaceOf at hi;split at hi
      ·cases hi;exact he _ _ hr
      ·cases hi;have:=he _ _ hr;simp only[VR] at this;exact⟨_,this,rfl⟩
      grind
     obtain⟨u,hu,hvu⟩:=hv;split
     ·rename_i f hm;refine c3f (us:=#[u]++c.args.map e) ?_ (by grind[VRs.cons]);have hd:Made.depth=99+1:=rfl;simp only[execOp,h,resolve,hc,hu,Sem.run_bind,Sem.run_pure,Result.andThen_ok,invoke,callMethod];have h0:(#[Value.iface t u]++c.args.map e)[0]?=some (Value.iface t u):=by grind
      rw[h0];simp only[e2s,Sem.run_bind,run_program,Result.andThen_ok,hd,<- g5k,e2r hm (P.types.size+99) w]
     ·trivial
    ·trivial
   ·trivial
  ·rename_i f hc;unfold a9i;split
   ·rename_i g first cap hf;have:=he _ _ hf;simp only[VR] at this;refine c3f (us:=first++c.args.map e++cap) ?_ ?_
    ·grind[invoke,Deferred.ofValue,resolve,execOp]
    ·have h1:=(VRs.lits (ρ:=ρ) first.toList).append hva;simpa using h1.append (VRs.lits (ρ:=ρ) cap.toList)
   ·rename_i g first cap hf;obtain⟨f',c',hu,h1,h2⟩:=he _ _ hf;refine c3f (us:=f'++c.args.map e++c') ?_ ?_
    ·grind[invoke,Deferred.ofValue,resolve,execOp]
    ·simpa using (h1.append hva).append h2
   ·trivial
omit s in
theorem e2u {c:Call} (h:o.op=.defer c) : RS B G P ρ H w (b3e H ev c) (execOp e o):=by
 unfold b3e;split
 ·rename_i args f hargs hc;have hva:VRs ρ args (c.args.map e).toList:=by simpa using evals_VRs he hargs
  split
  ·rename_i fn first cap hf;obtain⟨f',c',hu,h1,h2⟩:=he _ _ hf;exact⟨c',f'++c.args.map e,by simp_all[Deferred.ofValue,resolve,execOp],h2,by simpa using h1.append hva,rfl⟩
  ·rename_i fn first cap hf;have:=he _ _ hf;simp only[VR] at this;exact⟨cap,first++c.args.map e,by simp_all[Deferred.ofValue,resolve,execOp],VRs.lits _,by simpa using (VRs.lits (ρ:=ρ) first.toList).append hva,rfl⟩
  ·trivial
 ·trivial
theorem a5v (hG:G=P.globals.size) : RS B G P ρ H w (opV P H ev o) (execOp e o):=by
 unfold opV
 cases hop:o.op with
 | move x=>exact c9k s he (by grind[execOp])
 | assign x=>exact c9k s he (by grind[execOp])
 | pick c a b=>exact e0s s he hop
 | alloc t=>exact e0u s hop
 | box t x=>exact e0t s he hop
 | build t ps=>exact e1r s he hop
 | buildSlice t n ps=>exact e1s s he hop
 | insert t m k x=>exact d0h s he (.inr hop)
 | load t a=>exact e0v s hG he hop
 | store t a x=>exact e0w s he hop
 | ready g=>trivial
 | waits g=>trivial
 | nilCheck x=>exact e0x s he hop
 | binOp op t x y ty=>exact e1n s he hop
 | unOp op t x=>exact b1q s he (by grind)
 | convert a b x=>exact e2n s he hop
 | sliceToArrayPointer t x=>trivial
 | makeInterface t x=>exact e0y s he hop
 | makeFunc fn a b=>exact e0z s he hop
 | makeMap t r=>exact e1u s he hop
 | makeChan t x=>trivial
 | makeSlice t l c=>exact e1t s he hop
 | slice t x lo hi mx=>exact e1q s he hop
 | fieldAddr t x f=>exact e1c s he hop
 | field t x f=>exact e1e s he hop
 | indexAddr t x i=>exact e1d s he hop
 | index t x i=>exact e1f s he hop
 | lookup t m k ok=>exact e2o s he hop
 | mapUpdate t m k x=>exact d0h s he (.inl hop)
 | mapEntry t m k=>trivial
 | entryStore t m a x=>trivial
 | range t x=>exact e1v s he hop
 | next it b=>cases b with
  | true=>exact e1w s he hop
  | false=>trivial
 | entry it=>trivial
 | typeAssert x t a ok=>exact e1g s he hop
 | extract x i=>exact e1a s he hop
 | call c=>exact e2t s he hop
 | go c=>trivial
 | defer c=>exact e2u he hop
 | panic x=>exact e1b he hop
 | send a b=>trivial
 | recv t x b=>trivial
 | select a b=>trivial
end one
end Go.Ai
end
section
namespace Go.Ai
variable {P:Program} {ev:Ev} {o:Oper}
def a1d (f:Mem->R) : Prop:=∀ H v H',f H=.val v H'->H'=H/\∀ H2,f H2=.val v H2
theorem a5w (r:Option AV) : a1d (fun H=>ofOpt H r):=by
 intro H v H' h
 cases r with
 | none=>cases h
 | some x=>cases h;exact⟨rfl,fun _=>rfl⟩
theorem free_bad:a1d (fun _=>R.bad):=fun _ _ _ h=>by cases h
theorem a3s (v:AV) : a1d (fun H=>R.val v H):=fun _ _ _ h=>by grind
theorem c3g (h:freeOp o.op=true) : a1d (fun H=>opV P H ev o):=by
 unfold opV
 cases hop:o.op with
 | move x=>show a1d (fun H=>a1q H (ev x));unfold a1q;(split<;>simp_all[a3s,free_bad])
 | assign x=>show a1d (fun H=>a1q H (ev x));unfold a1q;(split<;>simp_all[a3s,free_bad])
 | pick c a b =>
  show a1d (fun H=>a4e H (ev c) (ev a) (ev b));unfold a4e
  (split<;>simp_all[free_bad,a5w])
 | build t ps =>
  show a1d (fun H=>a4t P H t (Dc ev ps.toList));unfold a4t
  (split<;>simp_all[free_bad,a5w])
 | nilCheck x =>
  show a1d (fun H=>a6k P H ev o (ev x));unfold a6k
  (split<;>simp_all[a5w,a3s])
 | binOp op t x y ty =>
  show a1d (fun H=>Bo P H ev o op t (ev x) (ev y));unfold Bo;split
  ·exact a3s _
  ·split
   ·exact a3s _
   ·unfold b3f;split
    ·(split<;>simp_all[free_bad,a3s])
    simp[free_bad]
 | unOp op t x=>exact a5w _
 | makeInterface t x =>
  show a1d (fun H=>a7n P H t (ev x));unfold a7n
  (split<;>simp_all[free_bad,a3s])
 | makeFunc fn a b =>
  show a1d (fun H=>a5s H fn (Bq ev a.toList) (Bq ev b.toList));unfold a5s
  (split<;>simp_all[free_bad,a3s])
 | slice t x lo hi mx =>
  show a1d (fun H=>a0k P H ev o t (ev x) lo hi mx);unfold a0k;split
  ·exact a3s _
  ·unfold a4f;split
   ·(split<;>simp_all[free_bad,a5w])
   simp[free_bad]
 | fieldAddr t x f =>
  show a1d (fun H=>a4g P H ev o t (ev x) f);unfold a4g a3p;split
  ·(split<;>simp_all[a5w,a3s])
  simp[free_bad]
 | field t x f =>
  show a1d (fun H=>a7o P H t (ev x) f);unfold a7o
  (split<;>simp_all[free_bad,a5w])
 | indexAddr t x i =>
  show a1d (fun H=>a0u P H ev o t (ev x) (ev i));unfold a0u a3p;split
  ·(split<;>simp_all[a5w,a3s])
  simp[free_bad]
 | index t x i =>
  show a1d (fun H=>a6l P H ev o t (ev x) (ev i));unfold a6l;split
  ·(split<;>simp_all[a5w,a3s])
  simp[free_bad]
 | typeAssert x t a ok =>
  show a1d (fun H=>a6m P H ev o (ev x) a ok);unfold a6m;split
  ·exact a3s _
  (split<;>simp_all[free_bad,a5w])
 | extract x i =>
  show a1d (fun H=>a5t H (ev x) i);unfold a5t;split
  ·exact a5w _
  ·(split<;>simp_all[free_bad,a3s])
  simp[free_bad]
 | _=>rw[hop] at h;cases h
theorem eqV_sound:∀ (n:Nat) (a b:Value),eqV n a b=true->a=b:=by
 intro n
 induction n with
 | zero =>
  intro a b h;unfold eqV at h;grind
 | succ n ih =>
  intro a b h;unfold eqV at h;grind
end Go.Ai
end
section
namespace Go.Ai
theorem d0i (acc:List Nat) (j:Nat) : ∀ (l:List Edge) (s:Nat),
  (l.foldl (fun s e=>match Region.binds .any e with|true=>s ||| 2 ^ e.on ||| acc.getD e.on 0|false=>s) s).testBit j=true ->
  s.testBit j=true\/∃ e∈l,Region.binds .any e=true/\(e.on=j\/(acc.getD e.on 0).testBit j=true)
 | [],s,h=>.inl h
 | e :: l,s,h=>by
  simp only[List.foldl_cons] at h;rcases d0i acc j l _ h with h1|⟨e',he',h2⟩
  all_goals grind
theorem ancs_spec:∀ (l:List Oper) (acc:List Nat) (i j:Nat),Aw (ancs acc l) i j=true ->
  (i<acc.length/\Aw acc i j=true)\/∃ o e,acc.length<=i/\l[i-acc.length]?=some o/\e∈o.after.toList/\Region.binds .any e=true/\(e.on=j\/(e.on<i/\Aw (ancs acc l) e.on j=true))
 | [],acc,i,j,h=>by
  have h' : Aw acc i j=true:=h;grind[Aw]
 | o :: l,acc,i,j,h=>by
  have pre:∀ (l:List Oper) (acc:List Nat) (k:Nat),k<acc.length->(ancs acc l).getD k 0=acc.getD k 0:=by
   intro l
   induction l with
   | nil=>intro acc k _;rfl
   | cons o l ih =>
    grind[ancs]
  rcases ancs_spec l (acc++[c2n acc o]) i j h with⟨h1,h2⟩|⟨o',e,h1,h2,h3⟩
  ·simp only[Dr,Ef] at h1;rcases g4k i acc.length with h4|h4
   ·grind[Aw]
   ·right;have hi:i=acc.length:=by omega
    subst hi;unfold Aw at h2;simp only[g3s] at h2;rw[Em (Dm _)] at h2;simp only[g4u,List.getElem?_cons_zero,g6k] at h2;unfold c2n at h2;rcases d0i acc j _ 0 h2 with h5|⟨e,he,hb,hor⟩
    ·grind
    (simp_all[Aw];grind)
  ·right;simp only[Dr,Ef] at h1 h2;refine⟨o',e,by omega,?_,h3⟩;grind
theorem b9e {ops:Array Oper} {listed:Nat->Prop} (down:∀ i o,listed i->ops[i]?=some o->∀ e∈o.after.toList,Region.binds .any e=true->listed e.on) :
  ∀ (i:Nat) (o:Oper) (j:Nat),ops[i]?=some o->(∀ e∈o.after.toList,Region.binds .any e=true->listed e.on)->Aw (ancs [] ops.toList) i j=true->listed j:=by
 intro i
 induction i using Nat.strongRecOn with
 | _ i ih =>
  intro o j ho hready h;rcases ancs_spec ops.toList [] i j h with⟨h1,_⟩|⟨o',e,_,h2,he,hb,hor⟩
  all_goals grind
mutual
theorem eqAV_sound:∀ (a b:AV),eqAV a b=true->a=b
 | .lit a,b,h=>by cases b<;>simp[eqAV] at h;rw[eqV_sound 4 _ _ h]
 | .ptr a i,b,h=>by cases b<;>simp[eqAV] at h;simp[h]
 | .sl a i n c,b,h=>by cases b<;>simp[eqAV] at h;simp[h]
 | .slq a i n c,b,h=>by cases b<;>simp[eqAV] at h;simp[h]
 | .es,b,h=>by cases b<;>simp[eqAV] at h;rfl
 | .map a,b,h=>by cases b<;>simp[eqAV] at h;simp[h]
 | .func f x y,b,h=>by
  cases b<;>simp[eqAV] at h;rename_i g u v;rw[h.1.1,eqAVs_sound x u h.1.2,eqAVs_sound y v h.2]
 | .iface t x,b,h=>by
  cases b<;>simp[eqAV] at h;rename_i u y;rw[h.1,eqAV_sound x y h.2]
 | .agg l,b,h=>by cases b<;>simp[eqAV] at h;rename_i m;rw[eqAVs_sound l m h]
 | .tup l,b,h=>by cases b<;>simp[eqAV] at h;rename_i m;rw[eqAVs_sound l m h]
theorem eqAVs_sound:∀ (a b:List AV),eqAVs a b=true->a=b
 | [],b,h=>by cases b<;>simp[eqAVs] at h;rfl
 | x :: l,b,h=>by
  cases b<;>simp[eqAVs] at h;rename_i y m;rw[eqAV_sound x y h.1,eqAVs_sound l m h.2]
end
end Go.Ai
end
section
namespace Go.Ai
open Go.RowKit (Below)
variable {B G:Nat} {ρ:Rn} {H:Mem} {w:World} {P:Program}
def ND (B:Nat) (P:Program) (ρ:Rn) (w:World) (f:Nat->AV) (x:Blk) (m:Sem Next) : Prop :=
 ∃ ob k u w',m.run P w=.ok (.value u) w'/\w'.heap=w.heap.push ob/\w'.os=w.os/\w'.tape=w.tape/\w'.output=w.output/\w.drawn<=w'.drawn /\
  ∀ nm,ρ nm=none->BR B (upd ρ nm (w.heap.size,0,k)) x w.heap.size 0 k w'/\VR (upd ρ nm (w.heap.size,0,k)) (f nm) u
theorem b9f {l:List AV} {cells:Array Value} {elem:TypeId} {m:Sem Next} {f:Nat->AV} {u:Value} (hB:B<=w.heap.size) (hc:VRs ρ l cells.toList)
  (hrun:m.run P w=.ok (.value u) { w with heap:=w.heap.push (.cells cells elem) }) (hv:∀ nm,VR (upd ρ nm (w.heap.size,0,0)) (f nm) u) :
  ND B P ρ w f (.cells l true 0) m:=by
 refine⟨.cells cells elem,0,u,_,hrun,rfl,rfl,rfl,rfl,Dm _,fun nm hn=>⟨⟨cells,elem,(0,0),by simp,?_,fun _=>⟨hB,by simp,by simp,.inl rfl⟩⟩,hv nm⟩⟩;intro i v hi;obtain⟨u,hu,hv⟩:=hc.get i hi;exact⟨u,by grind,hv.mono (a6q hn)⟩
def New (B:Nat) (P:Program) (ev:Ev) (o:Oper) (H:Mem) (v:AV) (H' : Mem) : Prop :=
 ∃ f x,v=f H.next/\H'=H.add x/\∀ (ρ:Rn) (w:World) (e:Operand->Value),EvR ρ ev e->B<=w.heap.size->ND B P ρ w f x (execOp e o)
variable {ev:Ev} {o:Oper} {v:AV} {H' : Mem}
theorem e2v {t:TypeId} {x:Operand} (h:o.op=.box t x) (hv:a4s H (ev x)=.val v H') : New B P ev o H v H':=by
 unfold a4s at hv;split at hv
 ·rename_i y hy;unfold a0j at hv;rw[Mem.newK_eq] at hv;cases hv;refine⟨fun n=>.ptr n 0,_,rfl,rfl,fun ρ w e he hB=>?_⟩;refine b9f hB (cells:=(e x).cells) (elem:=t) (he _ _ hy).cells (u:=.pointer (some ⟨w.heap.size,0,none⟩)) ?_ fun nm=>⟨_,_,_,a0l _ _ _,rfl⟩;simp[execOp,h,Instr.box,newVar,newRow]
 grind
theorem e2w {t:TypeId} (h:o.op=.alloc t) (hv:a6j P H t=.val v H') : New B P ev o H v H':=by
 unfold a6j at hv;split at hv
 ·rename_i l hl;unfold Cl at hl;split at hl
  ·rename_i i hi;split at hl
   ·rename_i zv hz;cases hl;unfold a0j at hv;rw[Mem.newK_eq] at hv;cases hv;refine⟨fun n=>.ptr n 0,_,rfl,rfl,fun ρ w e he hB=>?_⟩;refine b9f hB (cells:=zv.cells) (elem:=t) (VRs.lits _) (u:=.pointer (some ⟨w.heap.size,0,none⟩)) ?_ fun nm=>⟨_,_,_,a0l _ _ _,rfl⟩;simp_all[a2g,newRow,newVar,Instr.alloc,execOp]
   grind
  grind
 grind
theorem e2x {t:TypeId} {r:Option Operand} (h:o.op=.makeMap t r) (hv:a3o P H ev t r=.val v H') : New B P ev o H v H':=by
 have key:(∀ (ρ:Rn) (w:World) (e:Operand->Value),EvR ρ ev e->(execOp e o).run P w=.ok (.value (.map (some w.heap.size))) { w with heap:=w.heap.push (.map #[] 0) }) ->
   (H.newK (.map [] 0) fun H2=>R.val (.map H.next) H2)=.val v H'->New B P ev o H v H':=by
  intro hrun hv;rw[Mem.newK_eq] at hv;cases hv;refine⟨fun n=>.map n,_,rfl,rfl,fun ρ w e he hB=>?_⟩;exact⟨_,0,_,_,hrun ρ w e he,rfl,rfl,rfl,rfl,Dm _,fun nm hn=>⟨⟨#[],by simp,rfl,hB⟩,⟨_,_,_,a0l _ _ _,rfl⟩⟩⟩
 unfold a3o at hv;split at hv
 ·simp_all[Instr.makeMap,execOp]
 ·rename_i x;split at hv
  ·rename_i k y kk n hd hy;refine key (fun ρ w e he=>?_) hv;have hu:=he _ _ hy;simp_all[VR,asIntOf,asInt,Av,Instr.makeMap,execOp]
  grind
theorem e2y {t:TypeId} {len:Nat} {parts:Array (Nat×Operand)} (h:o.op=.buildSlice t len parts) (hv:a3e P H t len (Dc ev parts.toList)=.val v H') : New B P ev o H v H':=by
 unfold a3e at hv;split at hv
 ·rename_i el size bytes ps hel hps;obtain⟨hd,i,zv,hi,rfl,rfl,hz,hzs⟩:=a9q hel;split at hv
  ·rename_i z hle hz0;split at hv
   ·rename_i l hl;unfold a0j at hv;rw[Mem.newK_eq] at hv;cases hv;refine⟨fun n=>.sl n 0 len len,_,rfl,rfl,fun ρ w e he hB=>?_⟩;have hpr:=evalParts_PR he hps;obtain⟨zs,hzr,hzc,hze,hz1⟩:=b5x (ρ:=ρ) hi hz hz0 w;have hrep:VRs ρ (rep z len) ((Array.range (len*i.size)).map (zs[· % zs.size]!)).toList:=by
     by_cases h0:len*i.size=0
     ·have hzn:z=[]:=by simp_all[a1o]
      subst hzn;rw[h0];have:rep [] len=[]:=by have:=b3l [] len;simp_all
      grind
     grind[b3m]
    obtain⟨cs,h1,h2,h3⟩:=b5w (place':=fun j=>some (j*i.size,i.size)) (fun _ _ hr=>hr) hpr hrep hl;have hle' : len*i.size<=1048576:=Dp hle;refine b9f hB (cells:=cs) (elem:=el) h2 (u:=.slice (some ⟨w.heap.size,0,none⟩) len len) ?_ fun nm=>⟨_,_,_,a0l _ _ _,Dm _,rfl⟩;have hnl:¬(len*i.size > 2 ^ 24):=by omega
    simp only[execOp,h,Instr.buildSlice,Sem.run_bind,Av hd,Result.andThen_ok,Cu hi];simp only[hnl,if_false];by_cases h0:len*i.size=0
    all_goals simp_all[newRow,a2g]
   grind
  grind
 grind
theorem e2z {t:TypeId} {l c:Operand} (h:o.op=.makeSlice t l c) (hv:a2r P H t (ev l) (ev c)=.val v H') : New B P ev o H v H':=by
 unfold a2r at hv;split at hv
 ·rename_i el size bytes n k hel hn hk;obtain⟨hd,i,zv,hi,rfl,rfl,hz,hzs⟩:=a9q hel;split at hv
  ·rename_i z hc hz0;unfold a0j at hv;rw[Mem.newK_eq] at hv;cases hv;refine⟨fun nm=>.sl nm 0 n k,_,rfl,rfl,fun ρ w e he hB=>?_⟩;have num:∀ {x:Operand} {m:Nat},(ev x).bind natOf=some m->∃ kk,e x=.int kk m:=by
    intro x m hx
    cases hx' : ev x with
    | none=>grind
    | some v=>grind[a7t]
   obtain⟨k1,hn'⟩:=num hn;obtain⟨k2,hk'⟩:=num hk;simp only[Dq] at hc;have hnk:n<=k:=Dp hc.1.1;have hk20:k<=1048576:=Dp hc.1.2;have hb20:i.bytes<=1048576:=Dp hc.2;obtain⟨zs,hzr,hzc,hze,hz1⟩:=b5x (ρ:=ρ) hi hz hz0 w;have hrep:VRs ρ (rep z k) ((Array.range (k*i.size)).map (zs[· % zs.size]!)).toList:=by
    by_cases h0:k*i.size=0
    ·have hzn:z=[]:=by simp_all[a1o]
     subst hzn;rw[h0];have:rep [] k=[]:=by have:=b3l [] k;simp_all
     grind
    grind[b3m]
   refine b9f hB (cells:=(Array.range (k*i.size)).map (zs[· % zs.size]!)) (elem:=el) hrep (u:=.slice (some ⟨w.heap.size,0,none⟩) n k) ?_ fun nm=>⟨_,_,_,a0l _ _ _,hnk,rfl⟩;have w1:IntKind.i64.wrap (n:Int)=n:=b1r (by omega);have w2:IntKind.i64.wrap (k:Int)=k:=b1r (by omega);have hprod:(i.bytes:Int)*k<=2 ^ 48:=by
    have:i.bytes*k<=1099511627776:=Dw (g3w hb20 hk20) (by decide);grind
   simp only[execOp,h,Instr.makeSlice,Sem.run_bind,Av hd,Result.andThen_ok,a3r hi,hn',hk',asInt,asIntOf,Sem.run_pure,w1,w2];have c1:¬((k:Int)<0):=by omega
   have c2:¬((n:Int)<0):=by omega
   have c3:¬((n:Int) > (k:Int)):=by omega
   have c4:¬((i.bytes:Int)*k > 2 ^ 48):=by omega
   simp only[c1,c2,c3,c4,decide_false,g5h,g6o,if_false,run_askRoom,Result.andThen_ok,Sem.run_bind,Cu hi,g4f]
   (split<;>simp_all[newRow,a2g])
  grind
 grind
theorem d0j {op:Op} (h:cls op=.alloc) : (∃ t,op=.alloc t)\/(∃ t x,op=.box t x)\/(∃ t n ps,op=.buildSlice t n ps)\/(∃ t l c,op=.makeSlice t l c)\/(∃ t r,op=.makeMap t r):=by
 (simp_all[cls];grind)
theorem c3h (h:cls o.op=.alloc) (hv:opV P H ev o=.val v H') : New B P ev o H v H':=by
 unfold opV at hv;rcases d0j h with⟨t,hop⟩|⟨t,x,hop⟩|⟨t,n,ps,hop⟩|⟨t,l,c,hop⟩|⟨t,r,hop⟩<;>rw[hop] at hv
 ·exact e2w hop hv
 ·exact e2v hop hv
 ·exact e2y hop hv
 ·exact e2z hop hv
 ·exact e2x hop hv
end Go.Ai
end
section
namespace Go.Ai
open Go.RowKit (Below)
def Gr (r r' : T2 AV) : Prop:=∀ j v,Ct r j=some v->Ct r' j=some v
theorem Gr.refl (r:T2 AV) : Gr r r:=fun _ _ h=>h
theorem Gr.trans {a b c:T2 AV} (h:Gr a b) (k:Gr b c) : Gr a c:=fun j v e=>k j v (h j v e)
theorem a9r {res:T2 AV} {i:Nat} {v:AV} {K:T2 AV->Out} {out:Out} (h:a6n res i v K=out) (hne:out≠.bad) :
  ∃ res',K res'=out/\Gr res res'/\Ct res' i=some v:=by
 unfold a6n at h;split at h
 ·rename_i he;rw[b1p] at h;refine⟨_,h,?_,?_⟩
  ·intro j y hj;unfold Ct at hj |-;have same:d0 i=d0 j->d1 i=d1 j->False:=by
    intro e0 e1;unfold c8l at he;rw[e0,e1] at he
    cases hl:gN (d1 j) (gN (d0 j) res) with
    | e=>rw[hl] at hj;cases hj
    | v k x=>simp_all
   unfold u2;rcases Dg.em (d0 i) (d0 j) with h0|h0
   ·rw[h0,a2v];rcases Dg.em (d1 i) (d1 j) with h1|h1
    all_goals grind[a2w]
   grind[a2w]
  ·unfold Ct;rw[c2t];show Bool.rec (motive:=fun _=>Option AV) none (some v) (Nat.beq i i)=some v;simp
 grind
theorem a9s {t:Nat} : ∀ {l:List Oper} {k j:Nat},a4i t l k=some j->k<=j/\∃ o,l[j-k]?=some o/\o.dst=some t
 | [],_,_,h=>by cases h
 | o :: l,k,j,h=>by
  unfold a4i at h
  cases hd:o.dst with
  | none =>
   rw[hd] at h;obtain⟨h1,o',h2,h3⟩:=a9s h;grind
  | some d =>
   rw[hd] at h;dsimp only at h
   cases hb:Nat.beq d t with
   | true =>
    simp_all
   | false =>
    rw[hb] at h;obtain⟨h1,o',h2,h3⟩:=a9s h;grind
theorem a9t {ops:List Oper} : ∀ {l:List Oper} {k:Nat},fit ops l k=true->∀ i o,l[i]?=some o->a7p ops o (k+i)=true
 | [],_,_,i,o,h=>by grind
 | x :: l,k,h,i,o,ho=>by
  simp only[fit,Dq] at h
  cases i with
  | zero=>grind
  | succ i =>
   have:=a9t h.2 i o (by grind);grind
theorem mem_chainOf:∀ {l:List Oper} {k i:Nat},i∈chainOf l k↔k<=i/\∃ o,l[i-k]?=some o/\Cy o.op=true
 | [],k,i=>by simp[chainOf]
 | x :: l,k,i=>by
  have ih:=@mem_chainOf l (k+1) i;have tail:∀ {o:Oper},k+1<=i->((x :: l)[i-k]?=some o↔l[i-(k+1)]?=some o):=by
   grind
  unfold chainOf;grind
theorem a5x {tab cs:List Nat} {s:Nat} : ∀ {l:List Oper} {k i:Nat},i∈a2e tab cs s l k↔k<=i/\∃ o,l[i-k]?=some o/\Cy o.op=false/\a1r tab i cs=s
 | [],k,i=>by simp[a2e]
 | x :: l,k,i=>by
  have ih:=@a5x tab cs s l (k+1) i;have tail:∀ {o:Oper},k+1<=i->((x :: l)[i-k]?=some o↔l[i-(k+1)]?=some o):=by
   grind
  have hb:(!Cy x.op && Nat.beq (a1r tab k cs) s)=true↔Cy x.op=false/\a1r tab k cs=s:=by
   simp
  unfold a2e;grind
theorem d0k {tab:List Nat} {i:Nat} : ∀ {l:List Nat},(∀ c∈l,Aw tab i c=false)->a1r tab i l=0
 | [],_=>rfl
 | c :: l,h=>by
  unfold a1r;rw[h c (by simp)];exact d0k fun c hc=>h c (by simp[hc])
theorem c3i {tab:List Nat} {i:Nat} {cs:List Nat} (h:∀ c∈cs,Aw tab i c=false) : ∀ {dn:List Nat},a1r tab i (dn++cs)<=dn.length
 | []=>by simp_all[d0k]
 | c :: dn=>by
  have ih:=c3i h (dn:=dn);rw[g6i];unfold a1r;split<;>simp<;>omega
theorem b5z {tab:List Nat} {c:Nat} {cs:List Nat} : ∀ {dn:List Nat},a5u tab (dn++c :: cs)=true->∀ j∈cs,∃ p∈c :: cs,Aw tab j p=true
 | [],h,j,hj=>by
  have:∀ (c:Nat) (cs:List Nat),a5u tab (c :: cs)=true->∀ j∈cs,∃ p∈c :: cs,Aw tab j p=true:=by
   intro c cs
   induction cs generalizing c with
   | nil=>grind
   | cons d cs ih =>
    intro h j hj;simp only[a5u,Dq] at h;grind
  grind
 | d :: dn,h,j,hj=>by
  refine b5z (dn:=dn) ?_ j hj
  cases dn with
  | nil=>simp_all[a5u]
  | cons x dn=>simp_all[a5u]
end Go.Ai
end
section
namespace Go.Ai
open Go.RowKit (Below)
variable {B G:Nat} {P:Program} {ops:Array Oper} {tab:List Nat} {fr0:Fr}
def a9u (B:Nat) (P:Program) (ops:Array Oper) (tab:List Nat) (fr0:Fr) (res:T2 AV) (held:List Nat) (als:Als) (i:Nat) (o:Oper) : Prop :=
  ∃ r0 v,Gr r0 res/\Ct res i=some v /\
    ((b3i tab r0 i o=some false/\v=.lit undef) \/
     (b3i tab r0 i o=some true /\
      ((cls o.op=.free/\∀ H,opV P H (env ops tab fr0 r0 i) o=.val v H) \/
       (cls o.op=.gen/\Ba P (env ops tab fr0 r0 i) o=some v) \/
       (cls o.op=.read/\i∈held) \/
       (∃ f x nm,(∀ (ρ:Rn) (w:World) (e:Operand->Value),EvR ρ (env ops tab fr0 r0 i) e->B<=w.heap.size->ND B P ρ w f x (execOp e o))/\v=f nm/\(i,nm,x)∈als))))
theorem a9u.mono {res res': T2 AV} {held held': List Nat} {als als': Als} {i:Nat} {o:Oper} (h:a9u B P ops tab fr0 res held als i o) (hg:Gr res res')
  (hh:i∈held->i∈held') (ha:∀ nm x,(i,nm,x)∈als->(i,nm,x)∈als') : a9u B P ops tab fr0 res' held' als' i o:=by
 obtain⟨r0,v,h1,h2,h3⟩:=h;refine⟨r0,v,h1.trans hg,hg _ _ h2,h3.imp id fun⟨h4,h5⟩=>⟨h4,h5.imp id fun h5=>h5.imp id fun h5=>h5.imp ?_ ?_⟩⟩
 ·grind
 ·exact fun⟨f,x,nm,a,b,c⟩=>⟨f,x,nm,a,b,ha _ _ c⟩
structure Ph (H H' : Mem) : Prop where
 sim:∀ {B G:Nat} {ρ:Rn} {w:World},Sim B G ρ H w->Sim B G ρ H' w
 le:H.next<=H'.next
theorem Ph.refl (H:Mem) : Ph H H:=⟨id,Dm _⟩
theorem Ph.trans {a b c:Mem} (h:Ph a b) (k:Ph b c) : Ph a c:=⟨fun s=>k.sim (h.sim s),Dw h.le k.le⟩
theorem Ph.add (H:Mem) (x:Blk) : Ph H (H.add x):=by
 refine⟨fun {B G ρ w} s=>?_,Dx _⟩;refine⟨?_,?_,fun a ha=>s.fresh a (Nat.le_of_succ_le ha),?_,g5d s.names,s.base⟩
 ·intro a y hy;rcases Mem.get_add hy with⟨rfl,rfl⟩|⟨hne,hy⟩
  ·exact .inl s.none
  ·exact s.blk a y hy
 ·intro a a' y y' b o k o' k' h h' hne ho hr hr';rcases Mem.get_add h with⟨e1,_⟩|⟨_,g⟩
  ·subst e1;rw[s.none] at hr;grind
  ·rcases Mem.get_add h' with⟨e1,_⟩|⟨_,g'⟩
   ·subst e1;rw[s.none] at hr';grind
   ·exact s.inj a a' y y' b o k o' k' g g' hne ho hr hr'
 ·intro a y ha hy;rcases Mem.get_add hy with⟨rfl,_⟩|⟨hne,hy⟩
  ·have:=s.names;omega
  ·exact s.glob a y ha hy
structure a1t (n:Nat) (H:Mem) (als:Als) : Prop where
 lo:∀ x∈als,n<=x.2.1
 hi:∀ x∈als,x.2.1<H.next
 own:∀ x∈als,∀ y∈als,x.2.1=y.2.1->x=y
theorem a1t.nil (n:Nat) (H:Mem) : a1t n H []:=⟨(fun _ h=>(by cases h)),(fun _ h=>(by cases h)),(fun _ h=>(by cases h))⟩
theorem a1t.sub {n:Nat} {H H': Mem} {als als': Als} (h:a1t n H als) (hs:∀ x∈als',x∈als) (hn:H.next<=H'.next) : a1t n H' als' :=
 ⟨fun x hx=>h.lo x (hs x hx),fun x hx=>Eh (h.hi x (hs x hx)) hn,fun x hx y hy=>h.own x (hs x hx) y (hs y hy)⟩
theorem a1t.cons {n:Nat} {H:Mem} {als:Als} (h:a1t n H als) (hn:n<=H.next) (i:Nat) (x b:Blk) : a1t n (H.add b) ((i,H.next,x) :: als):=by
 refine⟨?_,?_,?_⟩
 ·intro y hy;rcases Dv.1 hy with rfl|hy
  ·grind
  ·exact h.lo y hy
 ·intro y hy;rcases Dv.1 hy with rfl|hy
  ·exact Nat.lt_succ_self _
  ·exact g5z (h.hi y hy)
 ·intro y hy z hz e;rcases Dv.1 hy with rfl|hy<;>rcases Dv.1 hz with rfl|hz
  ·rfl
  ·have:=h.hi z hz;grind
  ·have:=h.hi y hy;grind
  ·exact h.own y hy z hz e
structure Found (B:Nat) (P:Program) (ops:Array Oper) (tab:List Nat) (fr0:Fr) (L:List Nat) (res:T2 AV) (H:Mem) (held:List Nat) (als:Als) (res' : T2 AV) (H' : Mem) (held' : List Nat) (als' : Als) : Prop where
 gr:Gr res res'
 ph:Ph H H'
 keepH:∀ i∈held,i∈held'
 keepA:∀ x∈als,x∈als'
 new:∀ x∈als',x∈als\/H.next<=x.2.1
 ok:∀ n,n<=H.next->a1t n H als->a1t n H' als'
 known:∀ i∈L,∀ o,ops[i]?=some o->a9u B P ops tab fr0 res' held' als' i o
variable {L:List Nat} {res:T2 AV} {H:Mem} {held:List Nat} {als:Als} {K:StF} {out:Out}
theorem e3a {i:Nat} {o:Oper} (ho:ops[i]?=some o) (hk:Cy o.op=false) (hn:cls o.op≠.no) (h:c2q P ops tab fr0 i res H held als K=out) (hne:out≠.bad) :
  ∃ res' H' held' als',K res' H' held' als'=out/\Found B P ops tab fr0 [i] res H held als res' H' held' als':=by
 have only:∀ {res' : T2 AV} {held' : List Nat} {als' : Als},a9u B P ops tab fr0 res' held' als' i o->∀ j∈[i],∀ o',ops[j]?=some o'->a9u B P ops tab fr0 res' held' als' j o':=by
  grind
 unfold c2q at h;rw[ho] at h;dsimp only at h;split at h
 ·rename_i hw;obtain⟨res',h1,h2,h3⟩:=a9r h hne;exact⟨res',H,held,als,h1,h2,Ph.refl _,fun _ h=>h,fun _ h=>h,fun _ h=>.inl h,fun _ _ h=>h,only ⟨res,_,h2,h3,.inl ⟨hw,rfl⟩⟩⟩
 ·rename_i hw;split at h
  ·rename_i hc;split at h
   ·rename_i v H' hv;split at h
    ·rename_i b hb;obtain⟨f,x,e1,e2,hnd⟩:=c3h (B:=B) hc hv;subst e1;subst e2;have hbx:b=x:=by
      rcases Mem.get_add hb with⟨_,e⟩|⟨e,_⟩
      all_goals grind
     subst hbx;obtain⟨res',h1,h2,h3⟩:=a9r h hne;refine⟨res',_,held,_,h1,h2,Ph.add _ _,fun _ h=>h,fun _ h=>g4b _ h,?_,fun n hn hk=>hk.cons hn i b b,only ?_⟩
     ·grind
     ·exact⟨res,_,h2,h3,.inr ⟨hw,.inr (.inr (.inr ⟨f,b,H.next,hnd,rfl,by simp⟩))⟩⟩
    grind
   grind
  ·rename_i hc;split at h
   ·rename_i v hv;obtain⟨res',h1,h2,h3⟩:=a9r h hne;refine⟨res',H,i :: held,als,h1,h2,Ph.refl _,fun _ h=>g4b _ h,fun _ h=>h,fun _ h=>.inl h,fun _ _ h=>h,only ?_⟩;exact⟨res,_,h2,h3,.inr ⟨hw,.inr (.inr (.inl ⟨hc,by simp⟩))⟩⟩
   grind
  ·rename_i hc1 hc2;split at h
   ·rename_i v hv;obtain⟨res',h1,h2,h3⟩:=a9r h hne;refine⟨res',H,held,als,h1,h2,Ph.refl _,fun _ h=>h,fun _ h=>h,fun _ h=>.inl h,fun _ _ h=>h,only ?_⟩;refine⟨res,_,h2,h3,.inr ⟨hw,?_⟩⟩
    cases hc:cls o.op with
    | free =>
     left;refine⟨rfl,?_⟩;unfold quiet at hv;rw[hc] at hv;dsimp only at hv;have hf:freeOp o.op=true:=by
      cases hf:freeOp o.op with
      | true=>rfl
      | false =>
       (simp_all[cls];grind)
     split at hv
     ·rename_i v' H' hv';cases hv;intro H2;have hfr:=c3g hf H v H' hv';grind
     grind
    | gen =>
     right;left;refine⟨rfl,?_⟩;grind[quiet]
    | read=>grind
    | alloc=>grind
    | chain=>grind[Cy]
    | no=>grind
   grind
 grind
theorem stage_sound:∀ (L:List Nat) (res:T2 AV) (H:Mem) (held:List Nat) (als:Als),(∀ i∈L,∃ o,ops[i]?=some o/\Cy o.op=false/\cls o.op≠.no) ->
  b5o P ops tab fr0 L res H held als K=out->out≠.bad ->
  ∃ res' H' held' als',K res' H' held' als'=out/\Found B P ops tab fr0 L res H held als res' H' held' als'
 | [],res,H,held,als,_,h,_=>⟨res,H,held,als,h,Gr.refl _,Ph.refl _,fun _ h=>h,fun _ h=>h,fun _ h=>.inl h,fun _ _ h=>h,fun _ h=>by cases h⟩
 | i :: L,res,H,held,als,hL,h,hne=>by
  obtain⟨o,ho,hk,hn⟩:=hL i (by simp);obtain⟨r1,H1,hd1,al1,h1,f1⟩:=e3a (B:=B) ho hk hn h hne;obtain⟨r2,H2,hd2,al2,h2,f2⟩:=stage_sound L r1 H1 hd1 al1 (fun i hi=>hL i (by grind)) h1 hne;refine⟨r2,H2,hd2,al2,h2,f1.gr.trans f2.gr,f1.ph.trans f2.ph,fun i hi=>f2.keepH i (f1.keepH i hi),fun x hx=>f2.keepA x (f1.keepA x hx),?_,?_,?_⟩
  ·intro x hx;rcases f2.new x hx with h|h
   ·exact f1.new x h
   ·exact .inr (Dw f1.ph.le h)
  ·intro n hn hk;exact f2.ok n (Dw hn f1.ph.le) (f1.ok n hn hk)
  ·intro j hj o' ho';rcases Dv.1 hj with rfl|hj
   ·exact(f1.known j (by simp) o' ho').mono f2.gr (fun h=>f2.keepH _ h) fun nm x h=>f2.keepA _ h
   ·exact f2.known j hj o' ho'
end Go.Ai
end
section
namespace Go.Ai
open Go.RowKit (Below)
variable {B G:Nat} {P:Program}
variable {ρ':Rn} {o:Oper} {ops:Array Oper}
def DR (ρ:Rn) : List Dfr->List Deferred->Prop
 | [],ds=>ds=[]
 | (fn,cap,args) :: l,ds=>∃ (cs as:Array Value) (ds' : List Deferred),ds = { target:=.fn fn cs,args:=as } :: ds'/\VRs ρ cap cs.toList/\VRs ρ args as.toList/\DR ρ l ds'
theorem DR.mono {ρ: Rn} (h:Sub ρ ρ') : ∀ {l:List Dfr} {ds:List Deferred},DR ρ l ds->DR ρ' l ds
 | [],_,r=>r
 | _ :: _,_,⟨cs,as,ds',e,a,b,c⟩=>⟨cs,as,ds',e,a.mono h,b.mono h,DR.mono h c⟩
structure a0v (n:Nat) (ρ:Rn) (fr:Fr) (a:Act) : Prop where
 slot:∀ t v,fr.get t=some v->t<n->VR ρ v (a.tmps.getD t undef)
 dfr:DR ρ fr.defers a.defers
 size:n<=a.tmps.size
 only:∀ t v,fr.get t=some v->t<n
structure St (B G n n0:Nat) (ρ0:Rn) (w0:World) (ρ:Rn) (fr:Fr) (H:Mem) (a:Act) (w:World) : Prop where
 ext:Ext B n0 ρ0 w0 ρ w
 sim:Sim B G ρ H w
 frel:a0v n ρ fr a
 le:n0<=H.next
variable {n n0:Nat} {ρ0 ρ:Rn} {w0 w:World} {fr:Fr} {H:Mem} {a:Act}
theorem St.ev (s:St B G n n0 ρ0 w0 ρ fr H a w) : EvR ρ fr.ev a.eval:=by
 intro x v h
 cases x with
 | tmp t=>exact s.frel.slot t v h (s.frel.only t v h)
 | const c=>cases h;rfl
 | global g=>cases h;rfl
 | func f=>cases h;rfl
theorem a0v.put {u:Value} {v:AV} {d:Option Tmp} (h:a0v n ρ fr a) (hd:∀ t,d=some t->t<n) (hv:VR ρ v u) : a0v n ρ (fr.put d v) (a.put d u):=by
 cases d with
 | none=>exact h
 | some t =>
  have ht:=hd t rfl;refine⟨?_,?_,?_,?_⟩
  ·intro j y hy hj;rcases Fr.get_upd hy with⟨rfl,rfl⟩|⟨hne,hy⟩
   ·show VR ρ y ((a.tmps.setIfInBounds j u).getD j undef);have:j<a.tmps.size:=Eh ht h.size;simp_all
   ·show VR ρ y ((a.tmps.setIfInBounds t u).getD j undef);rw[Array.getD_eq_getD_getElem?,Array.getElem?_setIfInBounds];have:=h.slot j y hy hj
    (split<;>simp_all)
  ·show DR ρ (fr.upd t v).defers a.defers;rw[Fr.defers_upd];exact h.dfr
  ·show n<=(a.tmps.setIfInBounds t u).size;simp;exact h.size
  ·intro j y hy;rcases Fr.get_upd hy with⟨rfl,rfl⟩|⟨hne,hy⟩
   ·grind
   ·exact h.only j y hy
theorem a0v.mono (h:a0v n ρ fr a) (hs:Sub ρ ρ') : a0v n ρ' fr a :=
 ⟨fun t v hv ht=>(h.slot t v hv ht).mono hs,h.dfr.mono hs,h.size,h.only⟩
theorem St.step {H': Mem} {w': World} {v:AV} {u:Value} {d:Option Tmp} (s:St B G n n0 ρ0 w0 ρ fr H a w) (he:Ext B H.next ρ w ρ' w') (hs:Sim B G ρ' H' w') (hv:VR ρ' v u) (hn:H.next<=H'.next)
  (hd:∀ t,d=some t->t<n) : St B G n n0 ρ0 w0 ρ' (fr.put d v) H' (a.put d u) w' :=
 ⟨s.ext.trans he s.le,hs,(s.frel.mono (he.sub s.sim)).put hd hv,Dw s.le hn⟩
def a0d (B G n n0:Nat) (ρ0:Rn) (w0:World) (out:Out) : Exit->Act->World->Prop:=fun e a' w' =>
 match out,e with
 | .norm fr H,.normal=>∃ ρ',St B G n n0 ρ0 w0 ρ' fr H a' w'
 | .exit id fr H,.exit id'=>id'=id/\∃ ρ',St B G n n0 ρ0 w0 ρ' fr H a' w'
 | .ret fr H,.ret=>∃ ρ',St B G n n0 ρ0 w0 ρ' fr H a' w'
 | .panic v fr H,.panic chain=>∃ ρ' u,chain=[{ v:=u,recovered:=false }]/\VR ρ' v u/\St B G n n0 ρ0 w0 ρ' fr H a' w'
 | _,_=>False
def a6r (B G n0:Nat) (ρ0:Rn) (w0:World) (r:Ar) : Ending->World->Prop:=fun e w' =>
 match r,e with
 | .ret v H,.returned u=>∃ ρ',Ext B n0 ρ0 w0 ρ' w'/\Sim B G ρ' H w'/\VR ρ' v u/\n0<=H.next
 | .panic v H,.panicked chain=>∃ ρ' u,chain=[{ v:=u,recovered:=false }]/\VR ρ' v u/\Ext B n0 ρ0 w0 ρ' w'/\Sim B G ρ' H w'/\n0<=H.next
 | _,_=>False
def Az (B G:Nat) (P:Program) (callf:CallF) : Prop:=∀ f args H,callf f args H≠.bad->∀ (ρ:Rn) (us:Array Value) (w:World),Sim B G ρ H w->VRs ρ args us.toList ->
 Calls P f us w (a6r B G H.next ρ w (callf f args H))
theorem a2x (h:Cr n o=true) : ∀ t,o.dst=some t->t<n:=by
 intro t ht;simp_all[Cr]
theorem b9g {g:Nat×Bool} {b:Bool} (s:St B G n n0 ρ0 w0 ρ fr H a w) (ho:o.guard=some g) (h:a9j ops fr g=some b) :
  Region.wanted o (yielded ops a.tmps)=b:=by
 obtain⟨j,want⟩:=g;have slot:∀ {d:Tmp} {v:AV},fr.get d=some v->∃ u,a.tmps[d]?=some u/\VR ρ v u:=by
  intro d v hv;have hlt:=s.frel.only d v hv;have:=s.frel.slot d v hv hlt;have hsz:d<a.tmps.size:=Eh hlt s.frel.size;simp_all
 unfold a9j at h;split at h
 ·rename_i b' hy;unfold c2o at hy;split at hy
  ·rename_i oj hoj;split at hy
   ·rename_i d hd;split at hy
    ·rename_i bb hg;cases hy;obtain⟨u,hu,hv⟩:=slot hg;cases hv;have hyl:yielded ops a.tmps j=some b':=by grind[yielded]
     simp only[Region.wanted,ho,hyl];revert h;cases b'<;>cases want<;>simp<;>exact fun h=>h ▸ rfl
    grind
   grind
  grind
 ·split at h
  ·rename_i oj hoj;split at h
   ·rename_i d hd;split at h
    ·rename_i vs hg;cases h;obtain⟨u,hu,hv⟩:=slot hg;cases hv;grind[yielded,Region.wanted]
    grind
   grind
  grind
theorem a4v (ρ:Rn) : VR ρ (.lit undef) undef:=rfl
theorem d0l {callf:CallF} {rest:List Oper} {k:Fr->Mem->Out} {out:Out} (hc:Az B G P callf) (hG:G=P.globals.size) (hdst:Cr n o=true)
  (s:St B G n n0 ρ0 w0 ρ fr H a w)
  (hk:∀ (fr' : Fr) (H' : Mem) (ρ' : Rn) (a' : Act) (w' : World),St B G n n0 ρ0 w0 ρ' fr' H' a' w'->k fr' H'=out->wpList P ops (a0d B G n n0 ρ0 w0 out) rest a' w')
  (hout:after callf o fr k (opV P H fr.ev o)=out) (hne:out≠.bad) :
  o.wp P a w (wpList P ops (a0d B G n n0 ρ0 w0 out) rest) (a0d B G n n0 ρ0 w0 out):=by
 have hrs:=a5v (o:=o) s.sim s.ev hG;have hd:=a2x hdst;unfold Oper.wp;unfold after at hout
 cases hr:opV P H fr.ev o with
 | val v H' =>
  rw[hr] at hrs hout;obtain⟨ρ',u,w',h1,h2,h3,h4,h5⟩:=hrs;rw[h1];have hout' : k (fr.put o.dst v) H'=out:=by
   have:(fr.putK o.dst v fun fr=>k fr H')=out:=hout;grind[Fr.putK_eq]
  exact hk _ _ _ _ _ (s.step h2 h3 h4 h5 hd) hout'
 | skip H' =>
  rw[hr] at hrs hout;obtain⟨ρ',w',h1,h2,h3,h5⟩:=hrs;rw[h1];have hout' : k (fr.put o.dst (.lit undef)) H'=out:=by
   have:(fr.putK o.dst (.lit undef) fun fr=>k fr H')=out:=hout;grind[Fr.putK_eq]
  exact hk _ _ _ _ _ (s.step h2 h3 (a4v _) h5 hd) hout'
 | enter f args H' =>
  rw[hr] at hrs hout;obtain⟨us,h1,h2,rfl⟩:=hrs;rw[h1]
  have hout' : (match callf f args H' with
   | .ret v H=>fr.putK o.dst v fun fr=>k fr H
   | .panic v H=>.panic v fr H
   | .bad=>.bad)=out:=hout
  cases hcall:callf f args H' with
  | bad=>grind
  | ret v H2 =>
   rw[hcall] at hout';dsimp only at hout';rw[Fr.putK_eq] at hout';have:=hc f args H' (by grind) ρ us w s.sim h2;rw[hcall] at this;refine this.mono fun e w' he=>?_
   cases e with
   | returned u =>
    obtain⟨ρ',g1,g2,g3,g4⟩:=he;exact hk _ _ _ _ _ (s.step g1 g2 g3 g4 hd) hout'
   | panicked chain=>exact he.elim
   | outgrown=>exact he.elim
  | panic v H2 =>
   rw[hcall] at hout';dsimp only at hout';have:=hc f args H' (by grind) ρ us w s.sim h2;rw[hcall] at this;refine this.mono fun e w' he=>?_
   cases e with
   | returned u=>exact he.elim
   | panicked chain =>
    obtain⟨ρ',u,g0,g1,g2,g3,g4⟩:=he;subst hout';exact⟨ρ',u,g0,g1,s.ext.trans g2 s.le,g3,s.frel.mono (g2.sub s.sim),Dw s.le g4⟩
   | outgrown=>exact he.elim
 | dfr fn cap args H' =>
  rw[hr] at hrs hout;obtain⟨cs,as,h1,h2,h3,rfl⟩:=hrs;rw[h1];have hout' : k ((fr.defer (fn,cap,args)).put o.dst (.lit undef)) H'=out:=by
   have:((fr.defer (fn,cap,args)).putK o.dst (.lit undef) fun fr=>k fr H')=out:=hout;grind[Fr.putK_eq]
  have hf:a0v n ρ (fr.defer (fn,cap,args)) { a with defers:={ target:=.fn fn cs,args:=as } :: a.defers } :=
   ⟨fun t v hv ht=>s.frel.slot t v (by grind[Fr.get_defer]) ht,by rw[Fr.defers_defer];exact⟨cs,as,_,rfl,h2,h3,s.frel.dfr⟩,s.frel.size,
    fun t v hv=>s.frel.only t v (by grind[Fr.get_defer])⟩
  exact hk _ _ _ _ _ ⟨s.ext,s.sim,hf.put hd (a4v _),s.le⟩ hout'
 | recover=>rw[hr] at hout;exact absurd hout.symm hne
 | panic v H' =>
  rw[hr] at hrs hout;obtain⟨u,h1,h2,rfl⟩:=hrs;rw[h1];have hout' : Out.panic v fr H'=out:=hout;subst hout';exact⟨ρ,u,rfl,h2,s⟩
 | bad=>rw[hr] at hout;exact absurd hout.symm hne
theorem c3j {callf:CallF} (hc:Az B G P callf) (hG:G=P.globals.size) {out:Out} (hne:out≠.bad) : ∀ (l:List Oper) (fr:Fr) (H:Mem) (ρ:Rn) (a:Act) (w:World),
  (∀ o∈l,Cr n o=true)->St B G n n0 ρ0 w0 ρ fr H a w->b3h P callf ops l fr H=out->wpList P ops (a0d B G n n0 ρ0 w0 out) l a w
 | [],fr,H,ρ,a,w,_,s,h=>by
  have:Out.norm fr H=out:=h;subst this;exact wpList_nil ⟨ρ,s⟩
 | o :: l,fr,H,ρ,a,w,hd,s,h=>by
  have h' : a9k P callf ops o fr H (b3h P callf ops l)=out:=h;have hdo:=hd o (by simp);have hk:∀ (fr' : Fr) (H' : Mem) (ρ' : Rn) (a' : Act) (w' : World),St B G n n0 ρ0 w0 ρ' fr' H' a' w'->b3h P callf ops l fr' H'=out->wpList P ops (a0d B G n n0 ρ0 w0 out) l a' w' :=
   fun fr' H' ρ' a' w' s' hk=>c3j hc hG hne l fr' H' ρ' a' w' (fun o ho=>hd o (by grind)) s' hk
  unfold a9k at h';unfold wpList
  cases hg:o.guard with
  | none =>
   rw[hg] at h';rw[if_pos (by grind[Region.wanted])];exact .inl (d0l hc hG hdo s hk h' hne)
  | some g =>
   rw[hg] at h';have h2:b5l P callf ops o fr H (b3h P callf ops l) g=out:=h';unfold b5l at h2;split at h2
   ·rename_i hw;rw[if_pos (b9g s hg hw)];grind[d0l]
   ·rename_i hw;rw[if_neg (by grind[b9g])];rw[Fr.putK_eq] at h2;exact hk _ _ _ _ _ ⟨s.ext,s.sim,s.frel.put (a2x hdo) (a4v _),s.le⟩ h2
   grind
end Go.Ai
end
section
namespace Go.Ai
open Go.RowKit (Below)
variable {B G:Nat} {P:Program} {ops:Array Oper} {tab:List Nat} {fr0:Fr} {callf:CallF}
variable {H:Mem} {c:Nat}
theorem d0m {ev:Ev} {o:Oper} {H': Mem} {v:AV} (h:cls o.op=.read) (hv:opV P H ev o=.val v H') : H'=H:=by
 have opt:∀ {r:Option AV},ofOpt H r=.val v H'->H'=H:=by
  intro r hr
  cases r with
  | none=>cases hr
  | some x=>cases hr;rfl
 unfold opV at hv;cases hop:o.op<;>rw[hop] at h hv<;>first|(simp[cls,freeOp] at h;done)|skip
 ·rename_i t x;have hv' : a3f P H t (ev x)=.val v H':=hv
  (simp_all[a3f];grind)
 ·rename_i t m k ok;have hv' : a2t P H ev o t (ev m) (ev k) ok=.val v H':=hv
  (simp_all[a2t];grind)
 ·rename_i c;have hv' : Cb P H ev o c=.val v H':=hv;unfold Cb at hv';split at hv'
  ·grind
  ·rename_i args _;simp only[cls,freeOp] at h;split at hv'
   ·(simp_all[a3d,a9h,a4r,a5q];grind)
   all_goals grind
noncomputable def nxt (P:Program) (callf:CallF) (ops:Array Oper) (tab:List Nat) (fr:Fr) (all:List Nat) (k:Nat) (cs:List Nat) (res:T2 AV) (H:Mem) (held:List Nat) (als:Als) : Out :=
 match cs with
 | []=>fin res H ops.toList 0 fr
 | c :: cs=>act P callf ops tab fr c res H fun res H=>b5p P callf ops tab fr all (k+1) cs res H (a4u tab c held) (a3q tab c als)
noncomputable def gate (P:Program) (callf:CallF) (ops:Array Oper) (tab:List Nat) (fr:Fr) (all:List Nat) (k:Nat) (cs:List Nat) (res:T2 AV) (H:Mem) (held:List Nat) (als:Als) : Out :=
 match b1m P ops tab fr res H held && b1n H als with
 | true=>nxt P callf ops tab fr all k cs res H held als
 | false=>.bad
theorem d0n (all:List Nat) (k:Nat) (cs:List Nat) (res:T2 AV) (H:Mem) (held:List Nat) (als:Als) :
  b5p P callf ops tab fr0 all k cs res H held als=b5o P ops tab fr0 (a2e tab all k ops.toList 0) res H held als fun res H held als=>gate P callf ops tab fr0 all k cs res H held als:=by
 cases cs<;>rfl
theorem d0o {res:T2 AV} : ∀ {held:List Nat},b1m P ops tab fr0 res H held=true->∀ i∈held,∃ o v,ops[i]?=some o/\Ct res i=some v/\quiet P H (env ops tab fr0 res i) o=some v
 | [],_,_,h=>by cases h
 | j :: held,h,i,hi=>by
  unfold b1m at h;split at h
  ·rename_i o v ho hv;split at h
   ·rename_i v' hq;split at h
    ·rename_i he;rcases Dv.1 hi with rfl|hi
     ·exact⟨o,v,ho,hv,by rw[hq,eqAV_sound _ _ he]⟩
     ·exact d0o h i hi
    grind
   grind
  grind
theorem c3k {a b:Blk} (h:eqBlk a b=true) : a=b:=by
 unfold eqBlk at h;split at h
 ·simp only[Dq] at h;rw[eqAVs_sound _ _ h.1.1,eq_of_beq h.1.2,Dz h.2]
 all_goals simp_all
theorem d0p : ∀ {als:Als},b1n H als=true->∀ i nm x,(i,nm,x)∈als->H.get nm=some x
 | [],_,_,_,_,h=>by cases h
 | (j,a,b) :: als,h,i,nm,x,hx=>by
  unfold b1n at h;split at h
  ·rename_i b' hb;split at h
   ·rename_i he;rcases Dv.1 hx with e|hx
    ·cases e;rw[hb,c3k he]
    ·exact d0p h i nm x hx
   ·cases h
  ·cases h
theorem b9h {i:Nat} (h:Aw tab c i=false) : ∀ {held:List Nat},i∈held->i∈a4u tab c held
 | [],hi=>by grind
 | j :: held,hi=>by
  unfold a4u;rcases Dv.1 hi with rfl|hi
  ·rw[h];simp
  ·split
   ·exact b9h h hi
   ·exact g4b _ (b9h h hi)
theorem b9i {i:Nat} (h:Aw tab c i=false) : ∀ {als:Als} {nm:Nat} {x:Blk},(i,nm,x)∈als->(i,nm,x)∈a3q tab c als
 | [],_,_,hi=>by grind
 | y :: als,nm,x,hi=>by
  unfold a3q;rcases Dv.1 hi with rfl|hi
  ·rw[h];simp
  ·split
   ·exact b9i h hi
   ·exact g4b _ (b9i h hi)
theorem a9v : ∀ {als:Als},∀ x∈a3q tab c als,x∈als
 | [],_,h=>by cases h
 | y :: als,x,h=>by
  unfold a3q at h;split at h
  ·exact g4b _ (a9v x h)
  ·rcases Dv.1 h with rfl|h
   ·simp
   ·exact g4b _ (a9v x h)
end Go.Ai
end
section
namespace Go.Ai
open Go.RowKit (Below)
variable {i j:Nat} {o:Oper}
def Dn (listed:Array Bool) (i:Nat) : Prop:=listed.getD i false=true
structure a6s (B G n n0:Nat) (P:Program) (ops:Array Oper) (fr0:Fr) (ρ0:Rn) (w0:World) (dn cs:List Nat) (res:T2 AV) (H:Mem) (held:List Nat) (als:Als) (listed:Array Bool) (ρ:Rn) (a:Act) (w:World) : Prop where
 ext:Ext B n0 ρ0 w0 ρ w
 sim:Sim B G ρ H w
 le:n0<=H.next
 size:listed.size=ops.size
 tsz:n<=a.tmps.size
 dfr:DR ρ fr0.defers a.defers
 only:∀ t v,fr0.get t=some v->t<n
 chain:chainOf ops.toList 0=dn++cs
 csN:∀ c∈cs,¬Dn listed c
 down:∀ i o,Dn listed i->ops[i]?=some o->∀ e∈o.after.toList,Region.binds .any e=true->Dn listed e.on
 old:∀ t,(∀ j,a4i t ops.toList 0=some j->¬Dn listed j)->∀ v,fr0.get t=some v->VR ρ v (a.tmps.getD t undef)
 new:∀ j o,Dn listed j->ops[j]?=some o->∃ v,Ct res j=some v/\∀ d,o.dst=some d->VR ρ v (a.tmps.getD d undef)
 known:∀ i o,¬Dn listed i->ops[i]?=some o->Cy o.op=false->a1r (ancs [] ops.toList) i (dn++cs)<=dn.length->a9u B P ops (ancs [] ops.toList) fr0 res held als i o
 aok:a1t n0 H als
 alsN:∀ x∈als,¬Dn listed x.1->ρ x.2.1=none
variable {B G n n0:Nat} {P:Program} {ops:Array Oper} {fr0:Fr} {ρ0 ρ:Rn} {w0 w:World} {dn cs:List Nat} {res:T2 AV} {H:Mem} {held:List Nat} {als:Als} {listed:Array Bool} {a:Act}
structure Rd (ops:Array Oper) (listed:Array Bool) (i:Nat) (o:Oper) : Prop where
 at' : ops[i]?=some o
 un:¬Dn listed i
 all:∀ e∈o.after.toList,Region.binds .any e=true->Dn listed e.on
theorem b9j (h:i∈Region.ready .any ops listed) : ∃ o,Rd ops listed i o:=by
 obtain⟨h1,o,h2,h3⟩:=mem_ready.1 h;refine⟨o,h2,?_,fun e he hb=>h3 e (Array.mem_toList_iff.1 he) hb⟩;grind[Dn]
theorem Rd.anc (r:Rd ops listed i o) (d:a6s B G n n0 P ops fr0 ρ0 w0 dn cs res H held als listed ρ a w) (h:Aw (ancs [] ops.toList) i j=true) : Dn listed j :=
 b9e (listed:=Dn listed) d.down i o j r.at' r.all h
theorem Rd.not_anc (r:Rd ops listed i o) (d:a6s B G n n0 P ops fr0 ρ0 w0 dn cs res H held als listed ρ a w) (hj:j<ops.size) (h:Aw (ancs [] ops.toList) j i=true) : ¬Dn listed j:=by
 intro hd;obtain⟨oj,hoj⟩ : ∃ oj,ops[j]?=some oj:=⟨ops[j],by grind⟩;exact r.un (b9e (listed:=Dn listed) d.down j oj i hoj (d.down j oj hd hoj) h)
theorem a2y (h:ops[i]?=some o) : i<ops.size:=by grind
theorem Cs : ops.toList[i]?=some o↔ops[i]?=some o:=by grind
theorem Dn.set (h:i<listed.size) : Dn (listed.setIfInBounds i true) j↔j=i\/Dn listed j:=by
 (simp_all[Dn];grind)
theorem c3l {r0:T2 AV} (d:a6s B G n n0 P ops fr0 ρ0 w0 dn cs res H held als listed ρ a w) (r:Rd ops listed i o) (hg:Gr r0 res) :
  EvR ρ (env ops (ancs [] ops.toList) fr0 r0 i) a.eval:=by
 intro x v hx
 cases x with
 | tmp t =>
  have hx' : c2p ops (ancs [] ops.toList) fr0 r0 i t=some v:=hx;unfold c2p at hx';split at hx'
  ·rename_i hw;exact d.old t (fun j hj=>by grind) v hx'
  ·rename_i j hw;obtain⟨_,oj,hoj,hdj⟩:=a9s hw;have hoj' : ops[j]?=some oj:=Cs.1 (by grind);split at hx'
   ·rename_i ha;obtain⟨y,hy,hv⟩:=d.new j oj (r.anc d ha) hoj';have:=hg _ _ hx';rw[this] at hy;cases hy;exact hv t hdj
   ·split at hx'
    ·rename_i ha;refine d.old t (fun j' hj'=>?_) v hx';rw[hw] at hj';cases hj';rcases g5r _ _ ▸ ha with h1|h1
     ·exact r.not_anc d (a2y hoj') h1
     ·have:=Dz h1;subst this;exact r.un
    grind
 | const c=>cases hx;rfl
 | global g=>cases hx;rfl
 | func f=>cases hx;rfl
theorem d0q {r0:T2 AV} {b:Bool} (hfit:fit ops.toList ops.toList 0=true) (hdst:∀ (j:Nat) (o:Oper),ops[j]?=some o->Cr n o=true)
  (d:a6s B G n n0 P ops fr0 ρ0 w0 dn cs res H held als listed ρ a w) (r:Rd ops listed i o) (hg:Gr r0 res) (h:b3i (ancs [] ops.toList) r0 i o=some b) :
  Region.wanted o (yielded ops a.tmps)=b:=by
 unfold b3i at h;split at h
 ·grind[Region.wanted]
 ·rename_i g hgd;obtain⟨j,want⟩:=g;have hone:=a9t hfit i o (Cs.2 r.at');unfold a7p at hone;simp only[Dq] at hone;have hgo:=hone.2;rw[hgd] at hgo;dsimp only at hgo;split at hgo
  ·rename_i oj hoj;have hoj' : ops[j]?=some oj:=Cs.1 hoj;obtain⟨t,ht⟩:=Option.isSome_iff_exists.1 hgo;have slot:∀ {v:AV},Aw (ancs [] ops.toList) i j=true->Ct r0 j=some v->∃ u,a.tmps[t]?=some u/\VR ρ v u:=by
    intro v ha hv;obtain⟨y,hy,hv'⟩:=d.new j oj (r.anc d ha) hoj';rw[hg _ _ hv] at hy;cases hy;have hlt:t<n:=a2x (hdst j oj hoj') t ht;have hsz:t<a.tmps.size:=Eh hlt d.tsz;simp_all
   unfold c8k at h;split at h
   ·rename_i b' ha hb;obtain⟨u,hu,hv⟩:=slot ha hb;cases hv;have hyl:yielded ops a.tmps j=some b':=by grind[yielded]
    simp only[Region.wanted,hgd,hyl];revert h;cases b'<;>cases want<;>simp<;>exact fun h=>h ▸ rfl
   ·rename_i vs ha hb;obtain⟨u,hu,hv⟩:=slot ha hb;cases hv;grind[yielded,Region.wanted]
   grind
  grind
end Go.Ai
end
section
namespace Go.Ai
open Go.RowKit (Below)
variable {B G n n0:Nat} {P:Program} {ops:Array Oper} {fr0:Fr} {ρ0 ρ:Rn} {w0 w:World} {dn cs:List Nat} {res:T2 AV} {H:Mem} {held:List Nat} {als:Als} {listed:Array Bool} {a:Act}
theorem b3n {i t:Nat} {o:Oper} (hfit:fit ops.toList ops.toList 0=true) (ho:ops[i]?=some o) (hd:o.dst=some t) : a4i t ops.toList 0=some i:=by
 have hone:=a9t hfit i o (Cs.2 ho);unfold a7p at hone;simp only[Dq] at hone;have h:=hone.1.1.1;rw[hd] at h;dsimp only at h;split at h
 all_goals simp_all
theorem b9k {d:Option Tmp} {t:Tmp} {u:Value} (h:d≠some t) : (a.put d u).tmps.getD t undef=a.tmps.getD t undef:=by
 cases d with
 | none=>rfl
 | some d =>
  have hne:d≠t:=fun e=>h (by rw[e]);show (a.tmps.setIfInBounds d u).getD t undef=_;simp_all
theorem d0r {t:Tmp} {u:Value} (h:t<a.tmps.size) : (a.put (some t) u).tmps.getD t undef=u:=by
 show (a.tmps.setIfInBounds t u).getD t undef=_;simp_all
theorem d0s (d:Option Tmp) (u:Value) : (a.put d u).tmps.size=a.tmps.size:=by
 cases d with
 | none=>rfl
 | some d=>show (a.tmps.setIfInBounds d u).size=_;simp
theorem b3o (d:Option Tmp) (u:Value) : (a.put d u).defers=a.defers:=by cases d<;>rfl
theorem a6s.go {i:Nat} {o:Oper} {ρ': Rn} {w': World} {u:Value} {v:AV} {dn' cs': List Nat} {res': T2 AV} {H': Mem} {held': List Nat} {als': Als}
  (hfit:fit ops.toList ops.toList 0=true) (hdst:∀ (j:Nat) (o:Oper),ops[j]?=some o->Cr n o=true)
  (d:a6s B G n n0 P ops fr0 ρ0 w0 dn cs res H held als listed ρ a w) (r:Rd ops listed i o)
  (hext:Ext B n0 ρ w ρ' w') (hsub:Sub ρ ρ') (hs:Sim B G ρ' H' w') (hle:n0<=H'.next) (hgr:Gr res res') (hv:Ct res' i=some v) (hr:VR ρ' v u)
  (hchain:chainOf ops.toList 0=dn'++cs') (hcs:∀ c∈cs',c≠i/\c∈cs)
  (hkn:∀ j oj,j≠i->¬Dn listed j->ops[j]?=some oj->Cy oj.op=false->a1r (ancs [] ops.toList) j (dn'++cs')<=dn'.length->a9u B P ops (ancs [] ops.toList) fr0 res' held' als' j oj)
  (haok:a1t n0 H' als') (haln:∀ x∈als',x.1≠i->¬Dn listed x.1->ρ' x.2.1=none) :
  a6s B G n n0 P ops fr0 ρ0 w0 dn' cs' res' H' held' als' (listed.setIfInBounds i true) ρ' (a.put o.dst u) w':=by
 have hi:i<listed.size:=by rw[d.size];exact a2y r.at'
 have dset:∀ j,Dn (listed.setIfInBounds i true) j↔j=i\/Dn listed j:=fun j=>Dn.set hi;refine⟨d.ext.trans hext (Dm _),hs,hle,by simp[d.size],by rw[d0s];exact d.tsz,by rw[b3o];exact d.dfr.mono hsub,d.only,hchain,?_,?_,?_,?_,?_,haok,?_⟩
 ·intro c hc hd;rcases (dset c).1 hd with e|h
  ·grind
  ·exact d.csN c (hcs c hc).2 h
 ·intro j oj hj hoj e he hb;rcases (dset j).1 hj with e1|h
  ·subst e1;rw[r.at'] at hoj;cases hoj;exact(dset _).2 (.inr (r.all e he hb))
  ·exact(dset _).2 (.inr (d.down j oj h hoj e he hb))
 ·intro t ht y hy;have hne:o.dst≠some t:=fun e=>ht i (b3n hfit r.at' e) ((dset i).2 (.inl rfl));rw[b9k hne];exact(d.old t (fun j hj hd=>ht j hj ((dset j).2 (.inr hd))) y hy).mono hsub
 ·intro j oj hj hoj;by_cases e:j=i
  ·subst e;rw[r.at'] at hoj;cases hoj;refine⟨v,hv,fun t ht=>?_⟩;have hlt:t<a.tmps.size:=Eh (a2x (hdst j _ r.at') t ht) d.tsz;grind[d0r]
  ·rcases (dset j).1 hj with e1|h
   ·grind
   ·obtain⟨y,h1,h2⟩:=d.new j oj h hoj;refine⟨y,hgr _ _ h1,fun t ht=>?_⟩;have hne:o.dst≠some t:=by
     intro e1;have h3:=b3n hfit r.at' e1;rw[b3n hfit hoj ht] at h3;grind
    rw[b9k hne];exact(h2 t ht).mono hsub
 all_goals grind
end Go.Ai
end

