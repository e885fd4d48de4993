/- A small verified interpreter over names, its proofs, and what was proved with it. No condition. -/
import Derived.Laws.Tables
import Derived.Laws.Append
import Derived.Laws.BytesString
import Derived.Laws.IdiomStrings
import Derived.Test.YtpimmmnkcgnjjaaGreatL01
set_option linter.all false
set_option linter.deprecated false
section
namespace Go.Ai
abbrev Gb:=Nat→Option Blk
abbrev Wd:=List Int
abbrev Wq:=List Wd
abbrev Lq:=List (Wd×Wd)
abbrev Tq:=List (List (Int×Int))
abbrev AV.li (n:Int):AV:=.lit (.int .i64 n)
abbrev AV.nl:AV:=.lit (.slice none 0 0)
end Go.Ai
end
section
namespace Go.Ai
open Go.RowKit (Below)
variable {B G:Nat} {ρ:Rn} {H:Mem} {w:World} {P:Program}
variable {t:TypeId} {k:Nat} {u u':Value} {n:Int} {x y:Operand} {b:Bool}
theorem c2b (a b:Int) : iEq a b=(a == b):=by
 cases a<;>cases b<;>refine g5i.2 ?_<;>simp[iEq]<;>omega
theorem b5d (a b:Int) : iLt a b=decide (a<b):=by
 cases a<;>cases b<;>refine g5i.2 ?_<;>simp only[iLt,Nat.blt,g4t,decide_eq_true_eq]<;>first|omega|grind
theorem c9j (a b:Int) : decide (a<=b) = !decide (b<a):=by
 grind
theorem e1e (h:c8b n=true) : -9223372036854775808<=n/\n<=9223372036854775807:=by
 cases n with
 | ofNat m=>have:m<=9223372036854775807:=Dq h;grind
 | negSucc m=>have:m<=9223372036854775807:=Dq h;grind
theorem b1g (h : -9223372036854775808<=n/\n<=9223372036854775807) : IntKind.i64.wrap n=n:=by
 (simp_all[IntKind.signed,IntKind.bits,IntKind.wrap];grind)
theorem c9k {m:Nat} (h:m<=255) : IntKind.u8.wrap (Int.ofNat m)=Int.ofNat m:=by
 (simp_all[IntKind.signed,IntKind.bits,IntKind.wrap];grind)
theorem c9l {k:IntKind} {n:Int} {v:AV} (h:b0z k n=some v) : v=.lit (.int k (k.wrap n)):=by
 unfold b0z at h;split at h
 ·grind[e1e,b1g]
 ·split at h
  all_goals grind[Nat.le_of_ble_eq_true,c9k]
 grind
theorem b1h (b:Bool) : bv b=some (.lit (.bool b)):=by cases b<;>rfl
theorem e1f {k k': IntKind} (h:kEq k k'=true) : k=k':=by
 (simp_all[kEq];grind)
theorem e1g {op:BinOp} {x y v:AV} (t:TypeId) (h:Cl op x y=some v) (hx:VR ρ x u) (hy:VR ρ y u') :
  ∃ r,(binOp op t u u').run P w=.ok r w/\VR ρ v r/\∃ k k' a b,u=.int k a/\u'=.int k' b:=by
 unfold Cl at h;split at h
 ·rename_i k a k' b;cases hx;cases hy;split at h
  ·rename_i hk;have:=e1f hk;subst this;have ar:∀ n,b0w n (b0z k)=some v->(binOp op t (.int k a) (.int k b)).run P w=.ok (.int k (k.wrap n)) w ->
     ∃ r,(binOp op t (.int k a) (.int k b)).run P w=.ok r w/\VR ρ v r/\∃ k0 k' a' b',Value.int k a=.int k0 a'/\Value.int k b=.int k' b':=fun n hn hr=>by
    rw[c8v] at hn;exact⟨_,hr,(c9l hn) ▸ rfl,_,_,_,_,rfl,rfl⟩
   have cp:∀ c,bv c=some v->(binOp op t (.int k a) (.int k b)).run P w=.ok (.bool c) w ->
     ∃ r,(binOp op t (.int k a) (.int k b)).run P w=.ok r w/\VR ρ v r/\∃ k0 k' a' b',Value.int k a=.int k0 a'/\Value.int k b=.int k' b':=fun c hc hr=>by
    rw[b1h] at hc;cases hc;exact⟨_,hr,rfl,_,_,_,_,rfl,rfl⟩
   cases op
   case add=>simp_all[Op.intArith,binOp]
   case sub=>(simp_all[Op.intArith,binOp];grind)
   case mul=>simp_all[Op.intArith,binOp]
   case eql=>exact cp _ h (by simp[binOp,Op.intCmp,c2b])
   case neq=>exact cp _ h (by simp[binOp,Op.intCmp,c2b];rfl)
   case lss=>exact cp _ h (by simp[binOp,Op.intCmp,b5d])
   case leq=>exact cp _ h (by simp[c9j,b5d,Op.intCmp,binOp])
   case gtr=>exact cp _ h (by simp[binOp,Op.intCmp,b5d])
   case geq=>exact cp _ h (by simp[c9j,b5d,Op.intCmp,binOp])
   all_goals cases h
  grind
 grind
section one
variable {ev:Ev} {e:Operand→Value} {o:Oper} (s:Sim B G ρ H w) (he:EvR ρ ev e)
theorem c9m {op:BinOp} {a b:Value} (h1:¬(a=.nilIface/\b=.nilIface)) (h2:∀ c d,¬(a=.agg c/\b=.agg d)) (w:World) : (eqGuard op t x y a b).run P w=.ok () w:=by
  cases op<;>first
    | rfl
    | (simp only[eqGuard,Bool.not_true,g5j,if_false]
       simp_all)
theorem c9n {l:Nat} {d:Option TypeDesc} (h:(Nat.beq k l && Nat.beq k (descKind d))=true) : k=l/\k=descKind d:=by
 (simp_all;grind)
inductive NK:Nat->Bool->Value->Prop
 | p1 (a) : NK 1 false (.pointer (some a))
 | n1:NK 1 true (.pointer none)
 | p2 (a n c) : NK 2 false (.slice (some a) n c)
 | n2 (n c) : NK 2 true (.slice none n c)
 | p3 (r) : NK 3 false (.map (some r))
 | n3:NK 3 true (.map none)
 | p4 (f a b) : NK 4 false (.func f a b)
 | n4:NK 4 true .nilFunc
 | p5 (t v) : NK 5 false (.iface t v)
 | n5:NK 5 true .nilIface
theorem b7v {a:AV} (h:nilKind a=some (k,b)) (ha:VR ρ a u) : NK k b u:=by
 unfold nilKind at h;split at h<;>cases h
 ·obtain⟨_,_,_,_,rfl⟩:=ha;exact .p1 _
 ·cases ha;exact .n1
 ·obtain⟨_,_,_,_,_,rfl⟩:=ha;exact .p2 _ _ _
 ·obtain⟨_,_,_,_,_,rfl⟩:=ha;exact .p2 _ _ _
 ·obtain⟨_,_,rfl⟩:=ha;exact .p2 _ _ _
 ·cases ha;exact .n2 _ _
 ·obtain⟨_,_,_,_,rfl⟩:=ha;exact .p3 _
 ·cases ha;exact .n3
 ·obtain⟨_,_,rfl,_⟩:=ha;exact .p4 _ _ _
 ·cases ha;exact .n4
 ·obtain⟨_,rfl,_⟩:=ha;exact .p5 _ _
 ·cases ha;exact .n5
theorem e1h {d:Option TypeDesc} (h:k=descKind d) (h0:k≠0) : ∃ t,d=some t/\(match k,t with|1,.pointer _=>True|2,.slice _=>True|3,.map _ _=>True|4,.func _ _ _=>True|5,.interface _=>True|_,_=>False):=by
 subst h;unfold descKind at h0 |-;grind
theorem e1i (n:Nat) (hd:k=descKind (P.underlying t)) (h1:NK k b u) (h2:NK k (!b) u') (w:World) :
  (Op.equalIn (n+1) t u u').run P w=.ok false w:=by
 have h0:k≠0:=by cases h1<;>simp
 obtain⟨d,hdd,hm⟩:=e1h hd h0;have hu:=Au hdd w;cases h1<;>cases h2<;>cases d<;>first
  | exact hm.elim
  | simp[Op.equalIn,hu]
theorem c9o (hd:k=descKind (P.underlying t)) (h1:NK k b u) (h2:NK k (!b) u') (w:World) :
  (Op.equal t u u').run P w=.ok false w/\¬(u=.nilIface/\u'=.nilIface)/\(∀ c d,¬(u=.agg c/\u'=.agg d)) /\
   (binOp .eql t u u'=do pure (.bool (<- Op.equal t u u')))/\(binOp .neq t u u'=do pure (.bool (!(<- Op.equal t u u')))):=by
 have he:(Op.equal t u u').run P w=.ok false w:=e1i 9999 hd h1 h2 w;refine⟨he,?_⟩;clear he;cases h1<;>cases h2<;>exact⟨by simp,by simp,rfl,rfl⟩
include s he
theorem e1j {op:BinOp} {ty:TypeId} (h:o.op=.binOp op t x y ty) : RS B G P ρ H w (b2v P H op t (ev x) (ev y)) (execOp e o):=by
 unfold b2v;split
 ·rename_i a b ha hb;have key:c1h (P.underlying t) a b=true->(Op.equal t (e x) (e y)).run P w=.ok false w/\¬(e x=.nilIface/\e y=.nilIface)/\(∀ c d,¬(e x=.agg c/\e y=.agg d)) /\
   (binOp .eql t (e x) (e y)=do pure (.bool (<- Op.equal t (e x) (e y))))/\(binOp .neq t (e x) (e y)=do pure (.bool (!(<- Op.equal t (e x) (e y))))):=by
   intro hn;unfold c1h at hn;split at hn
   ·rename_i k l h1 h2;obtain⟨rfl,hk⟩:=c9n hn;exact c9o hk (b7v h1 (he _ _ ha)) (b7v h2 (he _ _ hb)) w
   ·rename_i k l h1 h2;obtain⟨rfl,hk⟩:=c9n hn;exact c9o hk (b7v h1 (he _ _ ha)) (b7v h2 (he _ _ hb)) w
   grind
  split
  ·rename_i hn;obtain⟨h1,h2,h3,h4,h5⟩:=key hn;exact RS.quiet s (u:=.bool false) (by simp_all[c9m,execOp]) rfl
  ·rename_i hn;obtain⟨h1,h2,h3,h4,h5⟩:=key hn;exact RS.quiet s (u:=.bool true) (by simp_all[c9m,execOp]) rfl
  ·trivial
 ·trivial
theorem e1k {op:BinOp} {ty:TypeId} (h:o.op=.binOp op t x y ty) : RS B G P ρ H w (Bq P H ev o op t (ev x) (ev y)) (execOp e o):=by
 unfold Bq;split
 ·rename_i v hv;unfold b4p at hv;split at hv
  ·rename_i a b ha hb;obtain⟨r,hr,hvr,k,k',n,m,hu,hu'⟩:=e1g (P:=P) (w:=w) t hv (he _ _ ha) (he _ _ hb);simp_all[RS.quiet,eqGuard,execOp]
  grind
 ·split
  ·rename_i r hr;obtain⟨u,h1,h2⟩:=a9c (P:=P) (w:=w) (by grind) he hr;grind[RS.quiet]
  ·exact e1j s he h
end one
end Go.Ai
end
section
namespace Go.Ai
open Go.RowKit (Below)
variable {B G:Nat} {ρ:Rn} {H:Mem} {w:World} {P:Program}
variable {n l h:Nat}
def NB (v:Option Value) (d n:Nat) : Prop:=(v=none/\n=d)\/∃ k,v=some (.int k n)
theorem e1l {k:IntKind} {y:Nat} (h:n<=y) (code:BoundsCode) (w:World) : (Instr.sliceBound (.int k n) y code).run P w=.ok n w:=by
 simp[Instr.sliceBound,asIntOf,h]
theorem a9d {isS:Bool} {c m:Nat} {lo hi mx:Option Value} (hl:NB lo 0 l) (hh:NB hi n h) (hm:NB mx c m) (ok:mx≠none->hi≠none) (h1:l<=h) (h2:h<=m) (h3:m<=c) (w:World) :
  (Instr.sliceBounds isS n c lo hi mx).run P w=.ok (l,h,m) w:=by
 rcases hm with⟨rfl,rfl⟩|⟨km,rfl⟩<;>rcases hh with⟨rfl,rfl⟩|⟨kh,rfl⟩<;>rcases hl with⟨rfl,rfl⟩|⟨kl,rfl⟩ <;>
  first
  | (simp_all[e1l,Instr.sliceBounds])
  | grind
theorem e1m {lo hi mx:Option AV} {lo' hi' mx': Option Value} {c m:Nat} (hb:a0f lo hi mx n c=some (l,h,m))
  (hl:∀ v,lo=some v->∃ u,lo'=some u/\VR ρ v u) (hl0:lo=none->lo'=none)
  (hh:∀ v,hi=some v->∃ u,hi'=some u/\VR ρ v u) (hh0:hi=none->hi'=none)
  (hm:∀ v,mx=some v->∃ u,mx'=some u/\VR ρ v u) (hm0:mx=none->mx'=none) :
  NB lo' 0 l/\NB hi' n h/\NB mx' c m/\(mx'≠none->hi'≠none)/\l<=h/\h<=m/\m<=c:=by
 unfold a0f at hb;split at hb
 ·rename_i l' h' m' e1 e2 e3 e4;split at hb
  ·rename_i hc;cases hb;simp only[Ds] at hc;have nb:∀ {v:Option AV} {v' : Option Value} {d k:Nat},a5y v d=some k->(∀ x,v=some x->∃ u,v'=some u/\VR ρ x u)->(v=none->v'=none)->NB v' d k:=by
    intro v v' d k hk h1 h2
    cases v with
    | none=>simp[a5y] at hk;exact .inl ⟨h2 rfl,hk.symm⟩
    | some x =>
     simp only[a5y] at hk;obtain⟨u,hu,hv⟩:=h1 x rfl;obtain⟨kk,rfl⟩:=a7p hk hv;exact .inr ⟨kk,hu⟩
   refine⟨nb e1 hl hl0,nb e2 hh hh0,nb e3 hm hm0,?_,Dq hc.1.1,Dq hc.1.2,Dq hc.2⟩;intro hne
   cases mx with
   | none=>grind
   | some x=>cases hi with
    | none=>simp[b2t] at e4
    | some y=>grind
  grind
 grind
section one
variable {ev:Ev} {e:Operand→Value} {o:Oper} (s:Sim B G ρ H w) (he:EvR ρ ev e)
theorem b7w {size a off m:Nat} {v:AV} (hv:a5z size a off (some (l,h,m))=some v) : v=if m=l then .sl a off 0 0 else .sl a (off+l*size) (h-l) (m-l):=by
 unfold a5z at hv;dsimp only at hv;split at hv
 all_goals (split<;>simp_all[a0y])
include s he
theorem e1n {t:TypeId} {x:Operand} {lo hi mx:Option Operand} (h:o.op=.slice t x lo hi mx) : RS B G P ρ H w (a0b P H ev o t (ev x) lo hi mx) (execOp e o):=by
 unfold a0b;split
 ·rename_i r hr;obtain⟨u,h1,h2⟩:=a9c (P:=P) (w:=w) (by grind) he hr;grind[RS.quiet]
 ·unfold a3g;split
  ·rename_i v hv;split
   ·rename_i lo' hi' mx' h1 h2 h3;have ho:∀ {y:Option Operand} {y' : Option AV},a1w ev y=some y'->(∀ v,y'=some v->∃ u,y.map e=some u/\VR ρ v u)/\(y'=none->y.map e=none):=by
     intro y y' hy
     cases y with
     | none=>grind[a1w]
     | some y =>
      simp only[a1w] at hy;grind
    have bs:∀ {n c l hh m:Nat},a0f lo' hi' mx' n c=some (l,hh,m)->_:=fun {n c l hh m} hb =>
     e1m hb (ho h1).1 (ho h1).2 (ho h2).1 (ho h2).2 (ho h3).1 (ho h3).2
    refine RS.ofOpt s fun r hr=>?_;unfold b7j at hr;split at hr
    ·rename_i el hd;split at hr
     ·rename_i info hinfo;unfold a6a at hr;split at hr
      ·rename_i a off n c;obtain⟨b,q,k,hp,hle,hu⟩:=he _ _ hv
       cases hb:a0f lo' hi' mx' n c with
       | none=>rw[hb] at hr;cases hr
       | some y =>
        obtain⟨l,hh,m⟩:=y;rw[hb] at hr;obtain⟨b1,b2,b3,b4,b5,b6,b7⟩:=bs hb;have:=b7w hr;subst this;refine⟨.slice (if m=l then some ⟨b,q+off,none⟩ else some ⟨b,q+off+l*info.size,none⟩) (hh-l) (m-l),?_,?_⟩
        ·simp[execOp,h,Instr.sliceAt,Instr.slice,Au hd,hu,a9d b1 b2 b3 b4 b5 b6 b7,Cq hinfo,a2q]
        ·split
         ·rename_i hml;exact⟨b,q,k,hp,Dp _,by grind⟩
         ·exact⟨b,q,k,hp,by omega,by grind⟩
      ·rename_i a off n d;obtain⟨b,q,k,hp,hle,hu⟩:=he _ _ hv;split at hr
       ·cases hb:a0f lo' hi' none n n with
        | none=>rw[hb] at hr;cases hr
        | some y =>
         obtain⟨l,hh,m⟩:=y;rw[hb] at hr;obtain⟨b1,b2,b3,b4,b5,b6,b7⟩:=bs hb;have hmx:=(ho h3).2 rfl;have b3' : NB (mx.map e) (k-d) (k-d):=.inl ⟨hmx,rfl⟩;unfold b7i at hr;dsimp only at hr;split at hr
         ·rename_i hlt;simp only[a0y] at hr;cases hr;have hlt' : l<n:=by simp_all
          refine⟨.slice (some ⟨b,q+off+l*info.size,none⟩) (hh-l) (k-d-l),?_,⟨b,q,k,hp,by omega,by grind⟩⟩;have hne:¬(k-d=l):=by omega
          simp[execOp,h,Instr.sliceAt,Instr.slice,Au hd,hu,a9d b1 b2 b3' b4 b5 (show hh<=k-d by omega) (Dp _),Cq hinfo,a2q,hne]
         ·rename_i hlt;cases hr;have hlt' : ¬ l<n:=fun h0=>by
           have:Nat.blt l n=true:=g4t.symm ▸ (show l+1<=n from h0);grind
          have hhl:hh-l=0:=by omega
          refine⟨.slice (if k-d=l then some ⟨b,q+off,none⟩ else some ⟨b,q+off+l*info.size,none⟩) (hh-l) (k-d-l),?_,?_⟩
          ·simp[execOp,h,Instr.sliceAt,Instr.slice,Au hd,hu,a9d b1 b2 b3' b4 b5 (show hh<=k-d by omega) (Dp _),Cq hinfo,a2q]
          ·rw[hhl];split<;>exact⟨_,_,rfl⟩
       ·rename_i mv
        cases hb:a0f lo' hi' (some mv) n n with
        | none=>rw[hb] at hr;cases hr
        | some y =>
         obtain⟨l,hh,m⟩:=y;rw[hb] at hr;obtain⟨b1,b2,b3,b4,b5,b6,b7⟩:=bs hb;have b3' : NB (mx.map e) (k-d) m:=by
          rcases b3 with⟨h0,_⟩|h0
          ·grind
          ·exact .inr h0
         have:=b7w hr;subst this;refine⟨.slice (if m=l then some ⟨b,q+off,none⟩ else some ⟨b,q+off+l*info.size,none⟩) (hh-l) (m-l),?_,?_⟩
         ·simp[execOp,h,Instr.sliceAt,Instr.slice,Au hd,hu,a9d b1 b2 b3' b4 b5 b6 (show m<=k-d by omega),Cq hinfo,a2q]
         ·split
          ·rename_i hml;exact⟨b,q,k,hp,Dp _,by grind⟩
          ·exact⟨b,q,k,hp,by omega,by grind⟩
      ·obtain⟨ad,c,hu⟩:=he _ _ hv
       cases hb:a0f lo' hi' mx' 0 0 with
       | none=>grind
       | some y =>
        obtain⟨l,hh,m⟩:=y;rw[hb] at hr;cases hr;obtain⟨b1,b2,b3,b4,b5,b6,b7⟩:=bs hb;obtain rfl:m=0:=by omega
        obtain rfl:hh=0:=by omega
        obtain rfl:l=0:=by omega
        rcases b3 with⟨h0,_⟩|h0
        ·have b3' : NB (mx.map e) c c:=.inl ⟨h0,rfl⟩;refine⟨.slice (if c=0 then some ad else some (ad.add 0)) 0 c,?_,by split<;>exact⟨_,_,rfl⟩⟩;simp[execOp,h,Instr.sliceAt,Instr.slice,Au hd,hu,a9d b1 b2 b3' b4 (Dp _) (Du c) (Dp _),Cq hinfo]
        ·have b3' : NB (mx.map e) c 0:=.inr h0;refine⟨.slice (some ad) 0 0,?_,⟨_,_,rfl⟩⟩;simp[execOp,h,Instr.sliceAt,Instr.slice,Au hd,hu,a9d b1 b2 b3' b4 (Dp _) (Dp _) (Du c),Cq hinfo]
      grind
     grind
    ·rename_i arr hd;split at hr
     ·rename_i n el a off hda;obtain⟨b,q,k,hp,hu⟩:=he _ _ hv;split at hr
      ·rename_i info hinfo
       cases hb:a0f lo' hi' mx' n n with
       | none=>rw[hb] at hr;cases hr
       | some y =>
        obtain⟨l,hh,m⟩:=y;rw[hb] at hr;obtain⟨b1,b2,b3,b4,b5,b6,b7⟩:=bs hb;have:=b7w hr;subst this;refine⟨.slice (some (if m=l then ⟨b,q+off,none⟩ else ⟨b,q+off+l*info.size,none⟩)) (hh-l) (m-l),?_,?_⟩
        ·simp[execOp,h,Instr.sliceAt,Instr.slice,Au hd,Au hda,asAddr,hu,a9d b1 b2 b3 b4 b5 b6 b7,Cq hinfo,a2q]
        ·split
         ·rename_i hml;exact⟨b,q,k,hp,Dp _,by grind⟩
         ·exact⟨b,q,k,hp,by omega,by grind⟩
      grind
     grind
    ·rename_i n el hd;split at hr
     ·rename_i info a off hinfo;obtain⟨b,q,k,hp,hu⟩:=he _ _ hv
      cases hb:a0f lo' hi' mx' n n with
      | none=>rw[hb] at hr;cases hr
      | some y =>
       obtain⟨l,hh,m⟩:=y;rw[hb] at hr;obtain⟨b1,b2,b3,b4,b5,b6,b7⟩:=bs hb;have:=b7w hr;subst this;refine⟨.slice (some (if m=l then ⟨b,q+off,none⟩ else ⟨b,q+off+l*info.size,none⟩)) (hh-l) (m-l),?_,?_⟩
       ·simp[execOp,h,Instr.sliceAt,Au hd,Instr.sureAddr,hu,a9d b1 b2 b3 b4 b5 b6 b7,Cq hinfo,a2q]
       ·split
        ·rename_i hml;exact⟨b,q,k,hp,Dp _,by grind⟩
        ·exact⟨b,q,k,hp,by omega,by grind⟩
     grind
    grind
   ·trivial
  ·trivial
end one
end Go.Ai
end
section
namespace Go.Ai
open Go.RowKit (Below)
variable {B G:Nat} {ρ:Rn} {H:Mem} {w:World} {P:Program}
theorem c9p (off:Nat) : ∀ (us:List Value) (k:Nat) (cs:Array Value),off+k+us.length<=cs.size ->
  ((us.zipIdx k).foldl (fun cs (x:Value×Nat)=>cs.setIfInBounds (off+x.2) x.1) cs).size=cs.size /\
  ∀ j,((us.zipIdx k).foldl (fun cs (x:Value×Nat)=>cs.setIfInBounds (off+x.2) x.1) cs)[j]?=if off+k<=j/\j<off+k+us.length then us[j-(off+k)]? else cs[j]?
 | [],k,cs,_=>⟨rfl,fun j=>by simp[if_neg]⟩
 | u :: us,k,cs,h=>by
  simp only[Ek] at h;obtain⟨h1,h2⟩:=c9p off us (k+1) (cs.setIfInBounds (off+k) u) (by grind)
  (simp_all;grind)
def PR (ρ:Rn) : List (Nat×AV)->List (Nat×Value)->Prop
 | [],ps=>ps=[]
 | (i,v) :: l,ps=>∃ u ps',ps=(i,u) :: ps'/\VR ρ v u/\PR ρ l ps'
theorem b5e {place place' : Nat->Option (Nat×Nat)} (hp:∀ i r,place i=some r->place' i=some r) : ∀ {parts:List (Nat×AV)} {ps:List (Nat×Value)} {cells l:List AV} {cs:Array Value},
  PR ρ parts ps->VRs ρ cells cs.toList->a7h place cells parts=some l->∃ cs',Instr.fill place' cs ps=some cs'/\VRs ρ l cs'.toList/\cs'.size=cs.size
 | [],_,_,_,cs,hps,hc,h=>by cases hps;cases h;exact⟨cs,rfl,hc,rfl⟩
 | (i,v) :: parts,_,cells,l,cs,⟨u,ps',hps,hv,hrest⟩,hc,h=>by
  subst hps;simp only[a7h] at h;split at h
  ·rename_i off size hpl;split at h
   ·rename_i hlen;rw[b3b] at h;split at h
    ·rename_i hle;have hcv:=hv.cells;have hsz:(cellsOf v).length=size:=by grind[a0t,Nat.eq_of_beq_eq_true]
     have hul:u.cells.size=size:=by have:=hcv.length;grind
     have hcl:cs.size=cells.length:=by have:=hc.length;grind
     obtain⟨f1,f2⟩:=c9p off u.cells.toList 0 cs (by grind);have hc' : VRs ρ (cells.take off++cellsOf v++cells.drop (off+(cellsOf v).length)) ((u.cells.toList.zipIdx 0).foldl (fun cs (x:Value×Nat)=>cs.setIfInBounds (off+x.2) x.1) cs).toList:=by
      refine VRs.of_get ?_ ?_
      ·grind
      ·intro j w hj;rw[Array.getElem?_toList,f2 j];by_cases h1:j<off
       ·rw[if_neg (by omega)];rw[List.append_assoc,List.getElem?_append_left (by grind),List.getElem?_take,if_pos h1] at hj;simpa using hc.get _ hj
       ·by_cases h2:j<off+(cellsOf v).length
        ·rw[if_pos (by grind)];rw[List.append_assoc,List.getElem?_append_right (by grind),List.getElem?_append_left (by grind)] at hj;have e1:min off cells.length=off:=by omega
         simp only[List.length_take,e1] at hj;exact hcv.get _ hj
        ·rw[if_neg (by grind)];rw[List.getElem?_append_right (by grind)] at hj;have e1:min off cells.length=off:=by omega
         simp only[List.length_append,List.length_take,e1,List.getElem?_drop] at hj;have e2:off+(cellsOf v).length+(j-(off+(cellsOf v).length))=j:=by omega
         rw[e2] at hj;simpa using hc.get _ hj
     obtain⟨cs',h1,h2,h3⟩:=b5e hp hrest hc' h;refine⟨cs',?_,h2,h3.trans f1⟩;simp only[Instr.fill,hp _ _ hpl];rw[if_neg (by grind)];grind[Array.toList_zipIdx]
    grind
   grind
  grind
theorem c9q {t:TypeId} {l:List AV} (h:a0a P t=some l) (w:World) : ∃ z:Value,(zeroValue t).run P w=.ok z w/\VRs ρ l z.cells.toList:=by
 grind[a0a,VRs.lits,a2f]
section one
variable {ev:Ev} {e:Operand→Value} {o:Oper} (s:Sim B G ρ H w) (he:EvR ρ ev e)
include he in
theorem evalParts_PR:∀ {l:List (Nat×Operand)} {vs:List (Nat×AV)},Cy ev l=some vs->PR ρ vs (l.map fun (i,x)=>(i,e x))
 | [],_,h=>by cases h;rfl
 | (i,x) :: l,vs,h=>by
  simp only[Cy] at h;split at h
  ·rename_i v hv;split at h
   ·rename_i ws hw;cases h;exact⟨_,_,rfl,he _ _ hv,evalParts_PR hw⟩
   grind
  grind
include s he
theorem e1o {t:TypeId} {parts:Array (Nat×Operand)} (h:o.op=.build t parts) : RS B G P ρ H w (a4g P H t (Cy ev parts.toList)) (execOp e o):=by
 unfold a4g;split
 ·rename_i ps hps;have hpr:=evalParts_PR he hps;refine RS.ofOpt s fun v hv=>?_;unfold build at hv;split at hv
  ·rename_i zero fields hz hd;obtain⟨z,hzr,hzc⟩:=c9q (ρ:=ρ) hz w;split at hv
   ·rename_i pl hpl;unfold b0x at hv;split at hv
    ·rename_i l hl;cases hv;obtain⟨cs,h1,h2,h3⟩:=b5e (place':=fun i=>pl[i]?) (fun i r hr=>by grind[b1e]) hpr hzc hl;refine⟨.agg cs,?_,⟨_,rfl,h2⟩⟩;have hpp:=run_places (P:=P) w _ _ hpl;simp_all[Au,Instr.build,execOp,Array.mapM_eq_mapM_toList]
    grind
   grind
  ·rename_i zero n el hz hd;obtain⟨z,hzr,hzc⟩:=c9q (ρ:=ρ) hz w;split at hv
   ·rename_i j hj;unfold b0x at hv;split at hv
    ·rename_i l hl;cases hv;obtain⟨cs,h1,h2,h3⟩:=b5e (place':=fun i=>some (i*j.size,j.size)) (fun i r hr=>hr) hpr hzc hl;refine⟨.agg cs,?_,⟨_,rfl,h2⟩⟩;simp_all[Cq,Au,Instr.build,execOp]
    grind
   grind
  grind
 ·trivial
end one
end Go.Ai
end
section
namespace Go.Ai
open Go.RowKit (Below)
variable {B G:Nat} {ρ:Rn} {H:Mem} {w:World} {P:Program}
theorem b1i {t e:TypeId} {size bytes:Nat} (h:a5b P t=some (e,size,bytes)) :
  P.underlying t=some (.slice e)/\∃ i z,P.info? e=some i/\i.size=size/\i.bytes=bytes/\i.zero=some z/\z.cells.size=size:=by
 unfold a5b at h;split at h
 ·rename_i e' hd;split at h
  ·rename_i i hi;split at h
   ·rename_i z hz;split at h
    all_goals simp_all
   grind
  grind
 grind
theorem c9r (z:List AV) : ∀ (n i:Nat),(rep z n)[i]?=if i<n*z.length then z[i % z.length]? else none
 | 0,i=>by simp[rep]
 | n+1,i=>by
  simp only[rep];by_cases h:i<z.length
  ·(simp_all[Nat.mod_eq_of_lt];grind)
  (simp_all[Nat.mod_eq_sub_mod,c9r,Eu];grind)
theorem b3c (z:List AV) : ∀ n,(rep z n).length=n*z.length
 | 0=>by simp[rep]
 | n+1=>by simp[rep,b3c z n,g4j,g4i]
theorem b5f {z:List AV} {zs:Array Value} (h:VRs ρ z zs.toList) (n:Nat) : VRs ρ (rep z n) ((Array.range (n*zs.size)).map (zs[· % zs.size]!)).toList:=by
 have hl:zs.size=z.length:=by have:=h.length;grind
 refine VRs.of_get (by grind[b3c]) fun i v hi=>?_;rw[c9r] at hi;split at hi
 ·rename_i hlt;obtain⟨u,hu,hv⟩:=h.get _ hi;grind
 grind
theorem b5g {e:TypeId} {i:TypeInfo} {zv:Value} {n:Nat} {z:List AV} (hi:P.info? e=some i) (hz:i.zero=some zv) (h:a1k P e n=some z) (w:World) :
  ∃ zs:Array Value,((if n=0 then pure #[] else do pure (<- zeroValue e).cells:Sem (Array Value))).run P w=.ok zs w/\VRs ρ z zs.toList/\(n≠0->zs=zv.cells)/\(n=0->zs=#[]):=by
 unfold a1k at h;split at h
 ·rename_i hb;cases h;exact⟨#[],by simp_all,rfl,fun h0=>absurd (Eh hb) h0,fun _=>rfl⟩
 ·rename_i hb;have h0:n≠0:=by intro h0;simp_all
  unfold a0a at h;rw[hi] at h;dsimp only at h;rw[hz] at h;cases h;exact⟨zv.cells,by simp_all[a2f],VRs.lits _,fun _=>rfl,fun h1=>absurd h1 h0⟩
section one
variable {ev:Ev} {e:Operand→Value} {o:Oper} (s:Sim B G ρ H w) (he:EvR ρ ev e)
include s he
theorem e1p {t:TypeId} {len:Nat} {parts:Array (Nat×Operand)} (h:o.op=.buildSlice t len parts) : RS B G P ρ H w (a2m P H t len (Cy ev parts.toList)) (execOp e o):=by
 unfold a2m;split
 ·rename_i el size bytes ps hel hps;obtain⟨hd,i,zv,hi,rfl,rfl,hz,hzs⟩:=b1i hel;have hpr:=evalParts_PR he hps;split
  ·rename_i z hle hz0;obtain⟨zs,hzr,hzc,hze,hz1⟩:=b5g (ρ:=ρ) hi hz hz0 w;split
   ·rename_i l hl;have hrep:VRs ρ (rep z len) ((Array.range (len*i.size)).map (zs[· % zs.size]!)).toList:=by
     by_cases h0:len*i.size=0
     ·have hzn:z=[]:=by simp_all[a1k]
      subst hzn;rw[h0];have:rep [] len=[]:=by have:=b3c [] len;simp_all
      grind
     grind[b5f]
    obtain⟨cs,h1,h2,h3⟩:=b5e (place':=fun j=>some (j*i.size,i.size)) (fun _ _ hr=>hr) hpr hrep hl;have hle' : len*i.size<=1048576:=Dq hle;unfold a0k;rw[Mem.newK_eq];refine b7u s (cells:=cs) (elem:=el) 0 0 (by simp) (.inl rfl) h2 (u:=.slice (some ⟨w.heap.size,0,none⟩) len len) ?_ ⟨_,_,_,a0l _ _ _,Dp _,rfl⟩;have hnl:¬(len*i.size > 2 ^ 24):=by omega
    simp only[execOp,h,Instr.buildSlice,Sem.run_bind,Au hd,Result.andThen_ok,Cq hi];simp only[hnl,if_false];by_cases h0:len*i.size=0
    all_goals simp_all[newRow,a2f]
   ·trivial
  ·trivial
 ·trivial
theorem e1q {t:TypeId} {l c:Operand} (h:o.op=.makeSlice t l c) : RS B G P ρ H w (a1v P H t (ev l) (ev c)) (execOp e o):=by
 unfold a1v;split
 ·rename_i el size bytes n k hel hn hk;obtain⟨hd,i,zv,hi,rfl,rfl,hz,hzs⟩:=b1i hel;have num:∀ {x:Operand} {m:Nat},(ev x).bind natOf=some m->∃ kk,e x=.int kk m:=by
   intro x m hx
   cases hx' : ev x with
   | none=>grind
   | some v=>grind[a7p]
  obtain⟨k1,hn'⟩:=num hn;obtain⟨k2,hk'⟩:=num hk;split
  ·rename_i z hc hz0;simp only[Ds] at hc;have hnk:n<=k:=Dq hc.1.1;have hk20:k<=1048576:=Dq hc.1.2;have hb20:i.bytes<=1048576:=Dq hc.2;obtain⟨zs,hzr,hzc,hze,hz1⟩:=b5g (ρ:=ρ) hi hz hz0 w;have hrep:VRs ρ (rep z k) ((Array.range (k*i.size)).map (zs[· % zs.size]!)).toList:=by
    by_cases h0:k*i.size=0
    ·have hzn:z=[]:=by simp_all[a1k]
     subst hzn;rw[h0];have:rep [] k=[]:=by have:=b3c [] k;simp_all
     grind
    grind[b5f]
   unfold a0k;rw[Mem.newK_eq];refine b7u s (cells:=(Array.range (k*i.size)).map (zs[· % zs.size]!)) (elem:=el) 0 0 (by simp) (.inl rfl) hrep (u:=.slice (some ⟨w.heap.size,0,none⟩) n k) ?_ ⟨_,_,_,a0l _ _ _,hnk,rfl⟩;have w1:IntKind.i64.wrap (n:Int)=n:=b1g (by omega);have w2:IntKind.i64.wrap (k:Int)=k:=b1g (by omega);have hprod:(i.bytes:Int)*k<=2 ^ 48:=by
    have:i.bytes*k<=1099511627776:=Ec (g3g hb20 hk20) (by decide);grind
   simp only[execOp,h,Instr.makeSlice,Sem.run_bind,Au hd,Result.andThen_ok,a3j hi,hn',hk',asInt,asIntOf,Sem.run_pure,w1,w2];have c1:¬((k:Int)<0):=by omega
   have c2:¬((n:Int)<0):=by omega
   have c3:¬((n:Int) > (k:Int)):=by omega
   have c4:¬((i.bytes:Int)*k > 2 ^ 48):=by omega
   simp only[c1,c2,c3,c4,decide_false,g3v,g5j,if_false,run_askRoom,Result.andThen_ok,Sem.run_bind,Cq hi,g2t]
   (split<;>simp_all[newRow,a2f])
  ·trivial
 ·trivial
theorem e1r {t:TypeId} {r:Option Operand} (h:o.op=.makeMap t r) : RS B G P ρ H w (a4h P H ev t r) (execOp e o):=by
 have key:(execOp e o).run P w=.ok (.value (.map (some w.heap.size))) { w with heap:=w.heap.push (.map #[] 0) } ->
   RS B G P ρ H w (H.newK (.map [] 0) fun H2=>.val (.map H.next) H2) (execOp e o):=by
  intro hrun;rw[Mem.newK_eq];refine⟨upd ρ H.next (w.heap.size,0,0),_,_,hrun,Ext.alloc ρ _ _ w _ _ rfl rfl rfl rfl s.base,?_,⟨_,_,_,a0l _ _ _,rfl⟩,Dy _⟩;exact s.alloc _ _ 0 _ rfl ⟨#[],by simp,rfl,s.base⟩
 unfold a4h;split
 ·simp_all[Instr.makeMap,execOp]
 ·rename_i x;split
  ·rename_i k v kk n hd hv;have hu:=he _ _ hv;simp_all[VR,asIntOf,asInt,Au,Instr.makeMap,execOp]
  ·trivial
theorem e1s {t:TypeId} {x:Operand} (h:o.op=.range t x) : RS B G P ρ H w (b4q P H t (ev x)) (execOp e o):=by
 unfold b4q;split
 ·rename_i str hd hv;have hu:=he _ _ hv;simp only[VR] at hu;rw[Mem.newK_eq];refine⟨upd ρ H.next (w.heap.size,0,0),.pointer (some ⟨w.heap.size,0,none⟩),{ w with heap:=w.heap.push (.stringIter str 0) },?_,Ext.alloc ρ _ _ w _ _ rfl rfl rfl rfl s.base,?_,⟨_,_,_,a0l _ _ _,rfl⟩,Dy _⟩
  ·simp_all[Au,Instr.range,execOp]
  ·exact s.alloc _ _ 0 _ rfl ⟨by simp,s.base,rfl⟩
 ·trivial
end one
end Go.Ai
end
section
namespace Go.Ai
open Go.RowKit (Below)
variable {B G:Nat} {ρ:Rn} {H:Mem} {w:World} {P:Program}
variable {c:Call} {args:List AV}
theorem VRs.one {v:AV} {us:List Value} (h:VRs ρ [v] us) : ∃ u,us=[u]/\VR ρ v u:=by
 obtain⟨u,us',e,hv,hn⟩:=h;cases hn;grind
theorem VRs.two {v v': AV} {us:List Value} (h:VRs ρ [v,v'] us) : ∃ u u',us=[u,u']/\VR ρ v u/\VR ρ v' u':=by
 obtain⟨u,us',e,hv,hn⟩:=h;obtain⟨u',e',hv'⟩:=hn.one;grind
theorem a7q {e:Operand->Value} {o:Oper} {b:Builtin} (h:o.op=.call c) (hc:c.callee=.builtin b) :
  execOp e o=builtin b c.argTypes o.type (c.args.map fun|.const _=>true|_=>false) (c.args.map e):=by
 simp only[execOp,h,resolve,hc];rfl
section one
variable {ev:Ev} {e:Operand→Value} {o:Oper} (s:Sim B G ρ H w) (he:EvR ρ ev e)
include s
theorem e1t {it:Operand} (he:EvR ρ ev e) (h:o.op=.next it true) : RS B G P ρ H w (b4r H (ev it)) (execOp e o):=by
 unfold b4r;split
 ·rename_i a hv;obtain⟨b,q,k,hr,hu⟩:=he _ _ hv;split
  ·rename_i str pos hx;obtain⟨hb,hB,rfl⟩:=s.at hx hr;split
   ·rename_i hlt;have hlt' : pos<str.size:=by simp_all
    unfold c8c;rw[Mem.setK_eq];refine⟨ρ,.tuple #[.bool true,goInt pos,.int .i32 (Utf8.decode str pos).1],{ w with heap:=w.heap.setIfInBounds b (.stringIter str (pos+(Utf8.decode str pos).2)) },?_,⟨fun _ _=>rfl,KD.turn hb rfl (fun j hj=>by grind),rfl,rfl,rfl,by simp,fun j hj=>by grind⟩,?_,?_,Dp _⟩
    ·simp[execOp,h,Instr.next,hu,getObj,setObj,Sem.run,hb,hlt']
    ·have hlt2:b<w.heap.size:=(g2y.1 hb).1;refine s.set hx hr rfl rfl (by simp) (fun j hj _=>by grind) ⟨by grind,hB,rfl⟩
    ·exact⟨_,rfl,_,_,rfl,rfl,_,_,rfl,rfl,_,_,rfl,rfl,rfl⟩
   ·rename_i hlt;have hlt' : ¬ pos<str.size:=fun h0=>by
     have:Nat.blt pos str.size=true:=g4t.symm ▸ (show pos+1<=str.size from h0);grind
    refine RS.quiet s (u:=.tuple #[.bool false]) ?_ ⟨_,rfl,_,_,rfl,rfl,rfl⟩;simp[execOp,h,Instr.next,hu,getObj,Sem.run,hb,hlt']
  ·trivial
 ·trivial
omit s in
theorem e1u {c:Call} (h:o.op=.call c) : ∀ cs b,o.op≠.select cs b:=by grind
theorem e1v (h:o.op=.call c) (hc:c.callee=.builtin .len) (ha:VRs ρ args (c.args.map e).toList) : RS B G P ρ H w (a5d P H c args) (execOp e o):=by
 rw[a7q h hc];have hrun:∀ {n:Nat},(Builtin.len_ c.argTypes o.type (c.args.map e)).run P w=.ok (goInt n) w ->
   (builtin .len c.argTypes o.type (c.args.map fun|.const _=>true|_=>false) (c.args.map e)).run P w=.ok (.value (goInt n)) w:=fun {n} h=>by
  simp[builtin,h]
 have a0:∀ {u:Value},(c.args.map e).toList=[u]->(c.args.map e)[0]?=some u:=fun {u} h=>by
  rw[<- g4u,h];rfl
 have t0:∀ {d:TypeDesc},(c.argTypes[0]?).bind P.underlying=some d->∃ t,c.argTypes[0]?=some t/\P.underlying t=some d:=fun {d} h=>by
  grind
 unfold a5d;split
 ·rename_i a off n cap el hd;obtain⟨u,hu,b,q,k,hr,hle,rfl⟩:=ha.one;obtain⟨t,ht,htd⟩:=t0 hd;exact RS.quiet s (hrun (n:=n) (by simp[Builtin.len_,ht,a0 hu,Au htd])) rfl
 ·rename_i a off n d el hd;obtain⟨u,hu,b,q,k,hr,hle,rfl⟩:=ha.one;obtain⟨t,ht,htd⟩:=t0 hd;exact RS.quiet s (hrun (n:=n) (by simp[Builtin.len_,ht,a0 hu,Au htd])) rfl
 ·rename_i el hd;obtain⟨u,hu,b,q,rfl⟩:=ha.one;obtain⟨t,ht,htd⟩:=t0 hd;exact RS.quiet s (hrun (n:=0) (by simp[Builtin.len_,ht,a0 hu,Au htd])) rfl
 ·rename_i a k el hd;obtain⟨u,hu,b,q,kk,hr,rfl⟩:=ha.one;obtain⟨t,ht,htd⟩:=t0 hd;split
  ·rename_i es clock hx;obtain⟨es',hb,her,hB⟩:=s.at hx hr;have hlen:∀ {l:List (AV×AV×Nat)} {m:List MapEntry},ER ρ l m->m.length=l.length:=by
    intro l
    induction l with
    | nil=>intro m h;cases h;rfl
    | cons x l ih=>intro m h;obtain⟨y,m',e,_,_,_,h'⟩:=h;grind
   have:=hlen her;refine RS.quiet s (hrun (n:=es.length) ?_) rfl;have e2:es'.size=es.length:=by grind
   simp[Builtin.len_,ht,a0 hu,Au htd,getObj,Sem.run,hb,e2]
  ·trivial
 ·rename_i str hd;obtain⟨u,hu,rfl⟩:=ha.one;obtain⟨t,ht,htd⟩:=t0 hd;exact RS.quiet s (hrun (n:=str.size) (by simp[Builtin.len_,ht,a0 hu,Au htd])) rfl
 ·trivial
theorem e1w (he:EvR ρ ev e) (h:o.op=.call c) (hc:c.callee=.builtin .len) (ha:VRs ρ args (c.args.map e).toList) : RS B G P ρ H w (a7i P H ev o c args) (execOp e o):=by
 grind[a7i,b1f,e1v]
theorem e1x (he:EvR ρ ev e) (h:o.op=.call c) (hc:c.callee=.builtin .cap) (ha:VRs ρ args (c.args.map e).toList) : RS B G P ρ H w (a8x P H ev o c args) (execOp e o):=by
 unfold a8x;split
 ·rename_i r hr;obtain⟨u,h1,h2⟩:=a9c (P:=P) (w:=w) (e1u h) he hr;grind[RS.quiet]
 ·split
  ·rename_i a off n cap el hd;obtain⟨u,hu,b,q,k,hr,hle,rfl⟩:=ha.one
   cases ht:c.argTypes[0]? with
   | none=>grind
   | some t =>
    rw[ht] at hd;have a0:(c.args.map e)[0]?=some (.slice (some ⟨b,q+off,none⟩) n cap):=by rw[<- g4u,hu];rfl
    rw[a7q h hc];exact RS.quiet s (u:=goInt cap) (by simp[builtin,Builtin.cap_,ht,a0,Au (show P.underlying t=some (.slice el) from hd)]) rfl
  ·trivial
end one
end Go.Ai
end
section
namespace Go.Ai
open Go.RowKit (Below)
variable {B G:Nat} {ρ:Rn} {H:Mem} {w:World} {P:Program}
theorem b7x {x:AV} {n:Nat} {u:Value} (h:lenOf x=some n) (hv:VR ρ x u) (w:World) : (Builtin.lenOf u).run P w=.ok n w:=by
 unfold lenOf at h;split at h
 ·obtain⟨_,_,_,_,_,rfl⟩:=hv;cases h;rfl
 ·obtain⟨_,_,_,_,_,rfl⟩:=hv;cases h;rfl
 ·obtain⟨_,_,rfl⟩:=hv;cases h;rfl
 ·cases hv;cases h;rfl
 ·cases hv;cases h;rfl
 grind
theorem c2c {x:AV} {size n:Nat} {l:List AV} {u:Value} (s:Sim B G ρ H w) (h:Cz H size n x=some l) (hv:VR ρ x u) :
  ∃ cs:Array Value,(∀ w',w'.heap=w.heap->(Builtin.firstCells size n u).run P w'=.ok cs w')/\VRs ρ l cs.toList:=by
 unfold Cz at h;have key:∀ {a off b q k:Nat} {l0:List AV} {own:Bool} {z:Nat} (m c:Nat),H.get a=some (.cells l0 own z)->ρ a=some (b,q,k)->a8v l0 (n*size) off none some=some l ->
   ∃ cs:Array Value,(∀ w',w'.heap=w.heap->(Builtin.firstCells size n (.slice (some ⟨b,q+off,none⟩) m c)).run P w'=.ok cs w')/\VRs ρ l cs.toList:=by
  intro a off b q k l0 own z m c hx hr hs;rw[a6i] at hs;split at hs
  ·rename_i hle;cases hs;obtain⟨us,hlen,hus,hcell⟩:=(s.at hx hr).sub hle;refine⟨us.toArray,fun w' hw'=>?_,by grind⟩;grind[Builtin.firstCells,b7t,World.cell?]
  grind
 split at h
 ·obtain⟨b,q,k,hr,hle,rfl⟩:=hv;split at h
  ·rename_i hx;exact key _ _ hx hr h
  grind
 ·obtain⟨b,q,k,hr,hle,rfl⟩:=hv;split at h
  ·rename_i hx;exact key _ _ hx hr h
  grind
 ·obtain⟨ad,c,rfl⟩:=hv;split at h
  ·rename_i h0;subst h0;cases h;exact⟨#[],fun w' _=>by simp[Builtin.firstCells,loadCells,loadCellsFrom],rfl⟩
  grind
 ·cases hv;cases h;exact⟨#[],fun w' _=>rfl,rfl⟩
 ·cases hv;cases h;rename_i str;refine⟨(str.extract 0 n).data.map fun b=>.int .u8 b.toNat,fun w' _=>rfl,?_⟩;have:=VRs.lits (ρ:=ρ) ((str.extract 0 n).data.toList.map fun b=>(.int .u8 b.toNat:Value));simp_all[Function.comp_def]
 grind
theorem c9s (newLen:Nat) : ∀ (r c:Nat),Builtin.growBy newLen r c<=2 ^ r*(c+768)
 | 0,c=>by simp[Builtin.growBy]
 | r+1,c=>by
  simp only[Builtin.growBy];split
  ·exact Ec (g5n c 768) (Nat.le_mul_of_pos_left _ (Nat.two_pow_pos _))
  ·have h1:=c9s newLen r (c+(c+768) / 4);have h2:c+(c+768) / 4+768<=2*(c+768):=by omega
   have h3:=g3g (Dp (2 ^ r)) h2;grind
theorem c9t {need cap:Nat} (h1:need<=1048576) (h2:cap<=1048576) : Builtin.nextslicecap need cap<=33554432:=by
 unfold Builtin.nextslicecap;split
 ·omega
 ·split
  ·omega
  ·have h4:=c9s need 4 cap;grind
variable {argTypes:Array TypeId} {args:Array Value} {ty sT xT el:TypeId} {dx:TypeDesc} {i:TypeInfo} {base:Option Addr} {sLen sCap n:Nat} {x:Value} {new old:Array Value}
theorem c9u (ht:argTypes[0]?=some sT) (hx:argTypes[1]?=some xT) (hd:P.underlying sT=some (.slice el)) (hxd:P.underlying xT=some dx) (hni:∀ k,dx≠.int k)
  (hi:P.info? el=some i) (ha0:args[0]?=some (.slice base sLen sCap)) (ha1:args[1]?=some x) (hn:(Builtin.lenOf x).run P w=.ok n w) (hle:sLen+n<=sCap)
  (hf:(Builtin.firstCells i.size n x).run P w=.ok new w) :
  (Builtin.append_ argTypes ty args).run P w =
   ((match base with|some a=>storeCells (a.add (sLen*i.size)) new.toList|none=>pure ()).run P w).andThen fun _ w'=>.ok (.slice base (sLen+n) sCap) w':=by
 cases base with
 | none=>simp[Builtin.append_,ht,hx,ha0,ha1,Au hd,Au hxd,Cq hi,hn,hle,hf]
 | some a=>simp[Builtin.append_,ht,hx,ha0,ha1,Au hd,Au hxd,Cq hi,hn,hle,hf]
theorem run_append_grow {zv:Value} (ht:argTypes[0]?=some sT) (hx:argTypes[1]?=some xT) (hd:P.underlying sT=some (.slice el)) (hxd:P.underlying xT=some dx) (hni:∀ k,dx≠.int k)
  (hi:P.info? el=some i) (hz:i.zero=some zv) (ha0:args[0]?=some (.slice base sLen sCap)) (ha1:args[1]?=some x) (hn:(Builtin.lenOf x).run P w=.ok n w) (hgt:sCap<sLen+n)
  (hsm:small (sLen+n) sCap i.bytes=true)
  (ho:(Builtin.firstCells i.size sLen (.slice base sLen sCap)).run P w.drew=.ok old w.drew)
  (hf:(Builtin.firstCells i.size n x).run P w.drew=.ok new w.drew) :
  ∃ cap,sLen+n<=cap/\(Builtin.append_ argTypes ty args).run P w =
   .ok (.slice (some ⟨w.heap.size,0,none⟩) (sLen+n) cap) (w.drew.alloc (.cells (old++(new++Builtin.zeroCells zv.cells (cap-(sLen+n)))) el)):=by
 simp only[small,Ds,decide_eq_true_eq] at hsm;obtain⟨⟨h1,h2⟩,h3⟩:=hsm;have hle:¬(sLen+n<=sCap):=by omega
 have hcap:¬(281474976710656<Builtin.nextslicecap (sLen+n) sCap*i.bytes):=by
  have h5:=g3g (c9t h1 h2) h3;grind
 refine⟨(Question.appendCap (sLen+n) sCap el).cut (w.tape w.drawn (.appendCap (sLen+n) sCap el)),by simp[Question.cut],?_⟩;simp[Builtin.append_,ht,hx,ha0,ha1,Au hd,Au hxd,Cq hi,hn,hle,a3j hi,hcap,Question.forced,ho,hf,a2f hi hz,newRow];grind
section zeros
variable {k k' : IntKind} {zv:Value}
theorem c9v {n b:Nat} (h1:n<=1048576) (h2:b<=1048576) : ¬((n:Int)*(b:Int) > 281474976710656):=by
 have h3:n*b<=1099511627776:=Ec (g3g h1 h2) (by decide);grind
theorem c2d {n:Nat} (h:n<=1048576) : IntKind.i64.wrap (n:Int)=n:=b1g (by omega)
theorem e1y (ht:argTypes[0]?=some sT) (hx:argTypes[1]?=some xT) (hd:P.underlying sT=some (.slice el)) (hxd:P.underlying xT=some (.int k))
  (hi:P.info? el=some i) (ha0:args[0]?=some (.slice base sLen sCap)) (ha1:args[1]?=some (.int k' 0)) (hle:sLen<=sCap) :
  (Builtin.append_ argTypes ty args).run P w=.ok (.slice base sLen sCap) w:=by
 have w0:IntKind.i64.wrap 0=0:=c2d (n:=0) (by omega)
 cases base with
 | none=>simp[Builtin.append_,ht,hx,ha0,ha1,Au hd,Au hxd,Cq hi,a3j hi,asInt,asIntOf,w0,hle]
 | some a=>simp[Builtin.append_,ht,hx,ha0,ha1,Au hd,Au hxd,Cq hi,a3j hi,asInt,asIntOf,w0,hle,storeCells]
theorem e1z (ht:argTypes[0]?=some sT) (hx:argTypes[1]?=some xT) (hd:P.underlying sT=some (.slice el)) (hxd:P.underlying xT=some (.int k))
  (hi:P.info? el=some i) (hz:i.zero=some zv) (ha0:args[0]?=some (.slice base sLen sCap)) (ha1:args[1]?=some (.int k' n)) (hn:n<=1048576) (hb:i.bytes<=1048576) (hns:n*i.size≠0) (hle:sLen+n<=sCap) :
  (Builtin.append_ argTypes ty args).run P w =
   ((match base with|some a=>storeCells (a.add (sLen*i.size)) (Builtin.zeroCells zv.cells n).toList|none=>pure ()).run P w).andThen fun _ w'=>.ok (.slice base (sLen+n) sCap) w':=by
 have w1:=c2d hn;have c1:¬((n:Int)<0):=by omega
 have c2:=c9v hn hb;have c3:¬(281474976710656<(n:Int)*(i.bytes:Int)):=c2
 cases base with
 | none=>simp[Builtin.append_,ht,hx,ha0,ha1,Au hd,Au hxd,Cq hi,a3j hi,asInt,asIntOf,w1,c1,c3,hle,hns,a2f hi hz]
 | some a=>simp[Builtin.append_,ht,hx,ha0,ha1,Au hd,Au hxd,Cq hi,a3j hi,asInt,asIntOf,w1,c1,c3,hle,hns,a2f hi hz]
theorem e2a (ht:argTypes[0]?=some sT) (hx:argTypes[1]?=some xT) (hd:P.underlying sT=some (.slice el)) (hxd:P.underlying xT=some (.int k))
  (hi:P.info? el=some i) (hz:i.zero=some zv) (ha0:args[0]?=some (.slice base sLen sCap)) (ha1:args[1]?=some (.int k' n)) (hn:n<=1048576) (hns:n*i.size≠0) (hgt:sCap<sLen+n)
  (hsm:small (sLen+n) sCap i.bytes=true)
  (ho:(Builtin.firstCells i.size sLen (.slice base sLen sCap)).run P w.drew=.ok old w.drew) :
  ∃ cap,sLen+n<=cap/\(Builtin.append_ argTypes ty args).run P w =
   .ok (.slice (some ⟨w.heap.size,0,none⟩) (sLen+n) cap) (w.drew.alloc (.cells (old++(Builtin.zeroCells zv.cells n++Builtin.zeroCells zv.cells (cap-(sLen+n)))) el)):=by
 simp only[small,Ds,decide_eq_true_eq] at hsm;obtain⟨⟨h1,h2⟩,h3⟩:=hsm;have hle:¬(sLen+n<=sCap):=by omega
 have hcap:¬(281474976710656<Builtin.nextslicecap (sLen+n) sCap*i.bytes):=by
  have h5:=g3g (c9t h1 h2) h3;grind
 have w1:=c2d hn;have c1:¬((n:Int)<0):=by omega
 have c3:¬(281474976710656<(n:Int)*(i.bytes:Int)):=c9v hn h3;refine⟨(Question.appendCap (sLen+n) sCap el).cut (w.tape w.drawn (.appendCap (sLen+n) sCap el)),by simp[Question.cut],?_⟩;simp[Builtin.append_,ht,hx,ha0,ha1,Au hd,Au hxd,Cq hi,hle,a3j hi,hcap,Question.forced,ho,a2f hi hz,newRow,asInt,asIntOf,w1,c1,c3,hns];grind
end zeros
end Go.Ai
end
section
namespace Go.Ai
open Go.RowKit (Below)
variable {B G:Nat} {ρ:Rn} {H:Mem} {w:World} {P:Program}
def VS (B G:Nat) (P:Program) (ρ:Rn) (H:Mem) (w:World) (r:Option (AV×Mem)) (m:Sem Value) : Prop :=
 ∀ v H',r=some (v,H')->∃ ρ' u w',m.run P w=.ok u w'/\Ext B H.next ρ w ρ' w'/\Sim B G ρ' H' w'/\VR ρ' v u/\H.next<=H'.next
theorem b7y {v:AV} {u:Value} {m:Sem Value} (s:Sim B G ρ H w) (h:m.run P w=.ok u w) (hv:VR ρ v u) : VS B G P ρ H w (some (v,H)) m:=by
 intro v' H' e;cases e;exact⟨ρ,u,w,h,Ext.refl _ _ _ _,s,hv,Dp _⟩
theorem Ci {m:Sem Value} : VS B G P ρ H w none m:=fun _ _ e=>by cases e
theorem c2e {l:List AV} {cells:Array Value} {el:TypeId} {m:Sem Value} {n size cap:Nat} (s:Sim B G ρ H w) (hn:n<=cap) (hc:VRs ρ l cells.toList) (rest:Array Value)
  (hl:l.length=n*size) (hrest:rest.size=(cap-n)*size)
  (hrun:m.run P w=.ok (.slice (some ⟨w.heap.size,0,none⟩) n cap) (w.drew.alloc (.cells (cells++rest) el))) : VS B G P ρ H w (a5c H l n size) m:=by
 unfold a5c;rw[Mem.newK_eq];intro v H' e;cases e;have hcl:cells.size=n*size:=by have:=hc.length;grind
 have hcap:n*size+(cap-n)*size=cap*size:=by rw[<- g2u];grind
 refine⟨upd ρ H.next (w.heap.size,0,cap),_,_,hrun,Ext.alloc ρ _ _ w _ (.cells (cells++rest) el) rfl rfl rfl rfl s.base,?_,⟨_,_,_,a0l _ _ _,by omega,rfl⟩,Dy _⟩;refine s.alloc _ (.cells (cells++rest) el) cap _ rfl ⟨cells++rest,el,(0,0),c8z w _ _ rfl,?_,fun _=>⟨s.base,by simp,?_,?_⟩⟩
 ·intro i v hi;obtain⟨u,hu,hv⟩:=hc.get i hi;have hlt:i<cells.size:=by
   grind
  exact⟨u,by grind,hv.mono (a6j s.none)⟩
 all_goals grind
theorem Sim.drew (s:Sim B G ρ H w) : Sim B G ρ H w.drew:=s.heap rfl
theorem c2f (z:Array Value) (n:Nat) : (Builtin.zeroCells z n).size=n*z.size:=by simp[Builtin.zeroCells]
theorem b7z {a:Nat} {l new:List AV} {z off b q k:Nat} {vs:List Value} {v:AV} {u:Value} {m:Sem Value} (s:Sim B G ρ H w) (ha:H.get a=some (.cells l true z)) (hr:ρ a=some (b,q,k))
  (hv:VRs ρ new vs) (hvr:VR ρ v u) (hrun:∀ w',(storeCells ⟨b,q+off,none⟩ vs).run P w=.ok () w'->m.run P w=.ok u w') : VS B G P ρ H w (b4l H a l z off new v) m:=by
 unfold Go.Ai.b4l;split
 ·rename_i hall;rw[b3b];split
  ·rename_i hle;rw[Mem.setK_eq];intro v' H' e;cases e;obtain⟨w',h1,h2,h3⟩:=c9e (P:=P) s ha hr hle hv (allOne_VRs hv hall);exact⟨ρ,u,w',hrun w' h1,h2,h3,hvr,Dp _⟩
  simp[Ci]
 simp[Ci]
section app
variable {argTypes:Array TypeId} {args:Array Value} {ty sT xT el:TypeId} {dx:TypeDesc} {i:TypeInfo} {zv:Value} {n:Nat} {x:AV} {xu su:Value} {st:AV} {new:List AV}
 (ht:argTypes[0]?=some sT) (hx:argTypes[1]?=some xT) (hd:P.underlying sT=some (.slice el)) (hxd:P.underlying xT=some dx) (hni:∀ k,dx≠.int k)
 (hi:P.info? el=some i) (hz:i.zero=some zv) (hzs:zv.cells.size=i.size) (ha0:args[0]?=some su) (ha1:args[1]?=some xu)
include ht hx hd hxd hni hi hz hzs ha0 ha1
omit ht hx hd hxd hni hi ha0 ha1 hz in
theorem c9w {cs:Array Value} (s:Sim B G ρ H w) (hsv:VR ρ st su) (hn0:n≠0) (hs0:i.size≠0) (hcs:VRs ρ new cs.toList)
  (hin:∀ {base:Option Addr} {sLen sCap:Nat},su=.slice base sLen sCap->sLen+n<=sCap->(Builtin.append_ argTypes ty args).run P w =
   ((match base with|some a=>storeCells (a.add (sLen*i.size)) cs.toList|none=>pure ()).run P w).andThen fun _ w'=>.ok (.slice base (sLen+n) sCap) w')
  (hgrow:∀ {base:Option Addr} {sLen sCap:Nat} {old:Array Value},su=.slice base sLen sCap->sCap<sLen+n->small (sLen+n) sCap i.bytes=true ->
   (Builtin.firstCells i.size sLen (.slice base sLen sCap)).run P w.drew=.ok old w.drew->∃ cap,sLen+n<=cap/\(Builtin.append_ argTypes ty args).run P w =
   .ok (.slice (some ⟨w.heap.size,0,none⟩) (sLen+n) cap) (w.drew.alloc (.cells (old++(cs++Builtin.zeroCells zv.cells (cap-(sLen+n)))) el))) :
  VS B G P ρ H w (a2l H i.size i.bytes n st new) (Builtin.append_ argTypes ty args):=by
 unfold a2l;split
 ·rename_i hl;have hl' : new.length=n*i.size:=by grind[a0t,Nat.eq_of_beq_eq_true]
  split
  ·
   cases hsv;unfold c1i;split
   ·rename_i hsm;obtain⟨cap,hcap,hrun⟩:=hgrow rfl (by omega) (by grind) (old:=#[]) rfl;simp only[Nat.zero_add] at hrun hcap;grind[c2f,c2e]
   simp[Ci]
  ·
   rename_i a off k cap;obtain⟨b,q,kk,hr,hle,rfl⟩:=hsv;unfold b4m;split
   ·rename_i hfit;have hfit' : k+n<=cap:=Nat.le_of_ble_eq_true hfit;split
    ·rename_i l z hb;refine b7z s hb hr hcs ⟨b,q,kk,hr,hfit',rfl⟩ fun w' hw'=>?_;rw[hin rfl hfit'];simp_all[a2q,Nat.add_assoc]
    simp[Ci]
   ·rename_i hfit;have hfit' : cap<k+n:=Nat.not_le.1 fun h0=>by
     grind[Nat.ble_eq]
    split
    ·rename_i l own z hb hsm;rw[a6i];split
     ·rename_i hle2;rw[b4z];obtain⟨us,hul,hus,hcell⟩:=(s.at hb hr).sub hle2;have hold:(Builtin.firstCells i.size k (.slice (some ⟨b,q+off,none⟩) k cap)).run P w.drew=.ok us.toArray w.drew:=by
       rw[Builtin.firstCells,<- hul];exact b7t us fun j v hj=>hcell j v hj
      obtain⟨cap',hcap,hrun⟩:=hgrow rfl hfit' hsm hold;refine c2e (el:=el) s hcap (cells:=us.toArray++cs) (by simpa using hus.append hcs) (Builtin.zeroCells zv.cells (cap' - (k+n))) ?_ (by grind[c2f]) ?_
      all_goals grind
     simp[Ci]
    simp[Ci]
  ·
   rename_i a off k d;obtain⟨b,q,K,hr,hle,rfl⟩:=hsv;unfold c1j;split
   ·rename_i l z hb;have hBR:=s.at hb hr;obtain⟨c,e,fz,hbb,hcc,hown⟩:=hBR;obtain⟨hB,hfr,hK,hKl⟩:=hown rfl;split
    ·rename_i h1 h2;simp only[Bool.and_eq_true] at h1;have hz1:z=i.size:=Nat.eq_of_beq_eq_true h1.1;have hoff:off=d*i.size:=Nat.eq_of_beq_eq_true h1.2;have hvis:off+(k+n)*i.size<=l.length:=by simp_all[a0t]
     have hfit:k+n<=K-d:=by
      rcases hKl with h0|h0
      ·omega
      ·rw[hz1] at h0;have:(d+(k+n))*i.size<=K*i.size:=by grind
       have:=Nat.le_of_mul_le_mul_right this (by omega);omega
     refine b7z s hb hr hcs ⟨b,q,K,hr,by omega,rfl⟩ fun w' hw'=>?_;rw[hin rfl hfit];simp_all[a2q,Nat.add_assoc]
    ·rename_i h1 h2 h3;simp only[Bool.and_eq_true] at h1 h3;have hz1:z=i.size:=Nat.eq_of_beq_eq_true h1.1;have hoff:off=d*i.size:=Nat.eq_of_beq_eq_true h1.2;have hend:off+k*i.size=l.length:=by grind[a0t,Nat.eq_of_beq_eq_true]
     have hsm:=h3.1.2;have hone:=allOne_VRs hcs h3.2;rw[a6i];split
     ·rename_i hle2;rw[b4z,Mem.delK_eq];obtain⟨us,hul,hus,hcell⟩:=(s.at hb hr).sub hle2;by_cases hfit:k+n<=K-d
      ·
       have hsz:q+off+k*i.size+cs.toList.length<=c.size:=by
        have e1:cs.toList.length=n*i.size:=by have:=hcs.length;omega
        have e2:(d+(k+n))*i.size<=K*i.size:=Nat.mul_le_mul_right _ (by omega);grind
       obtain⟨w',c',hst,hb',hcz,hcells,hoth,hws,g2,g3,g4⟩:=c1z (P:=P) b (q+off+k*i.size) e fz cs.toList 0 c w hbb hfr (by omega) hone;unfold a5c;rw[Mem.newK_eq];intro v H' e0;cases e0;have srm:=s.rm a;have hext:Ext B H.next ρ w (upd ρ H.next (b,q+off,K-d)) w':=⟨fun j hj=>a0g _ _ (by omega),KD.turn hbb rfl (fun j hj=>hoth j hj),g2,g3,g4,by omega,fun j hj=>hoth j (by omega)⟩;refine⟨upd ρ H.next (b,q+off,K-d),.slice (some ⟨b,q+off,none⟩) (k+n) (K-d),w',?_,hext,?_,⟨_,_,_,a0l _ _ _,by omega,by simp⟩,Nat.le_succ _⟩
       ·rw[hin rfl hfit];simp_all[a2q]
       ·refine srm.add (by omega) ?_ ⟨c',e,fz,hb',?_,fun _=>⟨hB,by grind,?_,?_⟩⟩
        ·intro j y b1 o1 k1 hy hrj;obtain⟨hne,hy⟩:=Mem.get_rm hy;have hbne:b1≠b:=by
          rintro rfl;exact s.inj a j _ y b1 q K o1 k1 hb hy (Ne.symm hne) rfl hr hrj
         grind
        ·intro j v hj;have hlo:((l.drop off).take (k*i.size)).length=k*i.size:=by grind
         have hsub:=a6j (x:=(b,q+off,K-d)) s.none;by_cases hj1:j<k*i.size
         ·rw[List.getElem?_append_left (by omega)] at hj;rw[List.getElem?_take,if_pos hj1,List.getElem?_drop] at hj;obtain⟨u,hu,huv⟩:=hcc _ _ hj;refine⟨u,?_,huv.mono hsub⟩;grind
         ·rw[List.getElem?_append_right (by omega),hlo] at hj;obtain⟨u,hu,huv⟩:=hcs.get _ hj;have hjlt:=(List.getElem?_eq_some_iff.1 hu).1;refine⟨u,?_,huv.mono hsub⟩;grind
        ·rw[hcz];have e2:(K-d)*i.size+d*i.size=K*i.size:=by rw[<- Nat.add_mul];grind
         grind
        ·right;have e2:(k+n)*i.size<=(K-d)*i.size:=Nat.mul_le_mul_right _ hfit;grind
      ·have hfit' : K-d<k+n:=by omega
       have hold:(Builtin.firstCells i.size k (.slice (some ⟨b,q+off,none⟩) k (K-d))).run P w.drew=.ok us.toArray w.drew:=by
        rw[Builtin.firstCells,<- hul];exact b7t us fun j v hj=>hcell j v hj
       have hsm' : small (k+n) (K-d) i.bytes=true:=by
        simp only[small,Bool.and_eq_true,decide_eq_true_eq] at hsm |-;omega
       obtain⟨cap',hcap,hrun⟩:=hgrow rfl hfit' hsm' hold;refine c2e (el:=el) (H:=H.rm a) (s.rm a) hcap (cells:=us.toArray++cs) (by simpa using hus.append hcs) (Builtin.zeroCells zv.cells (cap' - (k+n))) ?_ (by grind[c2f]) ?_
       all_goals grind
     grind
    simp[Ci]
   simp[Ci]
  simp[Ci]
 simp[Ci]
theorem e2b (s:Sim B G ρ H w) (hsv:VR ρ st su) (hxv:VR ρ x xu) (hn:lenOf x=some n) (hn0:n≠0) (hs0:i.size≠0) (hf:Cz H i.size n x=some new) :
  VS B G P ρ H w (a2l H i.size i.bytes n st new) (Builtin.append_ argTypes ty args):=by
 obtain⟨cs,hfc,hcs⟩:=c2c (P:=P) s hf hxv;have hlen:=b7x (P:=P) hn hxv w;exact c9w (el:=el) hzs s hsv hn0 hs0 hcs
  (fun e hfit=>c9u (P:=P) (w:=w) (ty:=ty) ht hx hd hxd hni hi (by grind) ha1 hlen hfit (hfc w rfl))
  (fun e hgt hsm hold=>run_append_grow (P:=P) (w:=w) (ty:=ty) ht hx hd hxd hni hi hz (by grind) ha1 hlen hgt hsm hold (hfc _ rfl))
end app
end Go.Ai
end
section
namespace Go.Ai
open Go.RowKit (Below)
variable {B G:Nat} {ρ:Rn} {H:Mem} {w:World} {P:Program}
theorem c2g {v:AV} {u:Value} (h:isSlice v=true) (hv:VR ρ v u) : ∃ base n c,u=.slice base n c/\n<=c:=by
 unfold isSlice at h;split at h
 ·obtain⟨_,_,_,_,hle,rfl⟩:=hv;grind
 ·obtain⟨_,_,_,_,hle,rfl⟩:=hv;grind
 ·cases hv;grind
 grind
theorem ext0 (s:ByteArray) : (s.extract 0 0).data=#[]:=by
 simp
theorem e2c {x:AV} {u:Value} {size:Nat} (h:lenOf x=some 0) (hv:VR ρ x u) (w:World) : (Builtin.firstCells size 0 u).run P w=.ok #[] w:=by
 unfold lenOf at h;split at h
 ·obtain⟨_,_,_,_,_,rfl⟩:=hv;simp[Builtin.firstCells,loadCells,loadCellsFrom]
 ·obtain⟨_,_,_,_,_,rfl⟩:=hv;simp[Builtin.firstCells,loadCells,loadCellsFrom]
 ·obtain⟨_,_,rfl⟩:=hv;simp[Builtin.firstCells,loadCells,loadCellsFrom]
 ·cases hv;rfl
 ·rename_i str;cases hv;simp[Builtin.firstCells]
 grind
theorem e2d {argTypes:Array TypeId} {args:Array Value} {ty sT:TypeId} {st x:AV} {su xu:Value} (s:Sim B G ρ H w) (ht:argTypes[0]?=some sT)
  (ha0:args[0]?=some su) (ha1:args[1]?=some xu) (hsv:VR ρ st su) (hxv:VR ρ x xu) :
  VS B G P ρ H w (append P H sT argTypes[1]? st x) (Builtin.append_ argTypes ty args):=by
 unfold append;split
 ·rename_i el size bytes hel happ;obtain⟨hd,i,zv,hi,rfl,rfl,hz,hzs⟩:=b1i hel;unfold c1k at happ
  cases hx:argTypes[1]? with
  | none=>grind
  | some xT =>
   rw[hx] at happ;have hdx:∃ dx,P.underlying xT=some dx/\∀ k,dx≠.int k:=by
    grind
   obtain⟨dx,hxd,hni⟩:=hdx;unfold a2c;split
   ·rename_i hn;split
    ·rename_i hsl;obtain⟨base,n,c,rfl,hle⟩:=c2g hsl hsv;refine b7y s ?_ hsv;rw[c9u (P:=P) (w:=w) (ty:=ty) ht hx hd hxd hni hi ha0 ha1 (b7x hn hxv w) (by omega) (e2c hn hxv w)]
     (split<;>rfl)
    simp[Ci]
   ·rename_i n hn0 hn;split
    ·rename_i new hs0 hf;refine e2b ht hx hd hxd hni hi hz hzs ha0 ha1 s hsv hxv hn (fun h0=>hn0 (by rw[h0])) (fun h0=>?_) hf;simp_all
    simp[Ci]
   simp[Ci]
 ·rename_i el size bytes hel happ;split
  ·rename_i hint;obtain⟨hd,i,zv,hi,rfl,rfl,hz,hzs⟩:=b1i hel;unfold c7w at hint
   cases hx:argTypes[1]? with
   | none=>grind
   | some xT =>
    rw[hx] at hint;have hdx:∃ k,P.underlying xT=some (.int k):=by
     grind
    obtain⟨k,hxd⟩:=hdx;unfold c7x;split
    ·rename_i hn;obtain⟨k',rfl⟩:=a7p hn hxv;split
     ·rename_i hsl;obtain⟨base,n,c,rfl,hle⟩:=c2g hsl hsv;exact b7y s (e1y (P:=P) (w:=w) (ty:=ty) ht hx hd hxd hi ha0 ha1 hle) hsv
     simp[Ci]
    ·rename_i n hn0 hn;obtain⟨k',rfl⟩:=a7p hn hxv;split
     ·rename_i z hs0 hc hzl;simp only[Bool.and_eq_true] at hc;have hn20:n<=1048576:=Nat.le_of_ble_eq_true hc.1;have hb20:i.bytes<=1048576:=Nat.le_of_ble_eq_true hc.2;have hs:i.size≠0:=fun h0=>by simp_all
      have hn1:n≠0:=fun h0=>hn0 (by rw[h0]);have hns:n*i.size≠0:=Nat.mul_ne_zero hn1 hs;have hz0:a1k P el (n*i.size)=some z:=by
       grind[a1k,Nat.eq_of_beq_eq_true]
      obtain⟨zs,_,hzc,hze,_⟩:=b5g (ρ:=ρ) hi hz hz0 w;have hze':=hze hns;subst hze';exact c9w (el:=el) (cs:=Builtin.zeroCells zv.cells n) hzs s hsv hn1 hs (b5f hzc n)
       (fun e hfit=>e1z (P:=P) (w:=w) (ty:=ty) ht hx hd hxd hi hz (by grind) ha1 hn20 hb20 hns hfit)
       (fun e hgt hsm hold=>e2a (P:=P) (w:=w) (ty:=ty) ht hx hd hxd hi hz (by grind) ha1 hn20 hns hgt hsm hold)
     simp[Ci]
    simp[Ci]
  simp[Ci]
 simp[Ci]
theorem e2e {argTypes:Array TypeId} {args:Array Value} {ty dT:TypeId} {d x:AV} {du xu:Value} (s:Sim B G ρ H w) (ht:argTypes[0]?=some dT)
  (ha0:args[0]?=some du) (ha1:args[1]?=some xu) (hdv:VR ρ d du) (hxv:VR ρ x xu) :
  VS B G P ρ H w (copy P H dT d x) (Builtin.copy_ argTypes ty args):=by
 unfold copy;split
 ·rename_i el size bytes n k hel hn hk;obtain⟨hd,i,zv,hi,rfl,rfl,hz,hzs⟩:=b1i hel;have hlen:=b7x (P:=P) hn hxv w;have hrun:∀ {base:Option Addr} {k' c:Nat} {cells:Array Value},du=.slice base k' c->k'=k->(Builtin.firstCells i.size (Nat.min n k) xu).run P w=.ok cells w ->
    (Builtin.copy_ argTypes ty args).run P w=((match base with|some a=>storeCells a cells.toList|none=>pure ()).run P w).andThen fun _ w'=>.ok (goInt (Nat.min n k)) w':=by
   intro base k' c cells hu hk' hf
   (split<;>simp_all[Cq,Au,Builtin.copy_])
  have hkk:∀ {base:Option Addr} {k' c:Nat},du=.slice base k' c->k'=k:=by
   intro base k' c hu;have:=b7x (P:=P) hk hdv w;grind[Sem.run_pure,Builtin.lenOf]
  split
  ·rename_i hm;split
   ·rename_i hsl;obtain⟨base,k',c,hu,hle⟩:=c2g hsl hdv;have hf:(Builtin.firstCells i.size (Nat.min n k) xu).run P w=.ok #[] w:=by
     rw[hm];unfold lenOf at hn;split at hn
     ·obtain⟨_,_,_,_,_,rfl⟩:=hxv;simp[Builtin.firstCells,loadCells,loadCellsFrom]
     ·obtain⟨_,_,_,_,_,rfl⟩:=hxv;simp[Builtin.firstCells,loadCells,loadCellsFrom]
     ·obtain⟨_,_,rfl⟩:=hxv;simp[Builtin.firstCells,loadCells,loadCellsFrom]
     ·cases hxv;rfl
     ·rename_i str;cases hxv;simp[Builtin.firstCells]
     grind
    refine b7y (u:=goInt 0) s ?_ rfl;rw[hrun hu (hkk hu) hf,hm]
    (split<;>rfl)
   simp[Ci]
  ·rename_i m hm0;split
   ·rename_i l hs0 hf;obtain⟨cs,hfc,hcs⟩:=c2c (P:=P) s hf hxv;unfold c7y;split
    ·rename_i a off k1 c1;obtain⟨b,q,K,hr,hle,hu⟩:=hdv;split
     ·rename_i c z hb;refine b7z s hb hr hcs rfl fun w' hw'=>?_;rw[hrun hu (hkk hu) (hfc w rfl)];simp[*]
     simp[Ci]
    ·rename_i a off k1 d1;obtain⟨b,q,K,hr,hle,hu⟩:=hdv;split
     ·rename_i c z hb;refine b7z s hb hr hcs rfl fun w' hw'=>?_;rw[hrun hu (hkk hu) (hfc w rfl)];simp[*]
     simp[Ci]
    simp[Ci]
   simp[Ci]
 simp[Ci]
theorem e2f {v:AV} {l:List AV} {b:List UInt8} (h:bytesOf (v :: l)=some b) : ∃ n r,v=.lit (.int .u8 n)/\bytesOf l=some r/\b=UInt8.ofNat n.toNat :: r:=by
 unfold bytesOf at h;grind
theorem bytesOf_ints:∀ {l:List AV} {b:List UInt8} {us:List Value},bytesOf l=some b->VRs ρ l us ->
  ∃ ns:Wd,us=ns.map (Value.int .u8)/\∀ r:ByteArray,ns.foldl (fun r n=>r.push (UInt8.ofNat n.toNat)) r=⟨r.data++b.toArray⟩
 | [],b,us,h,hv=>by cases h;cases hv;simp
 | v :: l,b,us,h,⟨u,us',e,hv,hr⟩=>by
  subst e;obtain⟨n,r,rfl,hb,rfl⟩:=e2f h;cases hv;obtain⟨ns,rfl,hf⟩:=bytesOf_ints hb hr;exact⟨n :: ns,rfl,fun r=>by simp_all⟩
end Go.Ai
end
section
namespace Go.Ai
open Go.RowKit (Below)
variable {B G:Nat} {ρ:Rn} {H:Mem} {w:World} {P:Program}
variable {src dst:TypeId}
theorem e2g {e:TypeId} {str:ByteArray} (s:Sim B G ρ H w) (hs:P.underlying src=some .string) (hd:P.underlying dst=some (.slice e)) (he:P.underlying e=some (.int .u8)) :
  VS B G P ρ H w (a5c H (str.data.toList.map fun b=>.lit (.int .u8 b.toNat)) str.size 1) (Go.convert src dst (.string str)):=by
 unfold a5c;rw[Mem.newK_eq];intro v H' e0;cases e0;have hrun:=run_bytes_of_string (P:=P) w src dst e str hs hd he;have hcap:str.size<=grownCap w str.size 0 e:=by simp[grownCap,Question.cut]
 have hsz:str.data.size=str.size:=rfl;have hcs:(bytesRow str (grownCap w str.size 0 e)).size=grownCap w str.size 0 e:=by grind[bytesRow]
 refine⟨upd ρ H.next (w.heap.size,0,grownCap w str.size 0 e),_,_,hrun,Ext.alloc ρ _ _ w _ _ rfl rfl rfl rfl s.base,?_,⟨_,_,_,a0l _ _ _,by omega,by simp⟩,Dy _⟩;refine s.alloc _ _ (grownCap w str.size 0 e) _ rfl ⟨bytesRow str (grownCap w str.size 0 e),e,_,c8z w _ _ rfl,?_,fun _=>⟨s.base,by grind,by omega,.inr ?_⟩⟩
 ·intro j v hj;rw[g2s] at hj
  cases hb:str.data.toList[j]? with
  | none=>grind
  | some b =>
   rw[hb] at hj;cases hj;have hlt:=(Ea.1 hb).1;have hlt' : j<str.data.size:=by grind
   refine⟨_,?_,rfl⟩;simp_all[bytesRow_at]
 grind
theorem e2h {e:TypeId} {x:AV} {u:Value} {n:Nat} {l:List AV} {b:List UInt8} (s:Sim B G ρ H w) (hx:VR ρ x u) (hs:P.underlying src=some (.slice e)) (hd:P.underlying dst=some .string)
  (he:P.underlying e=some (.int .u8)) (hn:lenOf x=some n) (hl:Cz H 1 n x=some l) (hb:bytesOf l=some b) (hst:∀ str,x≠.lit (.string str)) :
  (Go.convert src dst u).run P w=.ok (.string ⟨b.toArray⟩) w:=by
 obtain⟨cs,hfc,hcs⟩:=c2c (P:=P) s hl hx;obtain⟨ns,hns,hfold⟩:=bytesOf_ints hb hcs;have hr:=hfc w rfl;have key:∀ {a:Addr} {c:Nat},u=.slice (some a) n c->(Go.convert src dst u).run P w=.ok (.string ⟨b.toArray⟩) w:=by
  intro a c hu;subst hu;rw[run_convert_bytes_string w src dst e (some a) n c hs he hd,run_bytesToString w a n c ns ?_]
  ·simp_all
  (simp_all[Builtin.firstCells];grind)
 unfold lenOf at hn;split at hn
 ·obtain⟨_,_,_,_,_,hu⟩:=hx;grind
 ·obtain⟨_,_,_,_,_,hu⟩:=hx;grind
 ·obtain⟨_,_,hu⟩:=hx;grind
 ·cases hx;cases hn;simp only[Cz] at hl;cases hl;cases hb;rw[run_convert_bytes_string w src dst e none _ _ hs he hd];rfl
 all_goals grind
theorem e2i {x:AV} {u:Value} (s:Sim B G ρ H w) (hx:VR ρ x u) : VS B G P ρ H w (convert P H src dst x) (Go.convert src dst u):=by
 unfold Go.Ai.convert;split
 ·rename_i e str hs hd;cases hx;grind[Ci,e2g]
 ·exact Ci
 ·rename_i y e hst hs hd;split
  ·rename_i he;split
   ·rename_i n hn;split
    ·rename_i l hl;split
     ·rename_i b hb;exact b7y s (e2h s hx (by grind) (by grind) he hn hl hb (by grind)) rfl
     simp[Ci]
    simp[Ci]
   simp[Ci]
  simp[Ci]
 simp[Ci]
section one
variable {ev:Ev} {e:Operand→Value} {o:Oper} (s:Sim B G ρ H w) (he:EvR ρ ev e)
include s he
theorem e2j {x:Operand} (h:o.op=.convert src dst x) : RS B G P ρ H w (a1l P H ev o src dst (ev x)) (execOp e o):=by
 unfold a1l;split
 ·rename_i r hr;obtain⟨u,h1,h2⟩:=a9c (P:=P) (w:=w) (by grind) he hr;grind[RS.quiet]
 ·split
  ·rename_i v hv;have key:=e2i (P:=P) (src:=src) (dst:=dst) s (he _ _ hv);split
   ·rename_i r H' hr;obtain⟨ρ',u,w',h1,h2,h3,h4,h5⟩:=key r H' hr;exact⟨ρ',u,w',by simp_all[execOp],h2,h3,h4,h5⟩
   ·trivial
  ·trivial
end one
end Go.Ai
end
section
namespace Go.Ai
open Go.RowKit (Below)
variable {B G:Nat} {ρ:Rn} {H:Mem} {w:World} {P:Program}
variable {es:List (AV×AV×Nat)} {l:List MapEntry} {k:AV}
theorem c9x {α β:Type} (m:Sem α) (f:α->Sem β) : Ao P (m.bind f)=match Ao P m with|some a=>Ao P (f a)|none=>none:=by
 induction m with
 | pure a=>rfl
 | program k ih=>grind[Ao,Sem.bind]
 | mark m k ih=>assumption
 | choose q k ih=>grind[Ao,Sem.bind]
 | _=>simp[Sem.bind,Ao]
theorem c9y (kind:TypeDesc) (k:Value) : ∀ (l1 l2:List MapEntry) (i:Nat),l1.map (·.key)=l2.map (·.key) ->
  match Instr.findNow kind k l1 i with
  | none=>Instr.findNow kind k l2 i=none
  | some none=>Instr.findNow kind k l2 i=some none
  | some (some (j,_))=>∃ e,l2[j-i]?=some e/\i<=j/\Instr.findNow kind k l2 i=some (some (j,e.val))
 | [],[],i,_=>rfl
 | [],_ :: _,_,h=>by grind
 | _ :: _,[],_,h=>by grind
 | a :: l1,b :: l2,i,h=>by
  simp only[g2v,List.cons.injEq] at h;obtain⟨hk,hl⟩:=h;simp only[Instr.findNow,hk]
  cases hs:Instr.sameNow kind k b.key with
  | none=>rfl
  | some t=>cases t with
   | true=>grind
   | false =>
    have:=c9y kind k l1 l2 (i+1) hl;dsimp only;revert this
    cases Instr.findNow kind k l1 (i+1) with
    | none=>exact id
    | some r=>cases r with
     | none=>exact id
     | some y =>
      obtain⟨j,v⟩:=y;rintro⟨e,he,hle,hr⟩;exact⟨e,by rw[show j-i=(j-(i+1))+1 by omega];simpa using he,by omega,hr⟩
theorem c9z (kt:TypeId) (k:Value) : ∀ (l1 l2:List MapEntry) (i:Nat) (r:Option (Nat×Value)),l1.map (·.key)=l2.map (·.key)->Ao P (Instr.findAsking kt k l1 i)=some r->∀ w:World,
  match r with
  | none=>(Instr.findAsking kt k l2 i).run P w=.ok none w
  | some (j,_)=>∃ e,l2[j-i]?=some e/\i<=j/\(Instr.findAsking kt k l2 i).run P w=.ok (some (j,e.val)) w
 | [],[],i,r,_,hp,w=>by simp only[Instr.findAsking] at hp;cases hp;rfl
 | [],_ :: _,_,_,h,_,_=>by grind
 | _ :: _,[],_,_,h,_,_=>by grind
 | a :: l1,b :: l2,i,r,h,hp,w=>by
  simp only[g2v,List.cons.injEq] at h;obtain⟨hk,hl⟩:=h;simp only[Instr.findAsking,hk] at hp |-;have hp':=hp;change Ao P (Sem.bind _ _)=_ at hp';rw[c9x] at hp'
  cases hq:Ao P (Op.equal kt k b.key) with
  | none=>grind
  | some t =>
   rw[hq] at hp';have hrun:=b5c hq w
   cases t with
   | true =>
    simp only[if_true] at hp';cases hp';simp_all
   | false =>
    simp only[g5j,if_false] at hp';have:=c9z kt k l1 l2 (i+1) r hl hp' w
    cases r with
    | none=>simp_all
    | some y =>
     obtain⟨j,v⟩:=y;obtain⟨e,he,hle,hr⟩:=this;exact⟨e,by grind,by omega,by simp_all⟩
theorem d0a {kt:TypeId} {k:Value} {l1 l2:List MapEntry} {r:Option (Nat×Value)} (h:l1.map (·.key)=l2.map (·.key)) (hp:Ao P (Instr.findKey kt k l1)=some r) (w:World) :
  match r with
  | none=>(Instr.findKey kt k l2).run P w=.ok none w
  | some (j,_)=>∃ e,l2[j]?=some e/\(Instr.findKey kt k l2).run P w=.ok (some (j,e.val)) w:=by
 unfold Instr.findKey at hp |-;have hp':=hp;change Ao P (Sem.bind _ _)=_ at hp';rw[c9x] at hp'
 cases hq:Ao P (underlying kt) with
 | none=>grind
 | some d =>
  rw[hq] at hp';have hrun:=b5c hq w;have hn:=c9y d k l1 l2 0 h;dsimp only at hp'
  cases hf:Instr.findNow d k l1 0 with
  | some x =>
   rw[hf] at hp' hn
   cases x with
   | none =>
    cases hp';simp_all
   | some y =>
    obtain⟨j,v⟩:=y;cases hp';obtain⟨e,he,_,hr⟩:=hn;simp_all
  | none =>
   rw[hf] at hp' hn;dsimp only at hn hp';have:=c9z kt k l1 l2 0 r h hp' w
   (split<;>simp_all)
theorem ER.keys:∀ {es:List (AV×AV×Nat)} {l:List MapEntry} {ks:List Value},ER ρ es l->litAll (es.map (·.1))=some ks->l.map (·.key)=ks
 | [],_,_,h,hk=>by cases h;cases hk;rfl
 | (k,v,b) :: es,_,ks,⟨e,l',he,h1,h2,h3,h4⟩,hk=>by
  subst he;simp only[List.map_cons] at hk
  cases k with
  | lit x =>
   simp only[litAll] at hk;split at hk
   ·rename_i ws hw;cases hk;cases h1;simp[ER.keys h4 hw]
   grind
  | _=>simp[litAll] at hk
theorem ER.get:∀ {es:List (AV×AV×Nat)} {l:List MapEntry} {i:Nat} {k v:AV} {b:Nat} {e:MapEntry},ER ρ es l->es[i]?=some (k,v,b)->l[i]?=some e->VR ρ k e.key/\VR ρ v e.val
 | [],_,i,_,_,_,_,_,h,_=>by grind
 | (k,v,b) :: es,_,0,_,_,_,_,⟨e,l',he,h1,h2,h3,h4⟩,h,h'=>by grind
 | (k,v,b) :: es,_,i+1,_,_,_,_,⟨e,l',he,h1,h2,h3,h4⟩,h,h'=>by subst he;simp at h h';exact ER.get h4 h h'
theorem ER.length:∀ {es:List (AV×AV×Nat)} {l:List MapEntry},ER ρ es l->l.length=es.length
 | [],_,h=>by cases h;rfl
 | _ :: _,_,⟨e,l',he,_,_,_,h4⟩=>by subst he;simp[ER.length h4]
theorem ER.snoc:∀ {es:List (AV×AV×Nat)} {l:List MapEntry} {k v:AV} {b:Nat} {e:MapEntry},ER ρ es l->VR ρ k e.key->VR ρ v e.val->e.born=b->ER ρ (es++[(k,v,b)]) (l++[e])
 | [],_,_,_,_,e,h,h1,h2,h3=>by cases h;exact⟨e,[],rfl,h1,h2,h3,rfl⟩
 | _ :: _,_,_,_,_,_,⟨e,l',he,a,b,c,d⟩,h1,h2,h3=>by subst he;exact⟨e,_,rfl,a,b,c,ER.snoc d h1 h2 h3⟩
theorem ER.set {v:AV} {ku vu:Value} (h1:VR ρ k ku) (h2:VR ρ v vu) : ∀ {es:List (AV×AV×Nat)} {l:List MapEntry} (i:Nat),ER ρ es l->ER ρ (b7m (k,v) es i) (l.modify i fun e=>{ e with key:=ku,val:=vu })
 | [],_,i,h=>by cases h;simp[b7m];rfl
 | (_,_,b) :: _,_,0,⟨e,l',he,_,_,c,d⟩=>by subst he;exact⟨{ e with key:=ku,val:=vu },l',by simp,h1,h2,c,d⟩
 | _ :: _,_,i+1,⟨e,l',he,a,b,c,d⟩=>by subst he;exact⟨e,l'.modify i fun e=>{ e with key:=ku,val:=vu },by simp,a,b,c,ER.set h1 h2 i d⟩
theorem d0b {kt:TypeId} {k:Value} {r:Option Nat} (h:b0y P kt k es=some r) (he:ER ρ es l) (w:World) :
  match r with
  | none=>(Instr.findKey kt k l).run P w=.ok none w
  | some j=>∃ e,l[j]?=some e/\(Instr.findKey kt k l).run P w=.ok (some (j,e.val)) w:=by
 unfold b0y at h;split at h
 ·rename_i ks hks;have hkeys:=he.keys hks;have hmap:(ks.map fun q=>({ key:=q,val:=undef,born:=0 } : MapEntry)).map (·.key)=l.map (·.key):=by
   rw[hkeys,g5m];exact List.map_id' ks
  split at h
  ·rename_i i v hp;cases h;exact d0a hmap hp w
  ·rename_i hp;cases h;exact d0a hmap hp w
  grind
 grind
section one
variable {ev:Ev} {e:Operand→Value} {o:Oper} (s:Sim B G ρ H w) (he:EvR ρ ev e)
include s he
theorem e2k {t:TypeId} {m k:Operand} {ok:Bool} (h:o.op=.lookup t m k ok) : RS B G P ρ H w (a4i P H ev o t (ev m) (ev k) ok) (execOp e o):=by
 unfold a4i;split
 ·rename_i m' k' hm hk;refine RS.ofOpt s fun r hr=>?_;unfold c1o at hr;split at hr
  ·rename_i v hv;cases hr;exact a9c (by grind) he hv
  ·unfold lookup at hr;split at hr
   ·rename_i key elem a kv hd hkv;obtain⟨b,q,K,hrr,hmu⟩:=he _ _ hm;have hku:=c2a hkv (he _ _ hk);split at hr
    ·rename_i es clock hx;obtain⟨es',hb,her,hB⟩:=s.at hx hrr;split at hr
     ·rename_i x i hck hfk;have hlen:=her.length;have hemp:es'.isEmpty=es.isEmpty:=by
       (simp_all[Array.isEmpty];grind)
      have hck':=b5c hck w;have hf:=d0b hfk her w;have hget:(getObj b).run P w=.ok (.map es' clock) w:=by grind[Sem.run,getObj]
      unfold b7l at hr
      cases i with
      | some j =>
       dsimp only at hr;obtain⟨en,hen,hrun⟩:=hf;rw[b1e] at hr;split at hr
       ·rename_i k0 v0 b0 hes;cases hr;have hvr:=(her.get hes hen).2;cases ok
        ·exact⟨en.val,by simp_all[Au,Instr.lookup,execOp],hvr⟩
        ·exact⟨.tuple #[en.val,.bool true],by simp_all[Au,Instr.lookup,execOp],⟨_,rfl,_,_,rfl,hvr,_,_,rfl,rfl,rfl⟩⟩
       grind
      | none =>
       dsimp only at hr hf;split at hr
       ·rename_i z hz;cases hr;unfold b4n at hz;split at hz
        ·rename_i info hinfo;cases ok
         ·exact⟨z,by simp_all[a2f,Au,Instr.lookup,execOp],rfl⟩
         ·exact⟨.tuple #[z,.bool false],by simp_all[a2f,Au,Instr.lookup,execOp],⟨_,rfl,_,_,rfl,rfl,_,_,rfl,rfl,rfl⟩⟩
        grind
       grind
     grind
    grind
   grind
 ·trivial
theorem d0c {t:TypeId} {m k x:Operand} (h:o.op=.mapUpdate t m k x\/o.op=.insert t m k x) : RS B G P ρ H w (a5g P H t (ev m) (ev k) (ev x)) (execOp e o):=by
 have hexec:execOp e o=(do Instr.mapUpdate t (e m) (e k) (e x);pure .skip):=by grind[execOp]
 rw[hexec];unfold a5g;split
 ·rename_i m' k' x' hm hk hx;split
  ·rename_i H' hu;unfold mapUpdate at hu;split at hu
   ·rename_i key elem a kv hd hkv;obtain⟨b,q,K,hrr,hmu⟩:=he _ _ hm;have hku:=c2a hkv (he _ _ hk);split at hu
    ·rename_i es clock hmx;obtain⟨es',hb,her,hB⟩:=s.at hmx hrr;split at hu
     ·rename_i y i hck hfk;have hck':=b5c hck w;have hf:=d0b hfk her w;have hget:(getObj b).run P w=.ok (.map es' clock) w:=by grind[Sem.run,getObj]
      have hblt:b<w.heap.size:=(g2y.1 hb).1;have fin:∀ (es1:List (AV×AV×Nat)) (es2:Array MapEntry) (c2:Nat),ER ρ es1 es2.toList ->
        (Instr.mapUpdate t (e m) (e k) (e x)).run P w=.ok () { w with heap:=w.heap.setIfInBounds b (.map es2 c2) } ->
        RS B G P ρ H w (.skip (H.upd a (.map es1 c2))) (do Instr.mapUpdate t (e m) (e k) (e x);pure .skip):=by
       intro es1 es2 c2 hE hrun;refine⟨ρ,{ w with heap:=w.heap.setIfInBounds b (.map es2 c2) },by simp_all,⟨fun _ _=>rfl,KD.turn hb rfl (fun j hj=>by grind),rfl,rfl,rfl,by simp,fun j hj=>by grind⟩,?_,Dp _⟩;exact s.set hmx hrr rfl rfl (by simp) (fun j hj _=>by grind) ⟨es2,by grind,hE,hB⟩
      split at hu
      ·rename_i blk hblk;rw[Mem.setK_eq] at hu;cases hu;unfold c1l at hblk
       cases i with
       | some j =>
        dsimp only at hblk;obtain⟨en,hen,hrun⟩:=hf;rw[b1e] at hblk;split at hblk
        ·rename_i old v0 b0 hes;split at hblk
         ·rename_i hsb;cases hblk;have hold:=(her.get hes hen).1;simp only[VR] at hold;refine fin _ (es'.modify j fun en=>{ en with key:=kv,val:=e x }) _ ?_ ?_
          ·have:=ER.set (ρ:=ρ) (k:=.lit kv) (v:=x') (ku:=kv) (vu:=e x) rfl (he _ _ hx) j her;grind
          ·have hen' : es'[j]?=some en:=by grind
           simp[Instr.mapUpdate,Au hd,hmu,hku,hget,hck',hrun,hen',hold,Instr.keyThatStays,hsb,setObj,Sem.run,hb]
         grind
        grind
       | none =>
        dsimp only at hblk hf;cases hblk;refine fin _ (es'.push { key:=kv,val:=e x,born:=clock }) _ ?_ ?_
        ·have:=ER.snoc (k:=.lit kv) (v:=x') (b:=clock) (e:={ key:=kv,val:=e x,born:=clock }) her rfl (he _ _ hx) rfl;grind
        ·simp[Instr.mapUpdate,Au hd,hmu,hku,hget,hck',hf,setObj,Sem.run,hb]
      grind
     grind
    grind
   grind
  ·trivial
 ·trivial
end one
end Go.Ai
end
section
namespace Go.Ai
open Go.RowKit (Below)
variable {B G:Nat} {ρ:Rn} {H:Mem} {w:World} {P:Program}
theorem c2h {f:FuncId} (h:Ap P f=true) (args:Array Value) (w:World) : (callFunc f args).run P w=.ok (.enter f args) w:=by
 unfold Ap at h;split at h
 ·(simp_all[callFunc];grind)
 grind
section one
variable {ev:Ev} {e:Operand→Value} {o:Oper} (s:Sim B G ρ H w) (he:EvR ρ ev e)
include s
omit s in
theorem c2i {f:FuncId} {args:List AV} {us:Array Value} {m:Sem Next} (hm:m.run P w=(callFunc f us).run P w) (hv:VRs ρ args us.toList) : RS B G P ρ H w (a6b P H f args) m:=by
 unfold a6b;split
 ·rename_i h;exact⟨us,by grind[c2h],hv,rfl⟩
 ·trivial
omit s in
theorem e2l {d:Option TypeDesc} (h:b4o d=some true) : ∃ e,d=some (.pointer e):=by
 unfold b4o at h;grind
omit s in
theorem e2m {d:Option TypeDesc} (h:b4o d=some false) : ∃ t,d=some t/\∀ e,t≠.pointer e:=by
 unfold b4o at h;grind
omit s in
theorem e2n {t:TypeId} {name:String} {f:FuncId} {u:Value} (h:c1m P t name=some f) (n:Nat) (w:World) : (method (n+1) t u name).run P w=.ok (f,u) w:=by
 unfold c1m at h;split at h
 ·rename_i i hi;split at h
  ·rename_i m hm;have base:∀ (pr:Bool),m.path.isEmpty=true->m.func=some (f,pr)->(receiverAt t (.val u) pr (some ((name.splitOn ".").getLastD name))).run P w=.ok u w->(method (n+1) t u name).run P w=.ok (f,u) w:=by
    simp_all[follow,a3j,method]
   unfold c8a at h;split at h
   ·rename_i f' pr h1 h2;split at h
    ·rename_i h3;cases h;obtain⟨el,hd⟩:=e2l h3;simp_all[Place.get,Au,receiverAt]
    ·rename_i h3;cases h;obtain⟨d,hd,hnp⟩:=e2m h3;refine base false h1 h2 ?_;cases d<;>first|exact absurd rfl (hnp _)|simp[receiverAt,Au hd,Place.get]
    grind
   grind
  grind
 grind
omit s in
theorem e2o (a:Value) (b:Array Value) : (#[a]++b).extract 1 (#[a]++b).size=b:=by
 simp
include he
theorem e2p {c:Call} (h:o.op=.call c) : RS B G P ρ H w (Cd P H ev o c) (execOp e o):=by
 unfold Cd;split
 ·trivial
 ·rename_i args hargs;have hva:VRs ρ args (c.args.map e).toList:=by simpa using evals_VRs he hargs
  split
  ·rename_i b hc;unfold a3f;have two:∀ {x y:AV},args=[x,y]->∃ u u',(c.args.map e)[0]?=some u/\(c.args.map e)[1]?=some u'/\VR ρ x u/\VR ρ y u':=by
    intro x y ha;subst ha;obtain⟨u,u',hl,h1,h2⟩:=hva.two;exact⟨u,u',by rw[<- g4u,hl];rfl,by rw[<- g4u,hl];rfl,h1,h2⟩
   split
   ·unfold b7n;split
    ·rename_i x y st hst;obtain⟨u,u',h0,h1,hx,hy⟩:=two rfl;have key:=e2d (P:=P) (ty:=o.type) s hst h0 h1 hx hy;split
     ·rename_i v H' hr;obtain⟨ρ',r,w',g1,g2,g3,g4,g5⟩:=key v H' hr;exact⟨ρ',r,w',by simp_all[a7q,builtin],g2,g3,g4,g5⟩
     ·trivial
    ·trivial
   ·unfold c1n;split
    ·rename_i x y st hst;obtain⟨u,u',h0,h1,hx,hy⟩:=two rfl;have key:=e2e (P:=P) (ty:=o.type) s hst h0 h1 hx hy;split
     ·rename_i v H' hr;obtain⟨ρ',r,w',g1,g2,g3,g4,g5⟩:=key v H' hr;exact⟨ρ',r,w',by simp_all[a7q,builtin],g2,g3,g4,g5⟩
     ·trivial
    ·trivial
   ·grind[e1w]
   ·grind[e1x]
   ·show (execOp e o).run P w=.ok .recover w;rw[a7q h hc];rfl
   grind[b1f]
  ·rename_i recv name hc;unfold b7o;split
   ·rename_i r hr;split
    ·rename_i t v hi;have hv:∃ u,e recv=.iface t u/\VR ρ v u:=by
      unfold ifaceOf at hi;split at hi
      ·cases hi;exact he _ _ hr
      ·cases hi;have:=he _ _ hr;simp only[VR] at this;exact⟨_,this,rfl⟩
      grind
     obtain⟨u,hu,hvu⟩:=hv;split
     ·rename_i f hm;refine c2i (us:=#[u]++c.args.map e) ?_ (by grind[VRs.cons]);have hd:Made.depth=99+1:=rfl;simp only[execOp,h,resolve,hc,hu,Sem.run_bind,Sem.run_pure,Result.andThen_ok,invoke,callMethod];have h0:(#[Value.iface t u]++c.args.map e)[0]?=some (Value.iface t u):=by grind
      rw[h0];simp only[e2o,Sem.run_bind,run_program,Result.andThen_ok,hd,<- g3u,e2n hm (P.types.size+99) w]
     ·trivial
    ·trivial
   ·trivial
  ·rename_i f hc;unfold a8y;split
   ·rename_i g first cap hf;have:=he _ _ hf;simp only[VR] at this;refine c2i (us:=first++c.args.map e++cap) ?_ ?_
    ·grind[invoke,Deferred.ofValue,resolve,execOp]
    ·have h1:=(VRs.lits (ρ:=ρ) first.toList).append hva;simpa using h1.append (VRs.lits (ρ:=ρ) cap.toList)
   ·rename_i g first cap hf;obtain⟨f',c',hu,h1,h2⟩:=he _ _ hf;refine c2i (us:=f'++c.args.map e++c') ?_ ?_
    ·grind[invoke,Deferred.ofValue,resolve,execOp]
    ·simpa using (h1.append hva).append h2
   ·trivial
omit s in
theorem e2q {c:Call} (h:o.op=.defer c) : RS B G P ρ H w (b2u H ev c) (execOp e o):=by
 unfold b2u;split
 ·rename_i args f hargs hc;have hva:VRs ρ args (c.args.map e).toList:=by simpa using evals_VRs he hargs
  split
  ·rename_i fn first cap hf;obtain⟨f',c',hu,h1,h2⟩:=he _ _ hf;exact⟨c',f'++c.args.map e,by simp_all[Deferred.ofValue,resolve,execOp],h2,by simpa using h1.append hva,rfl⟩
  ·rename_i fn first cap hf;have:=he _ _ hf;simp only[VR] at this;exact⟨cap,first++c.args.map e,by simp_all[Deferred.ofValue,resolve,execOp],VRs.lits _,by simpa using (VRs.lits (ρ:=ρ) first.toList).append hva,rfl⟩
  ·trivial
 ·trivial
theorem a6k (hG:G=P.globals.size) : RS B G P ρ H w (opV P H ev o) (execOp e o):=by
 unfold opV
 cases hop:o.op with
 | move x=>exact c9f s he (by grind[execOp])
 | assign x=>exact c9f s he (by grind[execOp])
 | pick c a b=>exact e0p s he hop
 | alloc t=>exact e0r s hop
 | box t x=>exact e0q s he hop
 | build t ps=>exact e1o s he hop
 | buildSlice t n ps=>exact e1p s he hop
 | insert t m k x=>exact d0c s he (.inr hop)
 | load t a=>exact e0s s hG he hop
 | store t a x=>exact e0t s he hop
 | ready g=>trivial
 | waits g=>trivial
 | nilCheck x=>exact e0u s he hop
 | binOp op t x y ty=>exact e1k s he hop
 | unOp op t x=>exact b1f s he (by grind)
 | convert a b x=>exact e2j s he hop
 | sliceToArrayPointer t x=>trivial
 | makeInterface t x=>exact e0v s he hop
 | makeFunc fn a b=>exact e0w s he hop
 | makeMap t r=>exact e1r s he hop
 | makeChan t x=>trivial
 | makeSlice t l c=>exact e1q s he hop
 | slice t x lo hi mx=>exact e1n s he hop
 | fieldAddr t x f=>exact e0z s he hop
 | field t x f=>exact e1b s he hop
 | indexAddr t x i=>exact e1a s he hop
 | index t x i=>exact e1c s he hop
 | lookup t m k ok=>exact e2k s he hop
 | mapUpdate t m k x=>exact d0c s he (.inl hop)
 | mapEntry t m k=>trivial
 | entryStore t m a x=>trivial
 | range t x=>exact e1s s he hop
 | next it b=>cases b with
  | true=>exact e1t s he hop
  | false=>trivial
 | entry it=>trivial
 | typeAssert x t a ok=>exact e1d s he hop
 | extract x i=>exact e0x s he hop
 | call c=>exact e2p s he hop
 | go c=>trivial
 | defer c=>exact e2q he hop
 | panic x=>exact e0y he hop
 | send a b=>trivial
 | recv t x b=>trivial
 | select a b=>trivial
end one
end Go.Ai
end
section
namespace Go.Ai
variable {P:Program} {ev:Ev} {o:Oper}
def a0z (f:Mem->R) : Prop:=∀ H v H',f H=.val v H'->H'=H/\∀ H2,f H2=.val v H2
theorem a5j (r:Option AV) : a0z (fun H=>ofOpt H r):=by
 intro H v H' h
 cases r with
 | none=>cases h
 | some x=>cases h;exact⟨rfl,fun _=>rfl⟩
theorem free_bad:a0z (fun _=>R.bad):=fun _ _ _ h=>by cases h
theorem a3k (v:AV) : a0z (fun H=>R.val v H):=fun _ _ _ h=>by grind
theorem c2j (h:freeOp o.op=true) : a0z (fun H=>opV P H ev o):=by
 unfold opV
 cases hop:o.op with
 | move x=>show a0z (fun H=>a1m H (ev x));unfold a1m;(split<;>simp_all[a3k,free_bad])
 | assign x=>show a0z (fun H=>a1m H (ev x));unfold a1m;(split<;>simp_all[a3k,free_bad])
 | pick c a b =>
  show a0z (fun H=>a3u H (ev c) (ev a) (ev b));unfold a3u
  (split<;>simp_all[free_bad,a5j])
 | build t ps =>
  show a0z (fun H=>a4g P H t (Cy ev ps.toList));unfold a4g
  (split<;>simp_all[free_bad,a5j])
 | nilCheck x =>
  show a0z (fun H=>a6d P H ev o (ev x));unfold a6d
  (split<;>simp_all[a5j,a3k])
 | binOp op t x y ty =>
  show a0z (fun H=>Bq P H ev o op t (ev x) (ev y));unfold Bq;split
  ·exact a3k _
  ·split
   ·exact a3k _
   ·unfold b2v;split
    ·(split<;>simp_all[free_bad,a3k])
    simp[free_bad]
 | unOp op t x=>exact a5j _
 | makeInterface t x =>
  show a0z (fun H=>a7j P H t (ev x));unfold a7j
  (split<;>simp_all[free_bad,a3k])
 | makeFunc fn a b =>
  show a0z (fun H=>a5f H fn (Bw ev a.toList) (Bw ev b.toList));unfold a5f
  (split<;>simp_all[free_bad,a3k])
 | slice t x lo hi mx =>
  show a0z (fun H=>a0b P H ev o t (ev x) lo hi mx);unfold a0b;split
  ·exact a3k _
  ·unfold a3g;split
   ·(split<;>simp_all[free_bad,a5j])
   simp[free_bad]
 | fieldAddr t x f =>
  show a0z (fun H=>a3v P H ev o t (ev x) f);unfold a3v a3h;split
  ·(split<;>simp_all[a5j,a3k])
  simp[free_bad]
 | field t x f =>
  show a0z (fun H=>a7k P H t (ev x) f);unfold a7k
  (split<;>simp_all[free_bad,a5j])
 | indexAddr t x i =>
  show a0z (fun H=>a0q P H ev o t (ev x) (ev i));unfold a0q a3h;split
  ·(split<;>simp_all[a5j,a3k])
  simp[free_bad]
 | index t x i =>
  show a0z (fun H=>a6e P H ev o t (ev x) (ev i));unfold a6e;split
  ·(split<;>simp_all[a5j,a3k])
  simp[free_bad]
 | typeAssert x t a ok =>
  show a0z (fun H=>a6f P H ev o (ev x) a ok);unfold a6f;split
  ·exact a3k _
  (split<;>simp_all[free_bad,a5j])
 | extract x i =>
  show a0z (fun H=>a5h H (ev x) i);unfold a5h;split
  ·exact a5j _
  ·(split<;>simp_all[free_bad,a3k])
  simp[free_bad]
 | _=>rw[hop] at h;cases h
theorem eqV_sound:∀ (n:Nat) (a b:Value),eqV n a b=true->a=b:=by
 intro n
 induction n with
 | zero =>
  intro a b h;unfold eqV at h;grind
 | succ n ih =>
  intro a b h;unfold eqV at h;grind
end Go.Ai
end
section
namespace Go.Ai
theorem d0d (acc:List Nat) (j:Nat) : ∀ (l:List Edge) (s:Nat),
  (l.foldl (fun s e=>match Region.binds .any e with|true=>s ||| 2 ^ e.on ||| acc.getD e.on 0|false=>s) s).testBit j=true ->
  s.testBit j=true\/∃ e∈l,Region.binds .any e=true/\(e.on=j\/(acc.getD e.on 0).testBit j=true)
 | [],s,h=>.inl h
 | e :: l,s,h=>by
  simp only[g5k] at h;rcases d0d acc j l _ h with h1|⟨e',he',h2⟩
  all_goals grind
theorem ancs_spec:∀ (l:List Oper) (acc:List Nat) (i j:Nat),Aw (ancs acc l) i j=true ->
  (i<acc.length/\Aw acc i j=true)\/∃ o e,acc.length<=i/\l[i-acc.length]?=some o/\e∈o.after.toList/\Region.binds .any e=true/\(e.on=j\/(e.on<i/\Aw (ancs acc l) e.on j=true))
 | [],acc,i,j,h=>by
  have h' : Aw acc i j=true:=h;grind[Aw]
 | o :: l,acc,i,j,h=>by
  have pre:∀ (l:List Oper) (acc:List Nat) (k:Nat),k<acc.length->(ancs acc l).getD k 0=acc.getD k 0:=by
   intro l
   induction l with
   | nil=>intro acc k _;rfl
   | cons o l ih =>
    grind[ancs]
  rcases ancs_spec l (acc++[c1p acc o]) i j h with⟨h1,h2⟩|⟨o',e,h1,h2,h3⟩
  ·simp only[Dr,Em] at h1;rcases g3a i acc.length with h4|h4
   ·grind[Aw]
   ·right;have hi:i=acc.length:=by omega
    subst hi;unfold Aw at h2;simp only[Dx] at h2;rw[Eu (Dp _)] at h2;simp only[g2o,List.getElem?_cons_zero,Option.getD_some] at h2;unfold c1p at h2;rcases d0d acc j _ 0 h2 with h5|⟨e,he,hb,hor⟩
    ·grind
    (simp_all[Aw];grind)
  ·right;simp only[Dr,Em] at h1 h2;refine⟨o',e,by omega,?_,h3⟩;grind
theorem b8a {ops:Array Oper} {listed:Nat->Prop} (down:∀ i o,listed i->ops[i]?=some o->∀ e∈o.after.toList,Region.binds .any e=true->listed e.on) :
  ∀ (i:Nat) (o:Oper) (j:Nat),ops[i]?=some o->(∀ e∈o.after.toList,Region.binds .any e=true->listed e.on)->Aw (ancs [] ops.toList) i j=true->listed j:=by
 intro i
 induction i using Nat.strongRecOn with
 | _ i ih =>
  intro o j ho hready h;rcases ancs_spec ops.toList [] i j h with⟨h1,_⟩|⟨o',e,_,h2,he,hb,hor⟩
  all_goals grind
mutual
theorem eqAV_sound:∀ (a b:AV),eqAV a b=true->a=b
 | .lit a,b,h=>by cases b<;>simp[eqAV] at h;rw[eqV_sound 4 _ _ h]
 | .ptr a i,b,h=>by cases b<;>simp[eqAV] at h;simp[h]
 | .sl a i n c,b,h=>by cases b<;>simp[eqAV] at h;simp[h]
 | .slq a i n c,b,h=>by cases b<;>simp[eqAV] at h;simp[h]
 | .es,b,h=>by cases b<;>simp[eqAV] at h;rfl
 | .map a,b,h=>by cases b<;>simp[eqAV] at h;simp[h]
 | .func f x y,b,h=>by
  cases b<;>simp[eqAV] at h;rename_i g u v;rw[h.1.1,eqAVs_sound x u h.1.2,eqAVs_sound y v h.2]
 | .iface t x,b,h=>by
  cases b<;>simp[eqAV] at h;rename_i u y;rw[h.1,eqAV_sound x y h.2]
 | .agg l,b,h=>by cases b<;>simp[eqAV] at h;rename_i m;rw[eqAVs_sound l m h]
 | .tup l,b,h=>by cases b<;>simp[eqAV] at h;rename_i m;rw[eqAVs_sound l m h]
theorem eqAVs_sound:∀ (a b:List AV),eqAVs a b=true->a=b
 | [],b,h=>by cases b<;>simp[eqAVs] at h;rfl
 | x :: l,b,h=>by
  cases b<;>simp[eqAVs] at h;rename_i y m;rw[eqAV_sound x y h.1,eqAVs_sound l m h.2]
end
end Go.Ai
end
section
namespace Go.Ai
open Go.RowKit (Below)
variable {B G:Nat} {ρ:Rn} {H:Mem} {w:World} {P:Program}
def ND (B:Nat) (P:Program) (ρ:Rn) (w:World) (f:Nat->AV) (x:Blk) (m:Sem Next) : Prop :=
 ∃ ob k u w',m.run P w=.ok (.value u) w'/\w'.heap=w.heap.push ob/\w'.os=w.os/\w'.tape=w.tape/\w'.output=w.output/\w.drawn<=w'.drawn /\
  ∀ nm,ρ nm=none->BR B (upd ρ nm (w.heap.size,0,k)) x w.heap.size 0 k w'/\VR (upd ρ nm (w.heap.size,0,k)) (f nm) u
theorem b8b {l:List AV} {cells:Array Value} {elem:TypeId} {m:Sem Next} {f:Nat->AV} {u:Value} (hB:B<=w.heap.size) (hc:VRs ρ l cells.toList)
  (hrun:m.run P w=.ok (.value u) { w with heap:=w.heap.push (.cells cells elem) }) (hv:∀ nm,VR (upd ρ nm (w.heap.size,0,0)) (f nm) u) :
  ND B P ρ w f (.cells l true 0) m:=by
 refine⟨.cells cells elem,0,u,_,hrun,rfl,rfl,rfl,rfl,Dp _,fun nm hn=>⟨⟨cells,elem,(0,0),by simp,?_,fun _=>⟨hB,by simp,by simp,.inl rfl⟩⟩,hv nm⟩⟩;intro i v hi;obtain⟨u,hu,hv⟩:=hc.get i hi;exact⟨u,by grind,hv.mono (a6j hn)⟩
def New (B:Nat) (P:Program) (ev:Ev) (o:Oper) (H:Mem) (v:AV) (H' : Mem) : Prop :=
 ∃ f x,v=f H.next/\H'=H.add x/\∀ (ρ:Rn) (w:World) (e:Operand->Value),EvR ρ ev e->B<=w.heap.size->ND B P ρ w f x (execOp e o)
variable {ev:Ev} {o:Oper} {v:AV} {H' : Mem}
theorem e2r {t:TypeId} {x:Operand} (h:o.op=.box t x) (hv:a4f H (ev x)=.val v H') : New B P ev o H v H':=by
 unfold a4f at hv;split at hv
 ·rename_i y hy;unfold a0k at hv;rw[Mem.newK_eq] at hv;cases hv;refine⟨fun n=>.ptr n 0,_,rfl,rfl,fun ρ w e he hB=>?_⟩;refine b8b hB (cells:=(e x).cells) (elem:=t) (he _ _ hy).cells (u:=.pointer (some ⟨w.heap.size,0,none⟩)) ?_ fun nm=>⟨_,_,_,a0l _ _ _,rfl⟩;simp[execOp,h,Instr.box,newVar,newRow]
 grind
theorem e2s {t:TypeId} (h:o.op=.alloc t) (hv:a6c P H t=.val v H') : New B P ev o H v H':=by
 unfold a6c at hv;split at hv
 ·rename_i l hl;unfold a0a at hl;split at hl
  ·rename_i i hi;split at hl
   ·rename_i zv hz;cases hl;unfold a0k at hv;rw[Mem.newK_eq] at hv;cases hv;refine⟨fun n=>.ptr n 0,_,rfl,rfl,fun ρ w e he hB=>?_⟩;refine b8b hB (cells:=zv.cells) (elem:=t) (VRs.lits _) (u:=.pointer (some ⟨w.heap.size,0,none⟩)) ?_ fun nm=>⟨_,_,_,a0l _ _ _,rfl⟩;simp_all[a2f,newRow,newVar,Instr.alloc,execOp]
   grind
  grind
 grind
theorem e2t {t:TypeId} {r:Option Operand} (h:o.op=.makeMap t r) (hv:a4h P H ev t r=.val v H') : New B P ev o H v H':=by
 have key:(∀ (ρ:Rn) (w:World) (e:Operand->Value),EvR ρ ev e->(execOp e o).run P w=.ok (.value (.map (some w.heap.size))) { w with heap:=w.heap.push (.map #[] 0) }) ->
   (H.newK (.map [] 0) fun H2=>R.val (.map H.next) H2)=.val v H'->New B P ev o H v H':=by
  intro hrun hv;rw[Mem.newK_eq] at hv;cases hv;refine⟨fun n=>.map n,_,rfl,rfl,fun ρ w e he hB=>?_⟩;exact⟨_,0,_,_,hrun ρ w e he,rfl,rfl,rfl,rfl,Dp _,fun nm hn=>⟨⟨#[],by simp,rfl,hB⟩,⟨_,_,_,a0l _ _ _,rfl⟩⟩⟩
 unfold a4h at hv;split at hv
 ·simp_all[Instr.makeMap,execOp]
 ·rename_i x;split at hv
  ·rename_i k y kk n hd hy;refine key (fun ρ w e he=>?_) hv;have hu:=he _ _ hy;simp_all[VR,asIntOf,asInt,Au,Instr.makeMap,execOp]
  grind
theorem e2u {t:TypeId} {len:Nat} {parts:Array (Nat×Operand)} (h:o.op=.buildSlice t len parts) (hv:a2m P H t len (Cy ev parts.toList)=.val v H') : New B P ev o H v H':=by
 unfold a2m at hv;split at hv
 ·rename_i el size bytes ps hel hps;obtain⟨hd,i,zv,hi,rfl,rfl,hz,hzs⟩:=b1i hel;split at hv
  ·rename_i z hle hz0;split at hv
   ·rename_i l hl;unfold a0k at hv;rw[Mem.newK_eq] at hv;cases hv;refine⟨fun n=>.sl n 0 len len,_,rfl,rfl,fun ρ w e he hB=>?_⟩;have hpr:=evalParts_PR he hps;obtain⟨zs,hzr,hzc,hze,hz1⟩:=b5g (ρ:=ρ) hi hz hz0 w;have hrep:VRs ρ (rep z len) ((Array.range (len*i.size)).map (zs[· % zs.size]!)).toList:=by
     by_cases h0:len*i.size=0
     ·have hzn:z=[]:=by simp_all[a1k]
      subst hzn;rw[h0];have:rep [] len=[]:=by have:=b3c [] len;simp_all
      grind
     grind[b5f]
    obtain⟨cs,h1,h2,h3⟩:=b5e (place':=fun j=>some (j*i.size,i.size)) (fun _ _ hr=>hr) hpr hrep hl;have hle' : len*i.size<=1048576:=Dq hle;refine b8b hB (cells:=cs) (elem:=el) h2 (u:=.slice (some ⟨w.heap.size,0,none⟩) len len) ?_ fun nm=>⟨_,_,_,a0l _ _ _,Dp _,rfl⟩;have hnl:¬(len*i.size > 2 ^ 24):=by omega
    simp only[execOp,h,Instr.buildSlice,Sem.run_bind,Au hd,Result.andThen_ok,Cq hi];simp only[hnl,if_false];by_cases h0:len*i.size=0
    all_goals simp_all[newRow,a2f]
   grind
  grind
 grind
theorem e2v {t:TypeId} {l c:Operand} (h:o.op=.makeSlice t l c) (hv:a1v P H t (ev l) (ev c)=.val v H') : New B P ev o H v H':=by
 unfold a1v at hv;split at hv
 ·rename_i el size bytes n k hel hn hk;obtain⟨hd,i,zv,hi,rfl,rfl,hz,hzs⟩:=b1i hel;split at hv
  ·rename_i z hc hz0;unfold a0k at hv;rw[Mem.newK_eq] at hv;cases hv;refine⟨fun nm=>.sl nm 0 n k,_,rfl,rfl,fun ρ w e he hB=>?_⟩;have num:∀ {x:Operand} {m:Nat},(ev x).bind natOf=some m->∃ kk,e x=.int kk m:=by
    intro x m hx
    cases hx' : ev x with
    | none=>grind
    | some v=>grind[a7p]
   obtain⟨k1,hn'⟩:=num hn;obtain⟨k2,hk'⟩:=num hk;simp only[Ds] at hc;have hnk:n<=k:=Dq hc.1.1;have hk20:k<=1048576:=Dq hc.1.2;have hb20:i.bytes<=1048576:=Dq hc.2;obtain⟨zs,hzr,hzc,hze,hz1⟩:=b5g (ρ:=ρ) hi hz hz0 w;have hrep:VRs ρ (rep z k) ((Array.range (k*i.size)).map (zs[· % zs.size]!)).toList:=by
    by_cases h0:k*i.size=0
    ·have hzn:z=[]:=by simp_all[a1k]
     subst hzn;rw[h0];have:rep [] k=[]:=by have:=b3c [] k;simp_all
     grind
    grind[b5f]
   refine b8b hB (cells:=(Array.range (k*i.size)).map (zs[· % zs.size]!)) (elem:=el) hrep (u:=.slice (some ⟨w.heap.size,0,none⟩) n k) ?_ fun nm=>⟨_,_,_,a0l _ _ _,hnk,rfl⟩;have w1:IntKind.i64.wrap (n:Int)=n:=b1g (by omega);have w2:IntKind.i64.wrap (k:Int)=k:=b1g (by omega);have hprod:(i.bytes:Int)*k<=2 ^ 48:=by
    have:i.bytes*k<=1099511627776:=Ec (g3g hb20 hk20) (by decide);grind
   simp only[execOp,h,Instr.makeSlice,Sem.run_bind,Au hd,Result.andThen_ok,a3j hi,hn',hk',asInt,asIntOf,Sem.run_pure,w1,w2];have c1:¬((k:Int)<0):=by omega
   have c2:¬((n:Int)<0):=by omega
   have c3:¬((n:Int) > (k:Int)):=by omega
   have c4:¬((i.bytes:Int)*k > 2 ^ 48):=by omega
   simp only[c1,c2,c3,c4,decide_false,g3v,g5j,if_false,run_askRoom,Result.andThen_ok,Sem.run_bind,Cq hi,g2t]
   (split<;>simp_all[newRow,a2f])
  grind
 grind
theorem d0e {op:Op} (h:cls op=.alloc) : (∃ t,op=.alloc t)\/(∃ t x,op=.box t x)\/(∃ t n ps,op=.buildSlice t n ps)\/(∃ t l c,op=.makeSlice t l c)\/(∃ t r,op=.makeMap t r):=by
 (simp_all[cls];grind)
theorem c2k (h:cls o.op=.alloc) (hv:opV P H ev o=.val v H') : New B P ev o H v H':=by
 unfold opV at hv;rcases d0e h with⟨t,hop⟩|⟨t,x,hop⟩|⟨t,n,ps,hop⟩|⟨t,l,c,hop⟩|⟨t,r,hop⟩<;>rw[hop] at hv
 ·exact e2s hop hv
 ·exact e2r hop hv
 ·exact e2u hop hv
 ·exact e2v hop hv
 ·exact e2t hop hv
end Go.Ai
end
section
namespace Go.Ai
open Go.RowKit (Below)
def Gr (r r' : T2 AV) : Prop:=∀ j v,Cp r j=some v->Cp r' j=some v
theorem Gr.refl (r:T2 AV) : Gr r r:=fun _ _ h=>h
theorem Gr.trans {a b c:T2 AV} (h:Gr a b) (k:Gr b c) : Gr a c:=fun j v e=>k j v (h j v e)
theorem a9e {res:T2 AV} {i:Nat} {v:AV} {K:T2 AV->Out} {out:Out} (h:a6g res i v K=out) (hne:out≠.bad) :
  ∃ res',K res'=out/\Gr res res'/\Cp res' i=some v:=by
 unfold a6g at h;split at h
 ·rename_i he;rw[b1d] at h;refine⟨_,h,?_,?_⟩
  ·intro j y hj;unfold Cp at hj |-;have same:d0 i=d0 j->d1 i=d1 j->False:=by
    intro e0 e1;unfold c8g at he;rw[e0,e1] at he
    cases hl:gN (d1 j) (gN (d0 j) res) with
    | e=>rw[hl] at hj;cases hj
    | v k x=>simp_all
   unfold u2;rcases Dg.em (d0 i) (d0 j) with h0|h0
   ·rw[h0,a2d];rcases Dg.em (d1 i) (d1 j) with h1|h1
    all_goals grind[a2e]
   grind[a2e]
  ·unfold Cp;rw[c1v];show Bool.rec (motive:=fun _=>Option AV) none (some v) (Nat.beq i i)=some v;simp
 grind
theorem a9f {t:Nat} : ∀ {l:List Oper} {k j:Nat},a3w t l k=some j->k<=j/\∃ o,l[j-k]?=some o/\o.dst=some t
 | [],_,_,h=>by cases h
 | o :: l,k,j,h=>by
  unfold a3w at h
  cases hd:o.dst with
  | none =>
   rw[hd] at h;obtain⟨h1,o',h2,h3⟩:=a9f h;grind
  | some d =>
   rw[hd] at h;dsimp only at h
   cases hb:Nat.beq d t with
   | true =>
    simp_all
   | false =>
    rw[hb] at h;obtain⟨h1,o',h2,h3⟩:=a9f h;grind
theorem a9g {ops:List Oper} : ∀ {l:List Oper} {k:Nat},fit ops l k=true->∀ i o,l[i]?=some o->a7l ops o (k+i)=true
 | [],_,_,i,o,h=>by grind
 | x :: l,k,h,i,o,ho=>by
  simp only[fit,Ds] at h
  cases i with
  | zero=>grind
  | succ i =>
   have:=a9g h.2 i o (by grind);grind
theorem mem_chainOf:∀ {l:List Oper} {k i:Nat},i∈chainOf l k↔k<=i/\∃ o,l[i-k]?=some o/\Cu o.op=true
 | [],k,i=>by simp[chainOf]
 | x :: l,k,i=>by
  have ih:=@mem_chainOf l (k+1) i;have tail:∀ {o:Oper},k+1<=i->((x :: l)[i-k]?=some o↔l[i-(k+1)]?=some o):=by
   grind
  unfold chainOf;grind
theorem a5k {tab cs:List Nat} {s:Nat} : ∀ {l:List Oper} {k i:Nat},i∈a1x tab cs s l k↔k<=i/\∃ o,l[i-k]?=some o/\Cu o.op=false/\a1n tab i cs=s
 | [],k,i=>by simp[a1x]
 | x :: l,k,i=>by
  have ih:=@a5k tab cs s l (k+1) i;have tail:∀ {o:Oper},k+1<=i->((x :: l)[i-k]?=some o↔l[i-(k+1)]?=some o):=by
   grind
  have hb:(!Cu x.op && Nat.beq (a1n tab k cs) s)=true↔Cu x.op=false/\a1n tab k cs=s:=by
   simp
  unfold a1x;grind
theorem d0f {tab:List Nat} {i:Nat} : ∀ {l:List Nat},(∀ c∈l,Aw tab i c=false)->a1n tab i l=0
 | [],_=>rfl
 | c :: l,h=>by
  unfold a1n;rw[h c (by simp)];exact d0f fun c hc=>h c (by simp[hc])
theorem c2l {tab:List Nat} {i:Nat} {cs:List Nat} (h:∀ c∈cs,Aw tab i c=false) : ∀ {dn:List Nat},a1n tab i (dn++cs)<=dn.length
 | []=>by simp_all[d0f]
 | c :: dn=>by
  have ih:=c2l h (dn:=dn);rw[g4x];unfold a1n;split<;>simp<;>omega
theorem b5h {tab:List Nat} {c:Nat} {cs:List Nat} : ∀ {dn:List Nat},a5i tab (dn++c :: cs)=true->∀ j∈cs,∃ p∈c :: cs,Aw tab j p=true
 | [],h,j,hj=>by
  have:∀ (c:Nat) (cs:List Nat),a5i tab (c :: cs)=true->∀ j∈cs,∃ p∈c :: cs,Aw tab j p=true:=by
   intro c cs
   induction cs generalizing c with
   | nil=>grind
   | cons d cs ih =>
    intro h j hj;simp only[a5i,Ds] at h;grind
  grind
 | d :: dn,h,j,hj=>by
  refine b5h (dn:=dn) ?_ j hj
  cases dn with
  | nil=>simp_all[a5i]
  | cons x dn=>simp_all[a5i]
end Go.Ai
end
section
namespace Go.Ai
open Go.RowKit (Below)
variable {B G:Nat} {P:Program} {ops:Array Oper} {tab:List Nat} {fr0:Fr}
def a9h (B:Nat) (P:Program) (ops:Array Oper) (tab:List Nat) (fr0:Fr) (res:T2 AV) (held:List Nat) (als:Als) (i:Nat) (o:Oper) : Prop :=
  ∃ r0 v,Gr r0 res/\Cp res i=some v /\
    ((b2y tab r0 i o=some false/\v=.lit undef) \/
     (b2y tab r0 i o=some true /\
      ((cls o.op=.free/\∀ H,opV P H (env ops tab fr0 r0 i) o=.val v H) \/
       (cls o.op=.gen/\Ba P (env ops tab fr0 r0 i) o=some v) \/
       (cls o.op=.read/\i∈held) \/
       (∃ f x nm,(∀ (ρ:Rn) (w:World) (e:Operand->Value),EvR ρ (env ops tab fr0 r0 i) e->B<=w.heap.size->ND B P ρ w f x (execOp e o))/\v=f nm/\(i,nm,x)∈als))))
theorem a9h.mono {res res': T2 AV} {held held': List Nat} {als als': Als} {i:Nat} {o:Oper} (h:a9h B P ops tab fr0 res held als i o) (hg:Gr res res')
  (hh:i∈held->i∈held') (ha:∀ nm x,(i,nm,x)∈als->(i,nm,x)∈als') : a9h B P ops tab fr0 res' held' als' i o:=by
 obtain⟨r0,v,h1,h2,h3⟩:=h;refine⟨r0,v,h1.trans hg,hg _ _ h2,h3.imp id fun⟨h4,h5⟩=>⟨h4,h5.imp id fun h5=>h5.imp id fun h5=>h5.imp ?_ ?_⟩⟩
 ·grind
 ·exact fun⟨f,x,nm,a,b,c⟩=>⟨f,x,nm,a,b,ha _ _ c⟩
structure Ph (H H' : Mem) : Prop where
 sim:∀ {B G:Nat} {ρ:Rn} {w:World},Sim B G ρ H w->Sim B G ρ H' w
 le:H.next<=H'.next
theorem Ph.refl (H:Mem) : Ph H H:=⟨id,Dp _⟩
theorem Ph.trans {a b c:Mem} (h:Ph a b) (k:Ph b c) : Ph a c:=⟨fun s=>k.sim (h.sim s),Ec h.le k.le⟩
theorem Ph.add (H:Mem) (x:Blk) : Ph H (H.add x):=by
 refine⟨fun {B G ρ w} s=>?_,Dy _⟩;refine⟨?_,?_,fun a ha=>s.fresh a (Nat.le_of_succ_le ha),?_,g3t s.names,s.base⟩
 ·intro a y hy;rcases Mem.get_add hy with⟨rfl,rfl⟩|⟨hne,hy⟩
  ·exact .inl s.none
  ·exact s.blk a y hy
 ·intro a a' y y' b o k o' k' h h' hne ho hr hr';rcases Mem.get_add h with⟨e1,_⟩|⟨_,g⟩
  ·subst e1;rw[s.none] at hr;grind
  ·rcases Mem.get_add h' with⟨e1,_⟩|⟨_,g'⟩
   ·subst e1;rw[s.none] at hr';grind
   ·exact s.inj a a' y y' b o k o' k' g g' hne ho hr hr'
 ·intro a y ha hy;rcases Mem.get_add hy with⟨rfl,_⟩|⟨hne,hy⟩
  ·have:=s.names;omega
  ·exact s.glob a y ha hy
structure a1o (n:Nat) (H:Mem) (als:Als) : Prop where
 lo:∀ x∈als,n<=x.2.1
 hi:∀ x∈als,x.2.1<H.next
 own:∀ x∈als,∀ y∈als,x.2.1=y.2.1->x=y
theorem a1o.nil (n:Nat) (H:Mem) : a1o n H []:=⟨(fun _ h=>(by cases h)),(fun _ h=>(by cases h)),(fun _ h=>(by cases h))⟩
theorem a1o.sub {n:Nat} {H H': Mem} {als als': Als} (h:a1o n H als) (hs:∀ x∈als',x∈als) (hn:H.next<=H'.next) : a1o n H' als' :=
 ⟨fun x hx=>h.lo x (hs x hx),fun x hx=>Et (h.hi x (hs x hx)) hn,fun x hx y hy=>h.own x (hs x hx) y (hs y hy)⟩
theorem a1o.cons {n:Nat} {H:Mem} {als:Als} (h:a1o n H als) (hn:n<=H.next) (i:Nat) (x b:Blk) : a1o n (H.add b) ((i,H.next,x) :: als):=by
 refine⟨?_,?_,?_⟩
 ·intro y hy;rcases Dz.1 hy with rfl|hy
  ·grind
  ·exact h.lo y hy
 ·intro y hy;rcases Dz.1 hy with rfl|hy
  ·exact g4y _
  ·exact g3y (h.hi y hy)
 ·intro y hy z hz e;rcases Dz.1 hy with rfl|hy<;>rcases Dz.1 hz with rfl|hz
  ·rfl
  ·have:=h.hi z hz;grind
  ·have:=h.hi y hy;grind
  ·exact h.own y hy z hz e
structure Found (B:Nat) (P:Program) (ops:Array Oper) (tab:List Nat) (fr0:Fr) (L:List Nat) (res:T2 AV) (H:Mem) (held:List Nat) (als:Als) (res' : T2 AV) (H' : Mem) (held' : List Nat) (als' : Als) : Prop where
 gr:Gr res res'
 ph:Ph H H'
 keepH:∀ i∈held,i∈held'
 keepA:∀ x∈als,x∈als'
 new:∀ x∈als',x∈als\/H.next<=x.2.1
 ok:∀ n,n<=H.next->a1o n H als->a1o n H' als'
 known:∀ i∈L,∀ o,ops[i]?=some o->a9h B P ops tab fr0 res' held' als' i o
variable {L:List Nat} {res:T2 AV} {H:Mem} {held:List Nat} {als:Als} {K:StF} {out:Out}
theorem e2w {i:Nat} {o:Oper} (ho:ops[i]?=some o) (hk:Cu o.op=false) (hn:cls o.op≠.no) (h:c1s P ops tab fr0 i res H held als K=out) (hne:out≠.bad) :
  ∃ res' H' held' als',K res' H' held' als'=out/\Found B P ops tab fr0 [i] res H held als res' H' held' als':=by
 have only:∀ {res' : T2 AV} {held' : List Nat} {als' : Als},a9h B P ops tab fr0 res' held' als' i o->∀ j∈[i],∀ o',ops[j]?=some o'->a9h B P ops tab fr0 res' held' als' j o':=by
  grind
 unfold c1s at h;rw[ho] at h;dsimp only at h;split at h
 ·rename_i hw;obtain⟨res',h1,h2,h3⟩:=a9e h hne;exact⟨res',H,held,als,h1,h2,Ph.refl _,fun _ h=>h,fun _ h=>h,fun _ h=>.inl h,fun _ _ h=>h,only ⟨res,_,h2,h3,.inl ⟨hw,rfl⟩⟩⟩
 ·rename_i hw;split at h
  ·rename_i hc;split at h
   ·rename_i v H' hv;split at h
    ·rename_i b hb;obtain⟨f,x,e1,e2,hnd⟩:=c2k (B:=B) hc hv;subst e1;subst e2;have hbx:b=x:=by
      rcases Mem.get_add hb with⟨_,e⟩|⟨e,_⟩
      all_goals grind
     subst hbx;obtain⟨res',h1,h2,h3⟩:=a9e h hne;refine⟨res',_,held,_,h1,h2,Ph.add _ _,fun _ h=>h,fun _ h=>g2p _ h,?_,fun n hn hk=>hk.cons hn i b b,only ?_⟩
     ·grind
     ·exact⟨res,_,h2,h3,.inr ⟨hw,.inr (.inr (.inr ⟨f,b,H.next,hnd,rfl,by simp⟩))⟩⟩
    grind
   grind
  ·rename_i hc;split at h
   ·rename_i v hv;obtain⟨res',h1,h2,h3⟩:=a9e h hne;refine⟨res',H,i :: held,als,h1,h2,Ph.refl _,fun _ h=>g2p _ h,fun _ h=>h,fun _ h=>.inl h,fun _ _ h=>h,only ?_⟩;exact⟨res,_,h2,h3,.inr ⟨hw,.inr (.inr (.inl ⟨hc,by simp⟩))⟩⟩
   grind
  ·rename_i hc1 hc2;split at h
   ·rename_i v hv;obtain⟨res',h1,h2,h3⟩:=a9e h hne;refine⟨res',H,held,als,h1,h2,Ph.refl _,fun _ h=>h,fun _ h=>h,fun _ h=>.inl h,fun _ _ h=>h,only ?_⟩;refine⟨res,_,h2,h3,.inr ⟨hw,?_⟩⟩
    cases hc:cls o.op with
    | free =>
     left;refine⟨rfl,?_⟩;unfold quiet at hv;rw[hc] at hv;dsimp only at hv;have hf:freeOp o.op=true:=by
      cases hf:freeOp o.op with
      | true=>rfl
      | false =>
       (simp_all[cls];grind)
     split at hv
     ·rename_i v' H' hv';cases hv;intro H2;have hfr:=c2j hf H v H' hv';grind
     grind
    | gen =>
     right;left;refine⟨rfl,?_⟩;grind[quiet]
    | read=>grind
    | alloc=>grind
    | chain=>grind[Cu]
    | no=>grind
   grind
 grind
theorem stage_sound:∀ (L:List Nat) (res:T2 AV) (H:Mem) (held:List Nat) (als:Als),(∀ i∈L,∃ o,ops[i]?=some o/\Cu o.op=false/\cls o.op≠.no) ->
  b4w P ops tab fr0 L res H held als K=out->out≠.bad ->
  ∃ res' H' held' als',K res' H' held' als'=out/\Found B P ops tab fr0 L res H held als res' H' held' als'
 | [],res,H,held,als,_,h,_=>⟨res,H,held,als,h,Gr.refl _,Ph.refl _,fun _ h=>h,fun _ h=>h,fun _ h=>.inl h,fun _ _ h=>h,fun _ h=>by cases h⟩
 | i :: L,res,H,held,als,hL,h,hne=>by
  obtain⟨o,ho,hk,hn⟩:=hL i (by simp);obtain⟨r1,H1,hd1,al1,h1,f1⟩:=e2w (B:=B) ho hk hn h hne;obtain⟨r2,H2,hd2,al2,h2,f2⟩:=stage_sound L r1 H1 hd1 al1 (fun i hi=>hL i (by grind)) h1 hne;refine⟨r2,H2,hd2,al2,h2,f1.gr.trans f2.gr,f1.ph.trans f2.ph,fun i hi=>f2.keepH i (f1.keepH i hi),fun x hx=>f2.keepA x (f1.keepA x hx),?_,?_,?_⟩
  ·intro x hx;rcases f2.new x hx with h|h
   ·exact f1.new x h
   ·exact .inr (Ec f1.ph.le h)
  ·intro n hn hk;exact f2.ok n (Ec hn f1.ph.le) (f1.ok n hn hk)
  ·intro j hj o' ho';rcases Dz.1 hj with rfl|hj
   ·exact(f1.known j (by simp) o' ho').mono f2.gr (fun h=>f2.keepH _ h) fun nm x h=>f2.keepA _ h
   ·exact f2.known j hj o' ho'
end Go.Ai
end

