/- A small verified interpreter over names, its proofs, and what was proved with it. No condition. -/
import Derived.Lib.Builder
import Derived.Laws.Externs
import Derived.Test.YtpimmmnkcgnjjaaGreatN05
import Derived.Test.YtpimmmnkcgnjjaaGreatN02
set_option linter.all false
set_option linter.deprecated false
section
namespace Go.Ai
def putR (l:List AV) (off:Nat) (new:List AV) : List AV:=l.take off++new++l.drop (off+new.length)
theorem putR_len {l new:List AV} {off:Nat} (h:off+new.length≤l.length) : (putR l off new).length=l.length:=by
 grind [putR]
theorem putR_take {l new:List AV} {off:Nat} (h:off+new.length≤l.length) : (putR l off new).take (off+new.length)=l.take off++new:=by
 grind [putR,List.length_take,List.length_append]
section
variable {P:Program} {H:Mem} {ev:Ev} {d:Option Tmp} {ty:TypeId} {p:String} {af:Array Edge} {g:Option (Nat×Bool)} {x y:Operand} {s t:TypeId} {size bytes:Nat}
theorem oMakeSlice_ok {t e:TypeId} {size bytes:Nat} {z:List AV} {a b:Int} (he:elemOfSlice P t=some (e,size,bytes)) (hs:0 < size) (hb:bytes≤1048576) (hz:zeroL P e=some z) (h0:0≤a) (h1:a≤b) (h2:b≤1048576) :
  oMakeSlice P H t (some (.lit (.int .i64 a))) (some (.lit (.int .i64 b)))=.val (.sl H.next 0 a.toNat b.toNat) (H.add (.cells (rep z b.toNat) true 0)):=by
 unfold oMakeSlice
 rw [he]
 simp only [Option.bind_some,natOf_int h0,natOf_int (show (0:Int)≤b by omega)]
 have hc:(Nat.ble a.toNat b.toNat && Nat.ble b.toNat 1048576 && Nat.ble bytes 1048576)=true:=by
  grind [Nat.ble_eq_true_of_le]
 rw [hc]
 by_cases h:b.toNat=0
 ·have e1:zeroFor P e (b.toNat * size)=some []:=by unfold zeroFor; simp [*]
  grind [newBlk,rep,Mem.newK_eq]
 grind [Mem.newK_eq,newBlk,Nat.mul_eq_zero,Nat.eq_of_beq_eq_true,zeroFor]
theorem appendN_room {n k off a c:Nat} {x:AV} {new l:List AV} {z:Nat} (hn:lenOf x=some (n+1)) (hs:0 < size) (hf:firstL H size (n+1) x=some new) (hl:new.length=(n+1) * size)
  (hg:H.get a=some (.cells l true z)) (hc:k+(n+1)≤c) (hle:off+k * size+new.length≤l.length) (h4:allOne new=true) :
  appendN H size bytes (.sl a off k c) x=some (.sl a off (k+(n+1)) c,H.upd a (.cells (putR l (off+k * size) new) true z)):=by
 unfold appendN
 rw [hn]
 show (match Nat.beq size 0,firstL H size (n+1) x with | false,some new=>appTo H size bytes (n+1) (.sl a off k c) new | _,_=>none)=_
 have hb:Nat.beq size 0=false:=by
  grind [Nat.eq_of_beq_eq_true]
 rw [hb,hf]
 dsimp only
 unfold appTo
 rw [len_eq,hl,Nat.beq_refl]
 dsimp only
 unfold appSl
 rw [Nat.ble_eq_true_of_le hc]
 dsimp only
 rw [hg]
 dsimp only
 unfold setCells
 rw [h4]
 dsimp only
 rw [putCellsK_eq,if_pos hle,Mem.setK_eq]
 rfl
noncomputable def apR (q:Option (Nat×Nat)) (k c off a:Nat) (ga gb:Option Blk) (H:Mem) (els:R) : R:=match q,ga,gb with
 | some (size,bytes),some (.cells r true z),some (.cells l _ _)=>if 0 < size∧l.length=size∧off+k * size+size≤r.length∧k < c∧allOne l=true then .val (.sl a off (k+1) c) (H.upd a (.cells (putR r (off+k * size) l) true z)) else els
 | _,_,_=>els
theorem ap_room {a b c c' off k:Nat} {hx:ev x=some (.sl a off k c)} {hy:ev y=some (.sl b 0 1 c')} (hkc:k < c) :
  ex2 P H ev ⟨d,.call ⟨.builtin .append,#[x,y],#[s,t]⟩,ty,p,af,g⟩ x y (some (.sl a off k c)) (some (.sl b 0 1 c')) hx hy=apR (apI P s t) k c off a (H.get a) (H.get b) H (opV P H ev ⟨d,.call ⟨.builtin .append,#[x,y],#[s,t]⟩,ty,p,af,g⟩):=by
 unfold apR
 split
 ·rename_i size bytes r z l own w h1 h2 h3
  split
  ·rename_i h
   obtain ⟨h4,h5,h6,h7,h8⟩:=h
   show opV P H ev _=_
   rw [append_of hx hy h1,appendN_room (n:=0) rfl h4 (firstL_row h3 (by omega)) (by omega) h2 (by omega) (by omega) h8]
  ·rfl
 ·rfl
theorem apR_congr {tk:Nat} (_h0:tick=tk) {q q' : Option (Nat×Nat)} {k c off a:Nat} {ga ga' gb gb' : Option Blk} {H:Mem} {els:R} (h1:q=q') (h2:ga=ga') (h3:gb=gb') : apR q k c off a ga gb H els=apR q' k c off a ga' gb' H els:=by grind
attribute [congr] apR_congr
theorem apR_ok {r l:List AV} {own:Bool} {z w k c off a n:Nat} {G:Nat→Option Blk} {els:R} (h1:0 < size) (h2:l.length=size) (h3:off+k * size+size≤r.length) (h4:k < c) (h5:allOne l=true) :
  apR (some (size,bytes)) k c off a (some (.cells r true z)) (some (.cells l own w)) ⟨.fn G,n⟩ els=.val (.sl a off (k+1) c) ⟨.fn (gput G a (some (.cells (putR r (off+k * size) l) true z))),n⟩:=if_pos ⟨h1,h2,h3,h4,h5⟩
attribute [simp] ap_room apR_ok
end
section
variable {P:Program} {H:Mem} {ev:Ev} {d:Option Tmp} {ty:TypeId} {p:String} {af:Array Edge} {g:Option (Nat×Bool)}
theorem slice_sl_hm0 {t:TypeId} {x hi mx:Operand} {a off c:Nat} {k:IntKind} {hx:ev x=some (.sl a off 0 c)} {hh:ev hi=some (.lit (.int k 0))} {hm:ev mx=some (.lit (.int k 0))} (he:(elSz P t).map (·.1)=some none) :
  ex3 P H ev ⟨d,.slice t x none (some hi) (some mx),ty,p,af,g⟩ x hi mx (some (.sl a off 0 c)) (some (.lit (.int k 0))) (some (.lit (.int k 0))) hx hh hm=.val (.sl a off 0 0) H:=by
 show opV P H ev _=_
 show oSlice P H ev _ t (ev x) none (some hi) (some mx)=_
 unfold oSlice
 rw [generic_none (x:=x) (by simp [Op.operands]) (fun v' h=>by rw [hx] at h; cases h; rfl),hx]
 obtain ⟨q,hq,hq2⟩:=Option.map_eq_some_iff.1 he
 obtain ⟨q1,q2⟩:=q
 dsimp only at hq2
 subst hq2
 obtain ⟨e,i',h3,h4,h5⟩:=elSz_inv hq
 dsimp only
 unfold oSliceN evOpt
 dsimp only
 rw [hh,hm]
 dsimp only
 rw [sliceOp_slice h3 h4]
 rfl
attribute [simp] slice_sl_hm0
end
section
variable {P:Program} {H:Mem} {ev:Ev} {d:Option Tmp} {ty:TypeId} {p:String} {af:Array Edge} {g:Option (Nat×Bool)}
def sliceT (P:Program) (t:TypeId) : Bool:=match P.underlying t with | some (.slice _)=>true | _=>false
theorem sliceT_inv {t:TypeId} (h:sliceT P t=true) : ∃ e,P.underlying t=some (.slice e):=by
 grind [sliceT]
theorem bin_slnil {t rt:TypeId} {x y:Operand} {v:AV} (hx:ev x=some v) (hv:(∃ a o n c,v=.sl a o n c)∨(∃ a o n c,v=.slq a o n c)∨v=.es) (ht:sliceT P t=true) :
  binS P H ev ⟨d,.binOp .eql t x y rt,ty,p,af,g⟩ .eql t (some v) (some (.lit (.slice none 0 0)))=.val (.lit (.bool false)) H:=by
 obtain ⟨e,ht⟩:=sliceT_inv ht
 have hg:generic P ev ⟨d,.binOp .eql t x y rt,ty,p,af,g⟩=none :=
  generic_none (x:=x) (by simp [Op.operands]) fun v' h=>by rw [hx] at h; cases h; rcases hv with ⟨a,o,n,c,rfl⟩ | ⟨a,o,n,c,rfl⟩ | rfl <;> rfl
 have hb:binS P H ev ⟨d,.binOp .eql t x y rt,ty,p,af,g⟩ .eql t (some v) (some (.lit (.slice none 0 0)))=oBin P H ev ⟨d,.binOp .eql t x y rt,ty,p,af,g⟩ .eql t (some v) (some (.lit (.slice none 0 0))):=by
  rcases hv with ⟨a,o,n,c,rfl⟩ | ⟨a,o,n,c,rfl⟩ | rfl <;> rfl
 rw [hb]
 unfold oBin
 have hf:fast2 .eql (some v) (some (.lit (.slice none 0 0)))=none:=by
  rcases hv with ⟨a,o,n,c,rfl⟩ | ⟨a,o,n,c,rfl⟩ | rfl <;> rfl
 rw [hf,hg]
 dsimp only
 unfold oNilEq
 rw [ht]
 rcases hv with ⟨a,o,n,c,rfl⟩ | ⟨a,o,n,c,rfl⟩ | rfl <;> rfl
theorem bin_slN {t rt:TypeId} {x y:Operand} {a o n c:Nat} (hx:ev x=some (.sl a o n c)) (ht:sliceT P t=true) :
  binS P H ev ⟨d,.binOp .eql t x y rt,ty,p,af,g⟩ .eql t (some (.sl a o n c)) (some (.lit (.slice none 0 0)))=.val (.lit (.bool false)) H:=bin_slnil hx (.inl ⟨a,o,n,c,rfl⟩) ht
theorem bin_slqN {t rt:TypeId} {x y:Operand} {a o n c:Nat} (hx:ev x=some (.slq a o n c)) (ht:sliceT P t=true) :
  binS P H ev ⟨d,.binOp .eql t x y rt,ty,p,af,g⟩ .eql t (some (.slq a o n c)) (some (.lit (.slice none 0 0)))=.val (.lit (.bool false)) H:=bin_slnil hx (.inr (.inl ⟨a,o,n,c,rfl⟩)) ht
attribute [simp] bin_slN bin_slqN
end
theorem rep_len (z:List AV) : ∀ n,(rep z n).length=n * z.length
 | 0=>by simp
 | n+1=>by rw [rep_succ,List.length_append,rep_len z n,Nat.succ_mul]; omega
end Go.Ai
end
section
namespace Go.Ai
section
variable {P:Program} {H:Mem} {ev:Ev} {d:Option Tmp} {ty:TypeId} {p:String} {af:Array Edge} {g:Option (Nat×Bool)}
theorem slice_nil_hi {t:TypeId} {x hi:Operand} {hx:ev x=some (.lit (.slice none 0 0))} {hh:ev hi=some (.lit (.int .i64 0))} (he:(elSz P t).map (·.1)=some none) :
  ex2 P H ev ⟨d,.slice t x none (some hi) none,ty,p,af,g⟩ x hi (some (.lit (.slice none 0 0))) (some (.lit (.int .i64 0))) hx hh=.val (.lit (.slice none 0 0)) H:=by
 show opV P H ev _=_
 show oSlice P H ev _ t (ev x) none (some hi) none=_
 unfold oSlice
 rw [generic2 (r:=.slice none 0 0) (x:=x) (y:=hi) (by rfl) hx hh fun ρ e1 e2=>?_]
 show pureV P (do pure (Next.value (← Instr.sliceAt t (ρ x) none (some (ρ hi)) none)))=_
 rw [e1,e2]
 obtain ⟨q,hq,hq2⟩:=Option.map_eq_some_iff.1 he
 obtain ⟨q1,q2⟩:=q
 dsimp only at hq2
 subst hq2
 obtain ⟨e,i,ht,hi',h5⟩:=elSz_inv hq
 have key:pureV P (Instr.slice t (.slice none 0 0) none (some (.int .i64 0)) none)=some (.slice none 0 0):=by
  unfold Instr.slice
  refine (pureV_then (m:=underlying t) (a:=TypeDesc.slice e) (pureV_underlying ht)).trans ?_
  dsimp only
  refine (pureV_then (a:=(0,0,0)) ?_).trans ?_
  ·rfl
  ·refine (pureV_then (m:=sizeOf e) (a:=i.size) ?_).trans ?_
   ·exact (pureV_then (pureV_info hi')).trans rfl
   ·rfl
 have key2:pureV P (Instr.sliceAt t (.slice none 0 0) none (some (.int .i64 0)) none)=some (.slice none 0 0):=by
  grind [Instr.sliceAt,pureV_underlying,pureV_then]
 rw [pureV_then key2]
 rfl
theorem slice_num {t:TypeId} {x hi:Operand} {v r:AV} {k:IntKind} {i:Int} {hx:ev x=some v} {hh:ev hi=some (.lit (.int k i))} (hl:toLit v=none) (he:(elSz P t).map (·.1)=some none) (hr:∀ size,sliceN size none (some (.lit (.int k i))) none v=some r) :
  ex2 P H ev ⟨d,.slice t x none (some hi) none,ty,p,af,g⟩ x hi (some v) (some (.lit (.int k i))) hx hh=.val r H:=by
 show opV P H ev _=_
 show oSlice P H ev _ t (ev x) none (some hi) none=_
 unfold oSlice
 rw [generic_none (x:=x) (by simp [Op.operands]) (fun v' h=>by grind),hx]
 obtain ⟨q,hq,hq2⟩:=Option.map_eq_some_iff.1 he
 obtain ⟨q1,q2⟩:=q
 dsimp only at hq2
 subst hq2
 obtain ⟨e,i',h3,h4,h5⟩:=elSz_inv hq
 simp_all [evOpt,oSliceN,sliceOp_slice]
end
section
variable {H:Mem}
attribute [simp] stS_one
theorem putR_at0 {l:List AV} {off:Nat} {u v:AV} (h:off+2≤l.length) : (putR l off [u,v])[off]?=some u:=by
 (simp_all [putR]; grind)
theorem putR_at1 {l:List AV} {off:Nat} {u v:AV} (h:off+2≤l.length) : (putR l off [u,v])[off+1]?=some v:=by
 (simp_all [putR]; grind)
theorem putR_ne {l new:List AV} {off j:Nat} (h:off+new.length≤l.length) (h2:j < off∨off+new.length≤j) : (putR l off new)[j]?=l[j]?:=by
 unfold putR
 rcases h2 with h2 | h2
 ·grind
 ·rw [List.getElem?_append_right (by grind),List.length_append,List.length_take,Nat.min_eq_left (by omega),List.getElem?_drop,show off+new.length+(j - (off+new.length))=j by omega]
end
def CapV (sv:AV) : Prop:=∀ a o n c,sv=.sl a o n c→n≤c
theorem Row.takes {g:Nat→Option Blk} {a off:Nat} {cs:List AV} (h:Row g a off cs) (m:Nat) : Row g a off (cs.take m):=by
 obtain ⟨l,own,z,h1,h2,h3⟩:=h
 refine ⟨l,own,z,h1,?_,?_⟩
 all_goals grind
theorem SliceV.cutP {P:Program} {g:Nat→Option Blk} {b len:Nat} {sv:AV} {cs:List AV} (h:SliceV g b sv len cs) (hc:CapV sv) {t:TypeId} (he:(elSz P t).map (·.1)=some none) {k sz:Nat} (hk:k≤len) :
  ∃ sv',(∀ {H:Mem} {ev:Ev} {d:Option Tmp} {ty:TypeId} {p:String} {af:Array Edge} {gd:Option (Nat×Bool)} {x hi:Operand} {hx:ev x=some sv} {hh:ev hi=some (.lit (.int .i64 (k:Int)))},
   ex2 P H ev ⟨d,.slice t x none (some hi) none,ty,p,af,gd⟩ x hi (some sv) (some (.lit (.int .i64 (k:Int)))) hx hh=.val sv' H)∧SliceV g b sv' k (cs.take (k * sz))∧CapV sv':=by
 rcases h with ⟨h1,h2,rfl | rfl⟩ | ⟨a,off,ha,⟨c,rfl⟩ | ⟨c,rfl⟩,hrow⟩
 ·obtain rfl:k=0:=by omega
  refine ⟨.lit (.slice none 0 0),?_,.inl ⟨rfl,by simp,.inl rfl⟩,fun _ _ _ _ e=>by cases e⟩
  grind [slice_nil_hi]
 ·obtain rfl:k=0:=by omega
  refine ⟨.es,?_,.inl ⟨rfl,by simp,.inr rfl⟩,fun _ _ _ _ e=>by cases e⟩
  intro H ev d ty p af gd x hi hx hh
  exact slice_num (hx:=hx) (hh:=hh) rfl he fun size=>rfl
 ·have hcc:=hc _ _ _ _ rfl
  by_cases h0:c=0
  ·obtain rfl:k=0:=by omega
   subst h0
   refine ⟨.sl a off 0 0,?_,.inr ⟨a,off,ha,.inl ⟨0,rfl⟩,hrow.takes _⟩,fun _ _ _ _ e=>by grind⟩
   intro H ev d ty p af gd x hi hx hh
   refine slice_num (hx:=hx) (hh:=hh) rfl he fun size=>?_
   rfl
  ·refine ⟨.sl a off k c,?_,.inr ⟨a,off,ha,.inl ⟨c,rfl⟩,hrow.takes _⟩,fun _ _ _ _ e=>by grind⟩
   grind [slice_sl_hi]
 ·by_cases h0:len=0
  ·obtain rfl:k=0:=by omega
   subst h0
   refine ⟨.es,?_,.inl ⟨rfl,by simp,.inr rfl⟩,fun _ _ _ _ e=>by cases e⟩
   intro H ev d ty p af gd x hi hx hh
   refine slice_num (hx:=hx) (hh:=hh) rfl he fun size=>?_
   rfl
  ·refine ⟨.slq a off k c,?_,.inr ⟨a,off,ha,.inr ⟨c,rfl⟩,hrow.takes _⟩,fun _ _ _ _ e=>by cases e⟩
   grind [slice_slq_hi]
end Go.Ai
end
section
namespace Go.Ai
def edOK (O:Int) (next:Nat) (e:Int×Int) : Option Nat :=
 if e.1 = -1∧(e.2 = -1∨e.2 = -2) then some next
 else if e.1=(next:Int)∧0≤e.2∧e.2 < O then some (next+1) else none
def goE (O:Int) : List (Int×Int)→Nat→Option Nat
 | [],next=>some next
 | e :: l,next=>match edOK O next e with
  | none=>none
  | some nx=>goE O l nx
def goT (I O:Int) : List (List (Int×Int))→Nat→Nat→Option Nat
 | [],_,next=>some next
 | r :: l,n,next=>if (r.length:Int)=I∧n < next then
   (match goE O r next with
    | none=>none
    | some nx=>goT I O l (n+1) nx)
   else none
def treeErr (I O:Int) (T:List (List (Int×Int))) : Int :=
 if I > 16∨O > 16∨T.length > 65537 then 3 else if I < 1∨O < 1∨T.length < 1 then 1 else if goT I O T 0 1=some T.length then 0 else 1
def okE (len:Nat) (O:Int) (e:Int×Int) : Bool :=
 decide (1≤e.1∧e.1 < len∧0≤e.2∧e.2 < O) || decide (e.1 = -1∧(e.2 = -1∨e.2 = -2))
structure WSt where
 out:List (List Int)
 seen:List Bool
 many:Nat
def wI (r n:Nat) : List (Int×Int)→Nat→WSt→Option WSt
  | [],_,st=>some st
  | e :: l,i,st =>
    if st.seen.getD n false=true∧(st.out.getD n []).length=r then
      (if e.1 = -1 then wI r n l (i+1) st
       else if st.seen.getD e.1.toNat false=true then none
       else wI r n l (i+1) ⟨st.out.set e.1.toNat (st.out.getD n []++[(i:Int)]),st.seen.set e.1.toNat true,st.many+1⟩)
    else some st
def wN (r:Nat) : List (List (Int×Int))→Nat→WSt→Option WSt
 | [],_,st=>some st
 | row :: l,n,st=>match wI r n row 0 st with
  | none=>none
  | some s=>wN r l (n+1) s
def wR (T:List (List (Int×Int))) : Nat→Nat→WSt→Option WSt
 | 0,_,st=>some st
 | k+1,r,st=>match wN r T 0 st with
  | none=>none
  | some s=>if s.many=st.many then some s else wR T k (r+1) s
def wSt0 (len:Nat) : WSt:=⟨List.replicate len [],(List.replicate len false).set 0 true,1⟩
def rWords (T:List (List (Int×Int))) : List (List Int) :=
 match wR T T.length 0 (wSt0 T.length) with
 | none=>[]
 | some s=>if s.many < T.length then [] else s.out
def lexC:List Int→List Int→Int
 | x :: a,y :: b=>if x < y then -1 else if y < x then 1 else lexC a b
 | _,_=>0
def cmpM (a b:List Int) : Int:=if a.length < b.length then -1 else if b.length < a.length then 1 else lexC a b
def incW (w:List (List Int)) : Bool:=(List.range (w.length - 1)).all fun n=>decide (cmpM (w.getD n []) (w.getD (n+1) []) < 0)
def rTreeErr (I O:Int) (T:List (List (Int×Int))) : Int :=
 if I > 16∨O > 16∨T.length > 65537 then 3 else if I < 1∨O < 1∨T.length < 1 then 1
 else if ((T.all fun r=>decide ((r.length:Int)=I) && r.all (okE T.length O)) && decide ((rWords T).length=T.length) && incW (rWords T))=true then 0 else 1
def LL:List Int→List Int→Prop
 | x :: a,y :: b=>x < y∨x=y∧LL a b
 | _,_=>False
def SL (a b:List Int) : Prop:=a.length < b.length∨a.length=b.length∧LL a b
theorem lexC_LL:∀ {a b:List Int},lexC a b < 0↔LL a b
 | [],[]=>by simp [lexC,LL]
 | [],_ :: _=>by simp [lexC,LL]
 | _ :: _,[]=>by simp [lexC,LL]
 | x :: a,y :: b=>by
  unfold lexC LL
  by_cases h1:x < y
  ·simp [h1]
  ·rw [if_neg h1]
   by_cases h2:y < x
   ·rw [if_pos h2]
    constructor
    ·intro h; omega
    ·rintro (h | ⟨h,-⟩) <;> omega
   ·rw [if_neg h2,lexC_LL]
    constructor
    ·intro h; exact .inr ⟨by omega,h⟩
    ·rintro (h | ⟨-,h⟩)
     ·omega
     ·exact h
theorem cmpM_SL {a b:List Int} : cmpM a b < 0↔SL a b:=by
 unfold cmpM SL
 by_cases h1:a.length < b.length
 ·simp [h1]
 ·rw [if_neg h1]
  by_cases h2:b.length < a.length
  ·rw [if_pos h2]
   constructor
   ·intro h; omega
   ·rintro (h | ⟨h,-⟩) <;> omega
  ·rw [if_neg h2,lexC_LL]
   constructor
   ·intro h; exact .inr ⟨by omega,h⟩
   ·rintro (h | ⟨-,h⟩)
    ·omega
    ·exact h
theorem LL.irrefl:∀ {a:List Int},¬ LL a a
 | [],h=>h
 | x :: a,h=>by
  rcases h with h | ⟨-,h⟩
  ·omega
  ·exact LL.irrefl h
theorem LL.trans:∀ {a b c:List Int},LL a b→LL b c→LL a c
 | [],_,_,h,_=>by cases ‹List Int› <;> exact h.elim
 | _ :: _,[],_,h,_=>h.elim
 | _ :: _,_ :: _,[],_,h=>h.elim
 | x :: a,y :: b,z :: c,h1,h2=>by
  rcases h1 with h1 | ⟨h1,h1'⟩
  ·rcases h2 with h2 | ⟨h2,-⟩
   ·exact .inl (by omega)
   ·exact .inl (by omega)
  ·rcases h2 with h2 | ⟨h2,h2'⟩
   ·exact .inl (by omega)
   ·exact .inr ⟨by omega,h1'.trans h2'⟩
theorem SL.irrefl {a:List Int} : ¬ SL a a:=by
 rintro (h | ⟨-,h⟩)
 ·omega
 ·exact LL.irrefl h
theorem SL.trans {a b c:List Int} (h1:SL a b) (h2:SL b c) : SL a c:=by
 rcases h1 with h1 | ⟨h1,h1'⟩
 ·rcases h2 with h2 | ⟨h2,-⟩
  ·exact .inl (by omega)
  ·exact .inl (by omega)
 ·rcases h2 with h2 | ⟨h2,h2'⟩
  ·exact .inl (by omega)
  ·exact .inr ⟨by omega,h1'.trans h2'⟩
theorem SL.le {a b:List Int} (h:SL a b) : a.length≤b.length:=by
 rcases h with h | ⟨h,-⟩ <;> omega
theorem LL.app:∀ {a b:List Int},LL a b→∀ i j,LL (a++[i]) (b++[j])
 | [],b,h,_,_=>by cases b <;> exact h.elim
 | _ :: _,[],h,_,_=>h.elim
 | x :: a,y :: b,h,i,j=>by
  rcases h with h | ⟨h,h'⟩
  ·exact .inl h
  ·exact .inr ⟨h,h'.app i j⟩
theorem LL.last:∀ (a:List Int) {i j:Int},i < j→LL (a++[i]) (a++[j])
 | [],_,_,h=>.inl h
 | _ :: a,_,_,h=>.inr ⟨rfl,LL.last a h⟩
theorem SL.app {a b:List Int} (h:SL a b) (i j:Int) : SL (a++[i]) (b++[j]):=by
 rcases h with h | ⟨h,h'⟩
 ·exact .inl (by simp; omega)
 ·exact .inr ⟨by simp; omega,h'.app i j⟩
theorem SL.last (a:List Int) {i j:Int} (h:i < j) : SL (a++[i]) (a++[j]):=.inr ⟨by simp,LL.last a h⟩
theorem SL.nil (a:List Int) (i:Int) : SL [] (a++[i]):=.inl (by simp)
theorem inc_SL {w:List (List Int)} (h:incW w=true) : ∀ a b,a < b→b < w.length→SL (w.getD a []) (w.getD b []):=by
 have step:∀ n,n+1 < w.length→SL (w.getD n []) (w.getD (n+1) []):=fun n hn=>by
  have:=List.all_eq_true.1 h n (by simp; omega)
  exact cmpM_SL.1 (of_decide_eq_true this)
 intro a b hab
 induction b with
 | zero=>omega
 | succ b ih =>
  intro hb
  by_cases e:a=b
  ·subst e; exact step _ hb
  ·exact (ih (by omega) (by omega)).trans (step b hb)
theorem SL_inc {w:List (List Int)} (h:∀ n,n+1 < w.length→SL (w.getD n []) (w.getD (n+1) [])) : incW w=true:=by
 unfold incW
 rw [List.all_eq_true]
 intro n hn
 have:n < w.length - 1:=by simpa using hn
 exact decide_eq_true (cmpM_SL.2 (h n (by omega)))
theorem getD_set {α:Type} (l:List α) (i j:Nat) (a d:α) : (l.set i a).getD j d=if i=j∧i < l.length then a else l.getD j d:=by
 rw [List.getD_eq_getElem?_getD,List.getElem?_set,List.getD_eq_getElem?_getD]
 by_cases h:i=j
 ·subst h
  by_cases h2:i < l.length
  ·simp [h2]
  ·simp [h2]
 ·simp [h]
section
variable {P:Program} {H:Mem} {ev:Ev} {d:Option Tmp} {ty:TypeId} {p:String} {af:Array Edge} {g:Option (Nat×Bool)} {x y:Operand} {s t:TypeId} {size bytes:Nat}
theorem appendN_qroom {n k a:Nat} {x:AV} {new l:List AV} (hn:lenOf x=some (n+1)) (hs:0 < size) (hf:firstL H size (n+1) x=some new) (hl:new.length=(n+1) * size)
  (hg:H.get a=some (.cells l true size)) (hle:(k+(n+1)) * size≤l.length) (h4:allOne new=true) :
  appendN H size bytes (.slq a 0 k 0) x=some (.slq a 0 (k+(n+1)) 0,H.upd a (.cells (putR l (k * size) new) true size)):=by
 unfold appendN
 rw [hn]
 show (match Nat.beq size 0,firstL H size (n+1) x with | false,some new=>appTo H size bytes (n+1) (.slq a 0 k 0) new | _,_=>none)=_
 have hb:Nat.beq size 0=false:=by
  grind [Nat.eq_of_beq_eq_true]
 rw [hb,hf]
 dsimp only
 unfold appTo
 rw [len_eq,hl,Nat.beq_refl]
 dsimp only
 unfold appSlq
 rw [hg]
 dsimp only
 have e1:(Nat.beq size size && Nat.beq 0 (0 * size))=true:=by simp
 have e2:Nat.ble (0+(k+(n+1)) * size) (len l)=true:=by simp_all [len_eq]
 rw [e1,e2]
 dsimp only
 unfold setCells
 rw [h4]
 dsimp only
 have hle2:0+k * size+new.length≤l.length:=by grind
 rw [putCellsK_eq,if_pos hle2,Mem.setK_eq,Nat.zero_add]
 rfl
open Classical in
noncomputable def apVS (q:Option (Nat×Nat)) (sz k len a:Nat) (cs:List AV) (ga gb blk:Option Blk) (H:Mem) (els:R) : R:=match q,ga with
 | some (size,_),some (.cells r true z)=>if gb=blk∧size=sz∧z=sz∧0 < size∧(k+len) * sz≤r.length∧allOne cs=true then .val (.slq a 0 (k+len) 0) (H.upd a (.cells (putR r (k * sz) cs) true sz)) else els
 | _,_=>els
theorem apVS_congr {tk:Nat} (_h0:tick=tk) {q q' : Option (Nat×Nat)} {sz k len a:Nat} {cs:List AV} {ga ga' gb gb' blk:Option Blk} {H:Mem} {els:R} (h1:q=q') (h2:ga=ga') (h3:gb=gb') : apVS q sz k len a cs ga gb blk H els=apVS q' sz k len a cs ga' gb' blk H els:=by grind
theorem apVS_ok {r cs:List AV} {sz k len a n:Nat} {G:Nat→Option Blk} {els:R} {b:Option Blk} (h1:0 < sz) (h3:(k+len) * sz≤r.length) (h5:allOne cs=true) : apVS (some (sz,bytes)) sz k len a cs (some (.cells r true sz)) b b ⟨.fn G,n⟩ els=.val (.slq a 0 (k+len) 0) ⟨.fn (gput G a (some (.cells (putR r (k * sz) cs) true sz))),n⟩:=if_pos ⟨rfl,rfl,rfl,h1,h3,h5⟩
attribute [congr] apVS_congr
attribute [simp] apVS_ok
end
theorem SliceV.lenOf' {g:Nat→Option Blk} {b len:Nat} {sv:AV} {cs:List AV} (h:SliceV g b sv len cs) (hl:0 < len) : ∃ a2 o2 c l own z,a2 < b∧(sv=.sl a2 o2 len c∨sv=.slq a2 o2 len c)∧g a2=some (.cells l own z)∧o2+cs.length≤l.length∧(l.drop o2).take cs.length=cs:=by
 rcases h with ⟨h1,_⟩ | ⟨a2,o2,ha2,hsv,l,own,z,hg,hle,hcut⟩
 all_goals grind
theorem SliceV.aps {P:Program} {g:Nat→Option Blk} {b len sz:Nat} {sv:AV} {cs:List AV} (h:SliceV g b sv len cs) (hl:0 < len) (hcs:cs.length=len * sz) :
  ∃ a2 blk,a2 < b∧g a2=some blk∧∀ {H:Mem} {ev:Ev} {d:Option Tmp} {ty:TypeId} {p:String} {af:Array Edge} {gd:Option (Nat×Bool)} {x y:Operand} {s t:TypeId} {a k:Nat} {hx:ev x=some (.slq a 0 k 0)} {hy:ev y=some sv},
   ex2 P H ev ⟨d,.call ⟨.builtin .append,#[x,y],#[s,t]⟩,ty,p,af,gd⟩ x y (some (.slq a 0 k 0)) (some sv) hx hy=apVS (apI P s t) sz k len a cs (H.get a) (H.get a2) (some blk) H (opV P H ev ⟨d,.call ⟨.builtin .append,#[x,y],#[s,t]⟩,ty,p,af,gd⟩):=by
 obtain ⟨a2,o2,c,l,own,z,ha2,hv,hg,hle,hcut⟩:=h.lenOf' hl
 refine ⟨a2,_,ha2,hg,?_⟩
 intro H ev d ty p af gd x y s t a k hx hy
 unfold apVS
 split
 ·rename_i size bytes r zz h1 h2
  split
  ·rename_i h
   obtain ⟨hH,rfl,rfl,h4,h6,h8⟩:=h
   obtain ⟨j,rfl⟩ : ∃ j,len=j+1:=⟨len - 1,by omega⟩
   show opV P H ev _=_
   have hn:lenOf sv=some (j+1):=by rcases hv with rfl | rfl <;> rfl
   rw [append_of hx hy h1,appendN_qroom (n:=j) hn h4 (firstL_rowV hv hH hcut hle hcs) hcs h2 h6 h8]
  ·rfl
 ·rfl
end Go.Ai
end
section
namespace Go.Ai
def EdT (T:List (List (Int×Int))) (p j t:Nat) : Prop:=∃ e,(T.getD p [])[j]?=some e∧e.1=(t:Int)
theorem getD_lt {T:List (List (Int×Int))} {n i:Nat} (h:i < (T.getD n []).length) : n < T.length:=by
 by_cases hp:n < T.length
 ·exact hp
 ·rw [List.getD_eq_getElem?_getD,List.getElem?_eq_none (by omega)] at h
  simp at h
theorem EdT.lt {T:List (List (Int×Int))} {p j t:Nat} (h:EdT T p j t) : p < T.length:=by
 obtain ⟨e,h,-⟩:=h
 exact getD_lt (List.getElem?_eq_some_iff.1 h).1
theorem EdT.fun {T:List (List (Int×Int))} {p j t u:Nat} (h:EdT T p j t) (h2:EdT T p j u) : t=u:=by
 obtain ⟨e,h,h'⟩:=h
 obtain ⟨f,h2,h2'⟩:=h2
 rw [h] at h2; cases h2; omega
def Sn (st:WSt) (m:Nat) : Prop:=st.seen.getD m false=true
structure WInv (T:List (List (Int×Int))) (st:WSt) : Prop where
 lo:st.out.length=T.length
 ls:st.seen.length=T.length
 s0:Sn st 0
 o0:st.out.getD 0 []=[]
 cnt:st.many=st.seen.count true
 src:∀ m,Sn st m→m≠0→∃ p j,EdT T p j m
def WDone (T:List (List (Int×Int))) (st:WSt) (n i:Nat) : Prop :=
 ∀ j,j < i→∀ t,EdT T n j t→Sn st t∧st.out.getD t []=st.out.getD n []++[(j:Int)]
structure WExt (st st' : WSt) : Prop where
 keep:∀ m,Sn st m→Sn st' m∧st'.out.getD m []=st.out.getD m []
 le:st.many≤st'.many
 eq:st'.many=st.many→st'=st
theorem WExt.refl (st:WSt) : WExt st st:=⟨fun _ h=>⟨h,rfl⟩,Nat.le_refl _,fun _=>rfl⟩
theorem WExt.trans {a b c:WSt} (h1:WExt a b) (h2:WExt b c) : WExt a c :=
 ⟨fun m h=>⟨(h2.keep m (h1.keep m h).1).1,((h2.keep m (h1.keep m h).1).2).trans (h1.keep m h).2⟩,Nat.le_trans h1.le h2.le,fun e=>by
  have e1:=h1.le
  have e2:=h2.le
  rw [h2.eq (by omega),h1.eq (by omega)]⟩
theorem WDone.mono {T:List (List (Int×Int))} {st st' : WSt} {n i:Nat} (h:WDone T st n i) (hn:Sn st n) (hx:WExt st st') : WDone T st' n i:=fun j hj t ht=>by
 obtain ⟨h1,h2⟩:=h j hj t ht
 obtain ⟨h3,h4⟩:=hx.keep t h1
 exact ⟨h3,by rw [h4,h2,(hx.keep n hn).2]⟩
theorem count_set:∀ (l:List Bool) (i:Nat),i < l.length→l.getD i false=false→(l.set i true).count true=l.count true+1
 | [],_,h,_=>by simp at h
 | b :: l,0,_,h=>by
  have:b=false:=by simpa using h
  subst this; simp
 | b :: l,i+1,h,h2=>by
  have:=count_set l i (by simpa using h) (by simpa using h2)
  rw [List.set_cons_succ,List.count_cons,List.count_cons,this]; omega
theorem getD_memT {α:Type} {T:List α} {n:Nat} {d:α} (h:n < T.length) : T.getD n d∈T:=by
 rw [List.getD_eq_getElem?_getD,List.getElem?_eq_getElem h]
 exact List.getElem_mem h
theorem okE_at {T:List (List (Int×Int))} {O:Int} (hok:∀ r∈T,∀ e∈r,okE T.length O e=true) {n i:Nat} {e:Int×Int} (h:(T.getD n [])[i]?=some e) :
  (1≤e.1∧e.1 < T.length)∨e.1 = -1:=by
 obtain ⟨hi,h⟩:=List.getElem?_eq_some_iff.1 h
 have:=hok _ (getD_memT (d:=[]) (getD_lt hi)) e (h ▸ List.getElem_mem hi)
 unfold okE at this
 rcases Bool.or_eq_true_iff.1 this with h2 | h2
 ·have h3:=of_decide_eq_true h2
  exact .inl ⟨h3.1,h3.2.1⟩
 ·exact .inr (of_decide_eq_true h2).1
theorem wI_inv {T:List (List (Int×Int))} {O:Int} (hok:∀ r∈T,∀ e∈r,okE T.length O e=true) (r n:Nat) :
  ∀ (es:List (Int×Int)) (i:Nat) (st st' : WSt),es=(T.getD n []).drop i→WInv T st→WDone T st n i→wI r n es i st=some st' →
  WInv T st'∧WExt st st'∧(Sn st n→(st.out.getD n []).length=r→WDone T st' n (T.getD n []).length)∧(∀ m,Sn st' m→Sn st m∨(st'.out.getD m []).length=r+1)
 | [],i,st,st',he,hinv,hd,h=>by
  unfold wI at h
  cases h
  refine ⟨hinv,.refl _,fun _ _=>?_,fun m hm=>.inl hm⟩
  have:(T.getD n []).length≤i:=List.drop_eq_nil_iff.1 he.symm
  intro j hj
  exact hd j (by omega)
 | e :: es,i,st,st',he,hinv,hd,h=>by
  unfold wI at h
  have hi:i < (T.getD n []).length:=by
   by_cases hh:i < (T.getD n []).length
   ·exact hh
   ·rw [List.drop_eq_nil_iff.2 (by omega)] at he; cases he
  have hcons:=List.drop_eq_getElem_cons hi
  rw [hcons] at he
  injection he with he1 he2
  have hei:(T.getD n [])[i]?=some e:=by rw [he1]; exact List.getElem?_eq_getElem hi
  have hnT:n < T.length:=getD_lt hi
  by_cases hc:st.seen.getD n false=true∧(st.out.getD n []).length=r
  ·rw [if_pos hc] at h
   by_cases h1:e.1 = -1
   ·rw [if_pos h1] at h
    refine wI_inv hok r n es (i+1) st st' he2 hinv (fun j hj t ht=>?_) h
    by_cases hji:j=i
    ·subst hji
     obtain ⟨f,hf,hf2⟩:=ht
     rw [hei] at hf; cases hf; omega
    ·exact hd j (by omega) t ht
   ·rw [if_neg h1] at h
    have hb:=(okE_at hok hei).resolve_right h1
    obtain ⟨t,ht⟩ : ∃ t:Nat,e.1=(t:Int):=⟨e.1.toNat,by omega⟩
    have htn:e.1.toNat=t:=by omega
    have hEd:EdT T n i t:=⟨e,hei,ht⟩
    rw [htn] at h
    by_cases hs:st.seen.getD t false=true
    ·rw [if_pos hs] at h; cases h
    rw [if_neg hs] at h
    have hs' : st.seen.getD t false=false:=by simpa using hs
    have ht0:t≠0:=by omega
    have htT:t < T.length:=by omega
    have hso:∀ m,(st.seen.set t true).getD m false=if t=m then true else st.seen.getD m false:=fun m=>by
     rw [getD_set]
     by_cases hm:t=m
     ·rw [if_pos ⟨hm,by rw [hinv.ls]; exact htT⟩,if_pos hm]
     ·rw [if_neg (fun h=>hm h.1),if_neg hm]
    have hoo:∀ m,(st.out.set t (st.out.getD n []++[(i:Int)])).getD m []=if t=m then st.out.getD n []++[(i:Int)] else st.out.getD m []:=fun m=>by
     rw [getD_set]
     by_cases hm:t=m
     ·rw [if_pos ⟨hm,by rw [hinv.lo]; exact htT⟩,if_pos hm]
     ·rw [if_neg (fun h=>hm h.1),if_neg hm]
    have hinv1:WInv T ⟨st.out.set t (st.out.getD n []++[(i:Int)]),st.seen.set t true,st.many+1⟩:=by
     refine ⟨by rw [List.length_set,hinv.lo],by rw [List.length_set,hinv.ls],?_,?_,?_,?_⟩
     ·show (st.seen.set t true).getD 0 false=true
      rw [hso,if_neg ht0]; exact hinv.s0
     ·show (st.out.set t _).getD 0 []=[]
      rw [hoo,if_neg ht0]; exact hinv.o0
     ·show st.many+1=(st.seen.set t true).count true
      rw [count_set _ _ (by rw [hinv.ls]; exact htT) hs',hinv.cnt]
     ·intro m hm hm0
      by_cases e1:t=m
      ·subst e1; exact ⟨n,i,hEd⟩
      ·refine hinv.src m ?_ hm0
       have h2:(st.seen.set t true).getD m false=true:=hm
       rw [hso,if_neg e1] at h2; exact h2
    have hx1:WExt st ⟨st.out.set t (st.out.getD n []++[(i:Int)]),st.seen.set t true,st.many+1⟩:=by
     refine ⟨fun m hm=>?_,Nat.le_succ _,fun h=>by have h2:st.many+1=st.many:=h; omega⟩
     have hne:t≠m:=fun e=>by subst e; exact hs hm
     refine ⟨?_,?_⟩
     ·show (st.seen.set t true).getD m false=true
      rw [hso,if_neg hne]; exact hm
     ·show (st.out.set t _).getD m []=_
      rw [hoo,if_neg hne]
    have hnt:t≠n:=fun e=>by subst e; exact hs hc.1
    have hd1:WDone T ⟨st.out.set t (st.out.getD n []++[(i:Int)]),st.seen.set t true,st.many+1⟩ n (i+1):=by
     intro j hj u hu
     by_cases hji:j=i
     ·subst hji
      have:u=t:=hu.fun hEd
      subst this
      refine ⟨?_,?_⟩
      ·show (st.seen.set u true).getD u false=true
       rw [hso,if_pos rfl]
      ·show (st.out.set u _).getD u []=(st.out.set u _).getD n []++_
       rw [hoo,if_pos rfl,hoo,if_neg hnt]
     ·exact hd.mono hc.1 hx1 j (by omega) u hu
    obtain ⟨a1,a2,a3,a4⟩:=wI_inv hok r n es (i+1) _ st' he2 hinv1 hd1 h
    have hsn1:Sn ⟨st.out.set t (st.out.getD n []++[(i:Int)]),st.seen.set t true,st.many+1⟩ n:=(hx1.keep n hc.1).1
    refine ⟨a1,hx1.trans a2,fun _ _=>a3 hsn1 ?_,fun m hm=>?_⟩
    ·rw [(hx1.keep n hc.1).2]; exact hc.2
    ·rcases a4 m hm with h2 | h2
     ·by_cases e1:t=m
      ·subst e1
       right
       rw [(a2.keep t h2).2]
       show ((st.out.set t _).getD t []).length=_
       rw [hoo,if_pos rfl,List.length_append,hc.2]; rfl
      ·left
       have h3:(st.seen.set t true).getD m false=true:=h2
       rw [hso,if_neg e1] at h3; exact h3
     ·exact .inr h2
  ·rw [if_neg hc] at h
   cases h
   exact ⟨hinv,.refl _,fun h1 h2=>absurd ⟨h1,h2⟩ hc,fun m hm=>.inl hm⟩
structure WQ (T:List (List (Int×Int))) (r:Nat) (st:WSt) (n:Nat) : Prop where
 le:∀ m,Sn st m→(st.out.getD m []).length≤r+1
 old:∀ m,Sn st m→(st.out.getD m []).length < r→WDone T st m (T.getD m []).length
 now:∀ m,Sn st m→(st.out.getD m []).length=r→m < n→WDone T st m (T.getD m []).length
theorem wN_inv {T:List (List (Int×Int))} {O:Int} (hok:∀ r∈T,∀ e∈r,okE T.length O e=true) (r:Nat) :
  ∀ (rows:List (List (Int×Int))) (n:Nat) (st st' : WSt),rows=T.drop n→WInv T st→WQ T r st n→wN r rows n st=some st' →
  WInv T st'∧WExt st st'∧WQ T r st' T.length
 | [],n,st,st',he,hinv,hq,h=>by
  unfold wN at h
  cases h
  have:T.length≤n:=List.drop_eq_nil_iff.1 he.symm
  exact ⟨hinv,.refl _,hq.le,hq.old,fun m hm hl hlt=>hq.now m hm hl (by omega)⟩
 | row :: rows,n,st,st',he,hinv,hq,h=>by
  unfold wN at h
  have hi:n < T.length:=by
   by_cases hh:n < T.length
   ·exact hh
   ·rw [List.drop_eq_nil_iff.2 (by omega)] at he; cases he
  rw [List.drop_eq_getElem_cons hi] at he
  injection he with he1 he2
  have hrow:T.getD n []=row:=by rw [he1,List.getD_eq_getElem?_getD,List.getElem?_eq_getElem hi]; rfl
  cases hs:wI r n row 0 st with
  | none=>rw [hs] at h; cases h
  | some s =>
   rw [hs] at h
   obtain ⟨a1,a2,a3,a4⟩:=wI_inv hok r n row 0 st s (by rw [hrow]; rfl) hinv (fun j hj=>by omega) hs
   have hq1:WQ T r s (n+1):=by
    refine ⟨fun m hm=>?_,fun m hm hl=>?_,fun m hm hl hlt=>?_⟩
    ·rcases a4 m hm with h2 | h2
     ·rw [(a2.keep m h2).2]; exact hq.le m h2
     ·omega
    ·rcases a4 m hm with h2 | h2
     ·exact (hq.old m h2 (by rw [(a2.keep m h2).2] at hl; exact hl)).mono h2 a2
     ·omega
    ·rcases a4 m hm with h2 | h2
     ·have hl2:(st.out.getD m []).length=r:=by rw [(a2.keep m h2).2] at hl; exact hl
      by_cases e:m=n
      ·subst e; exact a3 h2 hl2
      ·exact (hq.now m h2 hl2 (by omega)).mono h2 a2
     ·omega
   obtain ⟨b1,b2,b3⟩:=wN_inv hok r rows (n+1) s st' he2 a1 hq1 h
   exact ⟨b1,a2.trans b2,b3⟩
theorem count_le (st:WSt) {T:List (List (Int×Int))} (h:WInv T st) : st.many≤T.length:=by
 rw [h.cnt,← h.ls]; exact List.count_le_length
theorem wR_inv {T:List (List (Int×Int))} {O:Int} (hok:∀ r∈T,∀ e∈r,okE T.length O e=true) :
  ∀ (k r:Nat) (st st' : WSt),k+r=T.length→WInv T st→(∀ m,Sn st m→(st.out.getD m []).length≤r) →
  (∀ m,Sn st m→(st.out.getD m []).length < r→WDone T st m (T.getD m []).length)→r+1≤st.many→wR T k r st=some st' →
  WInv T st'∧∀ m,Sn st' m→WDone T st' m (T.getD m []).length
 | 0,r,st,st',hk,hinv,_,_,hm,_=>by
  have:=count_le st hinv; omega
 | k+1,r,st,st',hk,hinv,hle,hold,hm,h=>by
  unfold wR at h
  cases hs:wN r T 0 st with
  | none=>rw [hs] at h; cases h
  | some s =>
   rw [hs] at h
   obtain ⟨a1,a2,a3⟩:=wN_inv hok r T 0 st s rfl hinv ⟨fun m hm=>by have:=hle m hm; omega,hold,fun m _ _ hlt=>by omega⟩ hs
   have hlt:∀ m,Sn s m→m < T.length:=fun m hm=>by
    by_cases hh:m < T.length
    ·exact hh
    ·have h2:s.seen.getD m false=true:=hm
     rw [List.getD_eq_getElem?_getD,List.getElem?_eq_none (by rw [a1.ls]; omega)] at h2
     cases h2
   by_cases he:s.many=st.many
   ·have h3:(if s.many=st.many then some s else wR T k (r+1) s)=some st':=h
    rw [if_pos he] at h3
    injection h3 with h3
    have e:=a2.eq he
    rw [← h3,e]
    rw [e] at a3 hlt
    refine ⟨hinv,fun m hm=>?_⟩
    have h4:=hle m hm
    by_cases h5:(st.out.getD m []).length=r
    ·exact a3.now m hm h5 (hlt m hm)
    ·exact hold m hm (by omega)
   ·have h3:(if s.many=st.many then some s else wR T k (r+1) s)=some st':=h
    rw [if_neg he] at h3
    have:=a2.le
    refine wR_inv hok k (r+1) s st' (by omega) a1 a3.le (fun m hm hl=>?_) (by omega) h3
    by_cases h5:(s.out.getD m []).length=r
    ·exact a3.now m hm h5 (hlt m hm)
    ·exact a3.old m hm (by omega)
theorem all_of_count:∀ {l:List Bool},l.count true=l.length→∀ m,m < l.length→l.getD m false=true
 | [],_,m,h=>by simp at h
 | b :: l,hc,m,h=>by
  have h1:l.count true≤l.length:=List.count_le_length
  rw [List.count_cons] at hc
  cases b with
  | false=>simp at hc; omega
  | true =>
   cases m with
   | zero=>rfl
   | succ m =>
    have:=all_of_count (l:=l) (by simpa using hc) m (by simpa using h)
    simpa using this
theorem rWords_lab {T:List (List (Int×Int))} {O:Int} (hok:∀ r∈T,∀ e∈r,okE T.length O e=true) (h1:1≤T.length) (hl:(rWords T).length=T.length) :
  (∀ p j t,EdT T p j t→t < T.length∧1≤t∧(rWords T).getD t []=(rWords T).getD p []++[(j:Int)])∧(∀ t,1≤t→t < T.length→∃ p j,EdT T p j t):=by
 cases hs:wR T T.length 0 (wSt0 T.length) with
 | none =>
  have hr:rWords T=[]:=by unfold rWords; rw [hs]
  rw [hr] at hl; simp at hl; omega
 | some s =>
  have hr0:rWords T=if s.many < T.length then [] else s.out:=by unfold rWords; rw [hs]
  by_cases hm:s.many < T.length
  ·rw [hr0,if_pos hm] at hl; simp at hl; omega
  have hr:rWords T=s.out:=by rw [hr0,if_neg hm]
  rw [hr]
  have hs0:∀ m,Sn (wSt0 T.length) m→m=0:=fun m hm=>by
   have h2:((List.replicate T.length false).set 0 true).getD m false=true:=hm
   rw [getD_set] at h2
   by_cases e:0=m
   ·exact e.symm
   ·rw [if_neg (fun h=>e h.1)] at h2
    rw [List.getD_eq_getElem?_getD,List.getElem?_replicate] at h2
    split at h2 <;> simp at h2
  have ho0:∀ m,(wSt0 T.length).out.getD m []=[]:=fun m=>by
   show (List.replicate T.length ([] : List Int)).getD m []=[]
   rw [List.getD_eq_getElem?_getD,List.getElem?_replicate]
   split <;> rfl
  have hinv0:WInv T (wSt0 T.length):=by
   refine ⟨by simp [wSt0],by simp [wSt0],?_,ho0 0,?_,fun m hm h=>absurd (hs0 m hm) h⟩
   ·show ((List.replicate T.length false).set 0 true).getD 0 false=true
    rw [getD_set,if_pos ⟨rfl,by simp; omega⟩]
   ·show 1=((List.replicate T.length false).set 0 true).count true
    rw [count_set _ _ (by simp; omega) (by rw [List.getD_eq_getElem?_getD,List.getElem?_replicate]; split <;> rfl)]
    simp [List.count_replicate]
  obtain ⟨a1,a2⟩:=wR_inv hok T.length 0 _ s rfl hinv0 (fun m hm=>by rw [ho0]; simp) (fun m hm h=>by omega) (by show 0+1≤1; omega) hs
  have hall:∀ m,m < T.length→Sn s m:=fun m hm2=>by
   have h4:=count_le s a1
   exact all_of_count (by rw [← a1.cnt,a1.ls]; omega) m (by rw [a1.ls]; exact hm2)
  refine ⟨fun p j t hE=>?_,fun t ht1 ht=>a1.src t (hall t ht) (by omega)⟩
  obtain ⟨e,he,het⟩:=hE
  have hb:=okE_at hok he
  have hj:j < (T.getD p []).length:=(List.getElem?_eq_some_iff.1 he).1
  exact ⟨by omega,by omega,(a2 p (hall p (getD_lt hj)) j hj t ⟨e,he,het⟩).2⟩
structure BH (T:List (List (Int×Int))) (next n i:Nat) : Prop where
 lo:1≤next
 hi:next≤T.length
 a:∀ t,1≤t→t < next→∃ p j,(p < n∨p=n∧j < i)∧EdT T p j t
 b:∀ p j t,(p < n∨p=n∧j < i)→EdT T p j t→t < next
theorem okE_full {T:List (List (Int×Int))} {O:Int} (hok:∀ r∈T,∀ e∈r,okE T.length O e=true) {n i:Nat} {e:Int×Int} (h:(T.getD n [])[i]?=some e) :
  (1≤e.1∧e.1 < T.length∧0≤e.2∧e.2 < O)∨(e.1 = -1∧(e.2 = -1∨e.2 = -2)):=by
 obtain ⟨hi,h⟩:=List.getElem?_eq_some_iff.1 h
 have:=hok _ (getD_memT (d:=[]) (getD_lt hi)) e (h ▸ List.getElem_mem hi)
 unfold okE at this
 rcases Bool.or_eq_true_iff.1 this with h2 | h2
 ·exact .inl (of_decide_eq_true h2)
 ·exact .inr (of_decide_eq_true h2)
theorem lab_goE {T:List (List (Int×Int))} {O:Int} (hok:∀ r∈T,∀ e∈r,okE T.length O e=true) (W:List (List Int))
  (hL:∀ p j t,EdT T p j t→t < T.length∧1≤t∧W.getD t []=W.getD p []++[(j:Int)]) (hC:∀ t,1≤t→t < T.length→∃ p j,EdT T p j t)
  (hI:∀ a b,a < b→b < T.length→SL (W.getD a []) (W.getD b [])) (n:Nat) :
  ∀ (es:List (Int×Int)) (i next:Nat),es=(T.getD n []).drop i→BH T next n i→∃ nx,goE O es next=some nx∧BH T nx n (T.getD n []).length
 | [],i,next,he,hb=>by
  have hle:(T.getD n []).length≤i:=List.drop_eq_nil_iff.1 he.symm
  refine ⟨next,rfl,hb.lo,hb.hi,fun t h1 h2=>?_,fun p j t h hE=>hb.b p j t (by omega) hE⟩
  obtain ⟨p,j,h,hE⟩:=hb.a t h1 h2
  refine ⟨p,j,?_,hE⟩
  rcases h with h | ⟨h,-⟩
  ·exact .inl h
  ·subst h
   obtain ⟨e,he,-⟩:=hE
   exact .inr ⟨rfl,(List.getElem?_eq_some_iff.1 he).1⟩
 | e :: es,i,next,he,hb=>by
  have hi:i < (T.getD n []).length:=by
   by_cases hh:i < (T.getD n []).length
   ·exact hh
   ·rw [List.drop_eq_nil_iff.2 (by omega)] at he; cases he
  have hcons:=List.drop_eq_getElem_cons hi
  rw [hcons] at he
  injection he with he1 he2
  have hei:(T.getD n [])[i]?=some e:=by rw [he1]; exact List.getElem?_eq_getElem hi
  have hnT:n < T.length:=getD_lt hi
  unfold goE
  rcases okE_full hok hei with ⟨o1,o2,o3,o4⟩ | ⟨o1,o2⟩
  ·obtain ⟨t,ht⟩ : ∃ t:Nat,e.1=(t:Int):=⟨e.1.toNat,by omega⟩
   have hE:EdT T n i t:=⟨e,hei,ht⟩
   obtain ⟨hl1,hl2,hl3⟩:=hL n i t hE
   have hge:next≤t:=by
    by_cases h:next≤t
    ·exact h
    ·obtain ⟨p,j,hbef,hE2⟩:=hb.a t hl2 (by omega)
     have h3:=(hL p j t hE2).2.2
     rw [hl3] at h3
     obtain ⟨h4,h5⟩:=List.append_inj' h3 rfl
     have h6:(i:Int)=(j:Int):=by simpa using h5
     rcases hbef with hbef | ⟨hbef,hj⟩
     ·exact absurd (h4 ▸ hI p n hbef hnT) SL.irrefl
     ·omega
   have hle:t≤next:=by
    by_cases h:t≤next
    ·exact h
    ·obtain ⟨p,j,hE2⟩:=hC next hb.lo (by omega)
     have h3:=(hL p j next hE2).2.2
     have h4:=hI next t (by omega) hl1
     rw [hl3,h3] at h4
     by_cases h5:p < n∨p=n∧j < i
     ·have:=hb.b p j next h5 hE2; omega
     ·by_cases h6:p=n
      ·subst h6
       by_cases h7:j=i
       ·subst h7
        have:=hE.fun hE2; omega
       ·have h8:=SL.last (W.getD p []) (i:=(i:Int)) (j:=(j:Int)) (by omega)
        exact absurd (h4.trans h8) SL.irrefl
      ·have h8:=SL.app (hI n p (by omega) hE2.lt) (i:Int) (j:Int)
       exact absurd (h4.trans h8) SL.irrefl
   have htn:t=next:=by omega
   subst htn
   have hed:edOK O t e=some (t+1):=by
    unfold edOK
    rw [if_neg (by omega),if_pos ⟨ht,o3,o4⟩]
   rw [hed]
   refine lab_goE hok W hL hC hI n es (i+1) (t+1) he2 ⟨by omega,by omega,fun u h1 h2=>?_,fun p j u h hE2=>?_⟩
   ·by_cases hu:u=t
    ·subst hu; exact ⟨n,i,.inr ⟨rfl,by omega⟩,hE⟩
    ·obtain ⟨p,j,h,hE2⟩:=hb.a u h1 (by omega)
     exact ⟨p,j,by omega,hE2⟩
   ·by_cases hpi:p=n∧j=i
    ·obtain ⟨rfl,rfl⟩:=hpi
     have:=hE.fun hE2; omega
    ·have:=hb.b p j u (by omega) hE2; omega
  ·have hed:edOK O next e=some next:=by
    unfold edOK
    rw [if_pos ⟨o1,o2⟩]
   rw [hed]
   refine lab_goE hok W hL hC hI n es (i+1) next he2 ⟨hb.lo,hb.hi,fun u h1 h2=>?_,fun p j u h hE2=>?_⟩
   ·obtain ⟨p,j,h,hE2⟩:=hb.a u h1 h2
    exact ⟨p,j,by omega,hE2⟩
   ·by_cases hpi:p=n∧j=i
    ·obtain ⟨rfl,rfl⟩:=hpi
     obtain ⟨f,hf,hf2⟩:=hE2
     rw [hei] at hf; cases hf; omega
    ·exact hb.b p j u (by omega) hE2
theorem lab_goT {T:List (List (Int×Int))} {I O:Int} (hlen:∀ r∈T,(r.length:Int)=I) (hok:∀ r∈T,∀ e∈r,okE T.length O e=true) (W:List (List Int))
  (hL:∀ p j t,EdT T p j t→t < T.length∧1≤t∧W.getD t []=W.getD p []++[(j:Int)]) (hC:∀ t,1≤t→t < T.length→∃ p j,EdT T p j t)
  (hI:∀ a b,a < b→b < T.length→SL (W.getD a []) (W.getD b [])) :
  ∀ (rows:List (List (Int×Int))) (n next:Nat),rows=T.drop n→n≤T.length→BH T next n 0→goT I O rows n next=some T.length
 | [],n,next,he,hn,hb=>by
  have hle:T.length≤n:=List.drop_eq_nil_iff.1 he.symm
  unfold goT
  by_cases h:next=T.length
  ·rw [h]
  ·obtain ⟨p,j,hE⟩:=hC next hb.lo (by have:=hb.hi; omega)
   have:=hb.b p j next (.inl (by have:=hE.lt; omega)) hE
   omega
 | row :: rows,n,next,he,hn,hb=>by
  have hi:n < T.length:=by
   by_cases hh:n < T.length
   ·exact hh
   ·rw [List.drop_eq_nil_iff.2 (by omega)] at he; cases he
  rw [List.drop_eq_getElem_cons hi] at he
  injection he with he1 he2
  have hrow:T.getD n []=row:=by rw [he1,List.getD_eq_getElem?_getD,List.getElem?_eq_getElem hi]; rfl
  have hlt:n < next:=by
   by_cases h0:n=0
   ·have:=hb.lo; omega
   ·obtain ⟨p,j,hE⟩:=hC n (by omega) hi
    have h3:=(hL p j n hE).2.2
    have hpn:p < n:=by
     by_cases h:p < n
     ·exact h
     ·have hl:(W.getD n []).length≤(W.getD p []).length:=by
       by_cases e:n=p
       ·rw [e]; exact Nat.le_refl _
       ·exact (hI n p (by omega) hE.lt).le
      rw [h3,List.length_append,show [(j:Int)].length=1 from rfl] at hl
      omega
    exact hb.b p j n (.inl hpn) hE
  obtain ⟨nx,h1,h2⟩:=lab_goE hok W hL hC hI n row 0 next (by rw [hrow]; rfl) hb
  unfold goT
  rw [if_pos ⟨hlen _ (he1 ▸ List.getElem_mem hi),hlt⟩,h1]
  show goT I O rows (n+1) nx=_
  refine lab_goT hlen hok W hL hC hI rows (n+1) nx he2 (by omega) ⟨h2.lo,h2.hi,fun t a1 a2=>?_,fun p j t h hE=>?_⟩
  ·obtain ⟨p,j,h,hE⟩:=h2.a t a1 a2
   exact ⟨p,j,by omega,hE⟩
  ·refine h2.b p j t ?_ hE
   by_cases hp:p=n
   ·subst hp
    obtain ⟨e,he,-⟩:=hE
    exact .inr ⟨rfl,(List.getElem?_eq_some_iff.1 he).1⟩
   ·omega
def padW (len:Nat) (ws:List (List Int)) : List (List Int):=ws++List.replicate (len - ws.length) []
def padS (len k:Nat) : List Bool:=List.replicate k true++List.replicate (len - k) false
def stW (len:Nat) (ws:List (List Int)) : WSt:=⟨padW len ws,padS len ws.length,ws.length⟩
theorem padW_getD (len:Nat) (ws:List (List Int)) (m:Nat) : (padW len ws).getD m []=ws.getD m []:=by
 unfold padW
 rw [List.getD_eq_getElem?_getD,List.getD_eq_getElem?_getD,List.getElem?_append]
 split
 ·rfl
 ·rename_i h
  rw [List.getElem?_eq_none (l:=ws) (by omega),List.getElem?_replicate]
  split <;> rfl
theorem padS_getD (len k m:Nat) : (padS len k).getD m false=decide (m < k):=by
 unfold padS
 rw [List.getD_eq_getElem?_getD,List.getElem?_append,List.length_replicate]
 by_cases h:m < k
 ·rw [if_pos h,List.getElem?_replicate,if_pos h,decide_eq_true h]; rfl
 ·rw [if_neg h,List.getElem?_replicate,decide_eq_false h]
  split <;> rfl
theorem padW_set (len:Nat) (ws:List (List Int)) (w:List Int) (h:ws.length < len) : (padW len ws).set ws.length w=padW len (ws++[w]):=by
 unfold padW
 rw [List.set_append_right _ _ (Nat.le_refl _),Nat.sub_self,show len - ws.length=(len - (ws++[w]).length)+1 by simp; omega,List.replicate_succ,List.set_cons_zero]
 simp
theorem padS_set (len k:Nat) (h:k < len) : (padS len k).set k true=padS len (k+1):=by
 unfold padS
 rw [List.set_append_right _ _ (by simp),List.length_replicate,Nat.sub_self,show len - k=(len - (k+1))+1 by omega,List.replicate_succ,List.set_cons_zero,List.replicate_succ']
 simp
theorem goE_le {O:Int} : ∀ {es:List (Int×Int)} {next nx:Nat},goE O es next=some nx→next≤nx
 | [],_,_,h=>by unfold goE at h; cases h; exact Nat.le_refl _
 | e :: es,next,nx,h=>by
  unfold goE at h
  cases he:edOK O next e with
  | none=>rw [he] at h; cases h
  | some k =>
   rw [he] at h
   have h1:=goE_le (es:=es) h
   have h2:next≤k:=by
    unfold edOK at he
    split at he
    ·cases he; exact Nat.le_refl _
    ·split at he
     ·cases he; exact Nat.le_succ _
     ·cases he
   omega
theorem goT_le {I O:Int} : ∀ {rows:List (List (Int×Int))} {n next k:Nat},goT I O rows n next=some k→next≤k
 | [],_,_,_,h=>by unfold goT at h; cases h; exact Nat.le_refl _
 | r :: rows,n,next,k,h=>by
  unfold goT at h
  split at h
  ·cases he:goE O r next with
   | none=>rw [he] at h; cases h
   | some j =>
    rw [he] at h
    have h1:=goT_le (rows:=rows) h
    have h2:=goE_le he
    omega
  ·cases h
theorem goE_ok {O:Int} {len:Nat} : ∀ {es:List (Int×Int)} {next nx:Nat},goE O es next=some nx→1≤next→nx≤len→∀ e∈es,okE len O e=true
 | [],_,_,_,_,_=>fun e he=>by cases he
 | e :: es,next,nx,h,h1,h2=>by
  unfold goE at h
  cases he:edOK O next e with
  | none=>rw [he] at h; cases h
  | some k =>
   rw [he] at h
   have h3:=goE_le (es:=es) h
   unfold edOK at he
   intro f hf
   split at he
   ·rename_i hc
    cases he
    rcases List.mem_cons.1 hf with rfl | hf
    ·unfold okE; rw [decide_eq_true hc,Bool.or_true]
    ·exact goE_ok (es:=es) h h1 h2 f hf
   ·split at he
    ·rename_i hc
     cases he
     rcases List.mem_cons.1 hf with rfl | hf
     ·unfold okE
      rw [decide_eq_true (by omega:1≤f.1∧f.1 < (len:Int)∧0≤f.2∧f.2 < O),Bool.true_or]
     ·exact goE_ok (es:=es) h (by omega) h2 f hf
    ·cases he
theorem goT_ok {I O:Int} {len:Nat} : ∀ {rows:List (List (Int×Int))} {n next k:Nat},goT I O rows n next=some k→1≤next→k≤len→∀ r∈rows,(r.length:Int)=I∧∀ e∈r,okE len O e=true
 | [],_,_,_,_,_,_=>fun r hr=>by cases hr
 | row :: rows,n,next,k,h,h1,h2=>by
  unfold goT at h
  split at h
  ·rename_i hc
   cases he:goE O row next with
   | none=>rw [he] at h; cases h
   | some j =>
    rw [he] at h
    have h3:=goT_le (rows:=rows) h
    have h4:=goE_le he
    intro r hr
    rcases List.mem_cons.1 hr with rfl | hr
    ·exact ⟨hc.1,goE_ok he h1 (by omega)⟩
    ·exact goT_ok (rows:=rows) h (by omega) h2 r hr
  ·cases h
def Srt (ws:List (List Int)) : Prop:=∀ a b,a < b→b < ws.length→SL (ws.getD a []) (ws.getD b [])
def Fro (ws:List (List Int)) (n i:Nat) : Prop:=∀ m,m < ws.length→SL (ws.getD m []) (ws.getD n []++[(i:Int)])
theorem getD_app1 {α:Type} (l k:List α) (d:α) {m:Nat} (h:m < l.length) : (l++k).getD m d=l.getD m d:=by
 rw [List.getD_eq_getElem?_getD,List.getElem?_append_left h,List.getD_eq_getElem?_getD]
theorem getD_last {α:Type} (l:List α) (x d:α) : (l++[x]).getD l.length d=x:=by
 rw [List.getD_eq_getElem?_getD,List.getElem?_append_right (Nat.le_refl _)]; simp
theorem sim_row {O:Int} {len:Nat} (r n:Nat) : ∀ (es:List (Int×Int)) (i:Nat) (ws:List (List Int)) (nx:Nat),goE O es ws.length=some nx→nx≤len→1≤ws.length→n < ws.length→(ws.getD n []).length=r→Srt ws→Fro ws n i →
  ∃ ext,wI r n es i (stW len ws)=some (stW len (ws++ext))∧(ws++ext).length=nx∧(∀ w∈ext,w.length=r+1)∧Srt (ws++ext)∧Fro (ws++ext) n (i+es.length)
 | [],i,ws,nx,h,_,_,_,_,hs,hf=>by
  unfold goE at h
  cases h
  exact ⟨[],by rw [List.append_nil]; rfl,by simp,fun w hw=>(by cases hw),by rw [List.append_nil]; exact hs,by rw [List.append_nil]; exact hf⟩
 | e :: es,i,ws,nx,h,hnx,hw1,hn,hr,hs,hf=>by
  unfold goE at h
  have hf' : Fro ws n (i+1):=fun m hm=>(hf m hm).trans (SL.last _ (by omega))
  cases he:edOK O ws.length e with
  | none=>rw [he] at h; cases h
  | some k =>
   rw [he] at h
   have h3:=goE_le (es:=es) h
   have hcond:(stW len ws).seen.getD n false=true∧((stW len ws).out.getD n []).length=r:=⟨by show (padS len ws.length).getD n false=true; rw [padS_getD]; exact decide_eq_true hn,by show ((padW len ws).getD n []).length=r; rw [padW_getD]; exact hr⟩
   unfold edOK at he
   unfold wI
   rw [if_pos hcond]
   split at he
   ·rename_i hc
    cases he
    rw [if_pos hc.1]
    obtain ⟨ext,a1,a2,a3,a4,a5⟩:=sim_row r n es (i+1) ws nx h hnx hw1 hn hr hs hf'
    exact ⟨ext,a1,a2,a3,a4,by rw [show i+(e :: es).length=i+1+es.length by simp; omega]; exact a5⟩
   ·split at he
    ·rename_i hc
     cases he
     have hto:e.1.toNat=ws.length:=by omega
     have hlt:ws.length < len:=by omega
     have hst:(⟨(stW len ws).out.set e.1.toNat ((stW len ws).out.getD n []++[(i:Int)]),(stW len ws).seen.set e.1.toNat true,(stW len ws).many+1⟩ : WSt)=stW len (ws++[ws.getD n []++[(i:Int)]]):=by
      show (⟨(padW len ws).set e.1.toNat ((padW len ws).getD n []++[(i:Int)]),(padS len ws.length).set e.1.toNat true,ws.length+1⟩ : WSt)=⟨padW len (ws++[ws.getD n []++[(i:Int)]]),padS len (ws++[ws.getD n []++[(i:Int)]]).length,(ws++[ws.getD n []++[(i:Int)]]).length⟩
      rw [hto,padW_getD,padW_set _ _ _ hlt,padS_set _ _ hlt]
      simp
     rw [if_neg (by omega),if_neg (by rw [hto]; show ¬(padS len ws.length).getD ws.length false=true; rw [padS_getD]; simp),hst]
     have hlen1:(ws++[ws.getD n []++[(i:Int)]]).length=ws.length+1:=by simp
     have hgn:(ws++[ws.getD n []++[(i:Int)]]).getD n []=ws.getD n []:=getD_app1 _ _ _ hn
     have hs1:Srt (ws++[ws.getD n []++[(i:Int)]]):=fun a b hab hb=>by
      rw [hlen1] at hb
      by_cases hbl:b < ws.length
      ·rw [getD_app1 _ _ _ hbl,getD_app1 _ _ _ (by omega)]; exact hs a b hab hbl
      ·have:b=ws.length:=by omega
       subst this
       rw [getD_last,getD_app1 _ _ _ hab]
       exact hf a hab
     have hf1:Fro (ws++[ws.getD n []++[(i:Int)]]) n (i+1):=fun m hm=>by
      rw [hlen1] at hm
      rw [hgn]
      by_cases hbl:m < ws.length
      ·rw [getD_app1 _ _ _ hbl]; exact hf' m hbl
      ·have:m=ws.length:=by omega
       subst this
       rw [getD_last]
       exact SL.last _ (by omega)
     obtain ⟨ext,a1,a2,a3,a4,a5⟩:=sim_row r n es (i+1) (ws++[ws.getD n []++[(i:Int)]]) nx (by rw [hlen1]; exact h) hnx (by omega) (by omega) (by rw [hgn]; exact hr) hs1 hf1
     rw [List.append_assoc] at a1 a2 a4 a5
     refine ⟨[ws.getD n []++[(i:Int)]]++ext,a1,a2,fun w hw=>?_,a4,by rw [show i+(e :: es).length=i+1+es.length by simp; omega]; exact a5⟩
     rcases List.mem_append.1 hw with hw | hw
     ·rw [List.mem_singleton.1 hw,List.length_append,hr]; rfl
     ·exact a3 w hw
    ·cases he
theorem wN_app (r:Nat) : ∀ (l1 l2:List (List (Int×Int))) (n:Nat) (st:WSt),wN r (l1++l2) n st=match wN r l1 n st with
  | none=>none
  | some s=>wN r l2 (n+l1.length) s
 | [],l2,n,st=>rfl
 | row :: l1,l2,n,st=>by
  show (match wI r n row 0 st with | none=>none | some s=>wN r (l1++l2) (n+1) s)=match (match wI r n row 0 st with | none=>none | some s=>wN r l1 (n+1) s) with | none=>none | some s=>wN r l2 (n+(row :: l1).length) s
  cases wI r n row 0 st with
  | none=>rfl
  | some s =>
   show wN r (l1++l2) (n+1) s=match wN r l1 (n+1) s with | none=>none | some s=>wN r l2 (n+(row :: l1).length) s
   rw [wN_app r l1 l2 (n+1) s,show n+1+l1.length=n+(row :: l1).length by simp; omega]
theorem wN_skip (r:Nat) (st:WSt) : ∀ (l:List (List (Int×Int))) (n:Nat),(∀ m,n≤m→m < n+l.length→¬(st.seen.getD m false=true∧(st.out.getD m []).length=r))→wN r l n st=some st
 | [],n,_=>rfl
 | row :: l,n,h=>by
  unfold wN
  have h0:=h n (Nat.le_refl _) (by simp)
  have:wI r n row 0 st=some st:=by
   cases row with
   | nil=>rfl
   | cons e es=>unfold wI; rw [if_neg h0]
  rw [this]
  exact wN_skip r st l (n+1) fun m h1 h2=>h m (by omega) (by simp; omega)
theorem sim_B {I O:Int} {T:List (List (Int×Int))} (r:Nat) : ∀ (k n:Nat) (ws:List (List Int)),n+k≤T.length→n+k≤ws.length→goT I O (T.drop n) n ws.length=some T.length →
  (∀ m,n≤m→m < n+k→(ws.getD m []).length=r)→Srt ws→(n < ws.length→Fro ws n 0) →
  ∃ ext,wN r ((T.drop n).take k) n (stW T.length ws)=some (stW T.length (ws++ext))∧goT I O (T.drop (n+k)) (n+k) (ws++ext).length=some T.length∧(∀ w∈ext,w.length=r+1)∧Srt (ws++ext)∧(n+k < (ws++ext).length→Fro (ws++ext) (n+k) 0)
 | 0,n,ws,_,_,hg,_,hs,hf=>⟨[],by rw [List.append_nil]; rfl,by rw [List.append_nil]; exact hg,fun w hw=>(by cases hw),by rw [List.append_nil]; exact hs,by rw [List.append_nil]; exact hf⟩
 | k+1,n,ws,hk,hkw,hg,hr,hs,hf=>by
  have hn:n < T.length:=by omega
  have hnw:n < ws.length:=by omega
  rw [List.drop_eq_getElem_cons hn] at hg
  rw [List.drop_eq_getElem_cons hn,List.take_succ_cons]
  unfold goT at hg
  split at hg
  ·rename_i hc
   cases he:goE O T[n] ws.length with
   | none=>rw [he] at hg; cases hg
   | some j =>
    rw [he] at hg
    have hj:=goT_le (rows:=T.drop (n+1)) hg
    obtain ⟨e1,a1,a2,a3,a4,a5⟩:=sim_row (len:=T.length) r n T[n] 0 ws j he hj (by omega) hnw (hr n (Nat.le_refl _) (by omega)) hs (hf hnw)
    have hf1:n+1 < (ws++e1).length→Fro (ws++e1) (n+1) 0:=fun h m hm=>(a5 m hm).trans ((a4 n (n+1) (by omega) h).app _ _)
    have h4:goT I O (T.drop (n+1)) (n+1) (ws++e1).length=some T.length:=by rw [a2]; exact hg
    obtain ⟨e2,b1,b2,b3,b4,b5⟩:=sim_B (I:=I) (O:=O) (T:=T) r k (n+1) (ws++e1) (by omega) (by rw [List.length_append]; omega) h4 (fun m h1 h2=>by rw [getD_app1 _ _ _ (by omega)]; exact hr m (by omega) (by omega)) a4 hf1
    refine ⟨e1++e2,?_,?_,fun w hw=>?_,?_,?_⟩
    ·unfold wN
     rw [a1]
     show wN r ((T.drop (n+1)).take k) (n+1) (stW T.length (ws++e1))=_
     rw [b1,List.append_assoc]
    ·rw [← List.append_assoc,show n+(k+1)=n+1+k by omega]; exact b2
    ·rcases List.mem_append.1 hw with hw | hw
     ·exact a3 w hw
     ·exact b3 w hw
    ·rw [← List.append_assoc]; exact b4
    ·rw [← List.append_assoc,show n+(k+1)=n+1+k by omega]; exact b5
  ·cases hg
theorem goT_stuck {I O:Int} {T:List (List (Int×Int))} {n:Nat} (h:goT I O (T.drop n) n n=some T.length) : n=T.length:=by
 by_cases hn:n < T.length
 ·rw [List.drop_eq_getElem_cons hn] at h
  unfold goT at h
  rw [if_neg (by omega)] at h
  cases h
 ·rw [List.drop_eq_nil_iff.2 (by omega)] at h
  unfold goT at h
  cases h
  rfl
theorem sim_R {I O:Int} {T:List (List (Int×Int))} : ∀ (k r lo:Nat) (ws:List (List Int)),k+r=T.length→r≤lo→lo≤ws.length→lo≤T.length→goT I O (T.drop lo) lo ws.length=some T.length →
  (∀ m,m < lo→(ws.getD m []).length < r)→(∀ m,lo≤m→m < ws.length→(ws.getD m []).length=r)→Srt ws→(lo < ws.length→Fro ws lo 0) →
  ∃ W,wR T k r (stW T.length ws)=some (stW T.length W)∧W.length=T.length∧Srt W
 | 0,r,lo,ws,hk,hrl,hlw,hlT,hg,_,_,hs,_=>by
  rw [List.drop_eq_nil_iff.2 (by omega)] at hg
  unfold goT at hg
  exact ⟨ws,rfl,by injection hg,hs⟩
 | k+1,r,lo,ws,hk,hrl,hlw,hlT,hg,hlo,hmid,hs,hf=>by
  have hwT:=goT_le hg
  obtain ⟨ext,b1,b2,b3,b4,b5⟩:=sim_B (T:=T) r (ws.length - lo) lo ws (by omega) (by omega) hg (fun m h1 h2=>hmid m h1 (by omega)) hs hf
  rw [show lo+(ws.length - lo)=ws.length by omega] at b2 b5
  have hT:T=T.take lo++((T.drop lo).take (ws.length - lo)++T.drop ws.length):=by
   have h1:T.drop ws.length=(T.drop lo).drop (ws.length - lo):=by rw [List.drop_drop]; congr 1; omega
   rw [h1,List.take_append_drop,List.take_append_drop]
  have hrun:wN r T 0 (stW T.length ws)=some (stW T.length (ws++ext)):=by
   have e1:wN r (T.take lo) 0 (stW T.length ws)=some (stW T.length ws):=wN_skip r _ _ _ fun m _ h2=>by
    rw [List.length_take] at h2
    rintro ⟨-,h3⟩
    have h4:((padW T.length ws).getD m []).length=r:=h3
    rw [padW_getD] at h4
    have:=hlo m (by omega)
    omega
   have e2:wN r (T.drop ws.length) ws.length (stW T.length (ws++ext))=some (stW T.length (ws++ext)):=wN_skip r _ _ _ fun m h1 h2=>by
    rintro ⟨h3,h4⟩
    have h5:(padS T.length (ws++ext).length).getD m false=true:=h3
    have h6:((padW T.length (ws++ext)).getD m []).length=r:=h4
    rw [padS_getD] at h5
    rw [padW_getD] at h6
    have h7:m < (ws++ext).length:=of_decide_eq_true h5
    have h8:(ws++ext).getD m []∈ext:=by
     rw [List.getD_eq_getElem?_getD,List.getElem?_append_right h1]
     rw [List.length_append] at h7
     rw [List.getElem?_eq_getElem (by omega)]
     exact List.getElem_mem _
    have:=b3 _ h8
    omega
   have hl1:0+(T.take lo).length=lo:=by rw [List.length_take]; omega
   have hl2:lo+((T.drop lo).take (ws.length - lo)).length=ws.length:=by rw [List.length_take,List.length_drop]; omega
   calc wN r T 0 (stW T.length ws)=wN r (T.take lo++((T.drop lo).take (ws.length - lo)++T.drop ws.length)) 0 (stW T.length ws):=by rw [← hT]
    _=wN r ((T.drop lo).take (ws.length - lo)++T.drop ws.length) lo (stW T.length ws):=by rw [wN_app,e1,← hl1]; simp [hl1]
    _=some (stW T.length (ws++ext)):=by rw [wN_app,b1]; show wN r (T.drop ws.length) (lo+_) _=_; rw [hl2,e2]
  unfold wR
  rw [hrun]
  show ∃ W,(if (ws++ext).length=ws.length then some (stW T.length (ws++ext)) else wR T k (r+1) (stW T.length (ws++ext)))=some (stW T.length W)∧W.length=T.length∧Srt W
  by_cases he:(ws++ext).length=ws.length
  ·rw [if_pos he]
   rw [he] at b2
   exact ⟨ws++ext,rfl,by rw [he]; exact goT_stuck b2,b4⟩
  ·rw [if_neg he]
   have hlt:lo < ws.length:=by
    by_cases h:lo < ws.length
    ·exact h
    ·have e:ws.length=lo:=by omega
     have h2:ws.length=T.length:=by
      rw [e] at hg ⊢
      exact goT_stuck hg
     have h3:=goT_le b2
     rw [List.length_append] at he h3
     omega
   refine sim_R k (r+1) ws.length (ws++ext) (by omega) (by omega) (by rw [List.length_append]; omega) hwT b2 (fun m hm=>?_) (fun m h1 h2=>?_) b4 b5
   ·rw [getD_app1 _ _ _ hm]
    by_cases h:m < lo
    ·have:=hlo m h; omega
    ·have:=hmid m (by omega) hm; omega
   ·have h8:(ws++ext).getD m []∈ext:=by
     rw [List.getD_eq_getElem?_getD,List.getElem?_append_right h1]
     rw [List.length_append] at h2
     rw [List.getElem?_eq_getElem (by omega)]
     exact List.getElem_mem _
    exact b3 _ h8
theorem treeErr_eq (I O:Int) (T:List (List (Int×Int))) : treeErr I O T=rTreeErr I O T:=by
  unfold treeErr rTreeErr
  split
  · rfl
  split
  · rfl
  rename_i hN1 hN2
  have h1:1≤T.length:=by omega
  congr 1
  refine propext ⟨fun h=>?_,fun h=>?_⟩
  · have hok:=goT_ok (len:=T.length) h (Nat.le_refl _) (Nat.le_refl _)
    obtain ⟨W,a1,a2,a3⟩:=sim_R (I:=I) (O:=O) (T:=T) T.length 0 0 [[]] rfl (Nat.le_refl _) (by simp) (by omega) h (fun m hm=>by omega) (fun m _ hm=>by
      have:m=0:=by simpa using hm
      subst this; rfl) (fun a b hab hb => by have : b = 0 := by simpa using hb
                                             omega) (fun _ m hm=>by
      have:m=0:=by simpa using hm
      subst this
      exact SL.nil [] 0)
    have hst:stW T.length [[]]=wSt0 T.length:=by
      unfold stW wSt0 padW padS
      obtain ⟨m,hm⟩ : ∃ m,T.length=m+1:=⟨T.length - 1,by omega⟩
      rw [hm]
      simp [List.replicate_succ]
    rw [hst] at a1
    have hW:rWords T=W:=by
      unfold rWords
      rw [a1]
      show (if W.length < T.length then [] else padW T.length W)=W
      rw [if_neg (by omega)]
      unfold padW
      rw [a2,Nat.sub_self]; simp
    rw [hW,a2,decide_eq_true rfl,Bool.and_true,Bool.and_eq_true]
    refine ⟨List.all_eq_true.2 fun r hr=>?_,SL_inc fun n hn=>a3 n (n+1) (by omega) hn⟩
    rw [decide_eq_true (hok r hr).1,Bool.true_and]
    exact List.all_eq_true.2 (hok r hr).2
  · rw [Bool.and_eq_true,Bool.and_eq_true] at h
    obtain ⟨⟨h2,h3⟩,h4⟩:=h
    have h3' : (rWords T).length=T.length:=of_decide_eq_true h3
    have hlen:∀ r∈T,(r.length:Int)=I:=fun r hr=>by
      have:=List.all_eq_true.1 h2 r hr
      rw [Bool.and_eq_true] at this
      exact of_decide_eq_true this.1
    have hok:∀ r∈T,∀ e∈r,okE T.length O e=true:=fun r hr e he=>by
      have:=List.all_eq_true.1 h2 r hr
      rw [Bool.and_eq_true] at this
      exact List.all_eq_true.1 this.2 e he
    obtain ⟨hL,hC⟩:=rWords_lab hok h1 h3'
    refine lab_goT hlen hok (rWords T) hL hC (fun a b hab hb=>inc_SL h4 a b hab (by omega)) T 0 1 rfl (by omega) ⟨Nat.le_refl _,h1,fun t a b=>by omega,fun p j t h _=>by omega⟩
section
variable {P:Program} {H:Mem} {ev:Ev} {d:Option Tmp} {ty:TypeId} {p:String} {af:Array Edge} {g:Option (Nat×Bool)}
theorem bounds_lo {i:Int} {n c:Nat} {k:IntKind} (h0:0≤i) (h1:i.toNat≤n) (h2:n≤c) : bounds (some (.lit (.int k i))) none none n c=some (i.toNat,n,c):=by
 simp_all [natOr,bounds,natOf_int,Nat.ble_eq_true_of_le,okMx]
theorem slice_slq_lo {t:TypeId} {x lo:Operand} {a off n c sz:Nat} {k:IntKind} {i:Int} {hx:ev x=some (.slq a off n c)} {hh:ev lo=some (.lit (.int k i))} (he:elSz P t=some (none,sz)) (h0:0≤i) (h1:i.toNat < n) :
  ex2 P H ev ⟨d,.slice t x (some lo) none none,ty,p,af,g⟩ x lo (some (.slq a off n c)) (some (.lit (.int k i))) hx hh=.val (.slq a (off+i.toNat * sz) (n - i.toNat) (c+i.toNat)) H:=by
 show opV P H ev _=_
 rw [slice_of hx rfl]
 obtain ⟨e,i',h3,h4,h5⟩:=elSz_inv he
 unfold oSliceN evOpt
 dsimp only
 rw [hh]
 dsimp only
 rw [sliceOp_slice h3 h4]
 unfold sliceN
 dsimp only
 rw [bounds_lo h0 (by omega) (Nat.le_refl n)]
 grind [sliceSlq,Nat.ble_eq_true_of_le,Nat.blt,ofOpt,natK_eq]
theorem slice_sl_lo {t:TypeId} {x lo:Operand} {a off n c sz:Nat} {k:IntKind} {i:Int} {hx:ev x=some (.sl a off n c)} {hh:ev lo=some (.lit (.int k i))} (he:elSz P t=some (none,sz)) (h0:0≤i) (h1:i.toNat < n) (h2:n≤c) :
  ex2 P H ev ⟨d,.slice t x (some lo) none none,ty,p,af,g⟩ x lo (some (.sl a off n c)) (some (.lit (.int k i))) hx hh=.val (.sl a (off+i.toNat * sz) (n - i.toNat) (c - i.toNat)) H:=by
 show opV P H ev _=_
 rw [slice_of hx rfl]
 obtain ⟨e,i',h3,h4,h5⟩:=elSz_inv he
 unfold oSliceN evOpt
 dsimp only
 rw [hh]
 dsimp only
 rw [sliceOp_slice h3 h4]
 grind [sliceN,bounds_lo,sliceSl,Nat.eq_of_beq_eq_true,ofOpt,natK_eq]
end
theorem SliceV.lo {P:Program} {g:Nat→Option Blk} {b len sz:Nat} {sv:AV} {cs:List AV} {t:TypeId} (he:elSz P t=some (none,sz)) (h:SliceV g b sv len cs) (hc:CapV sv) {k:Nat} (hk:k < len) (hcs:cs.length=len * sz) :
  ∃ sv',SliceV g b sv' (len - k) (cs.drop (k * sz))∧∀ {H:Mem} {ev:Ev} {d:Option Tmp} {ty:TypeId} {p:String} {af:Array Edge} {gd:Option (Nat×Bool)} {x lo:Operand} {hx:ev x=some sv} {hl:ev lo=some (.lit (.int .i64 (k:Int)))},
   ex2 P H ev ⟨d,.slice t x (some lo) none none,ty,p,af,gd⟩ x lo (some sv) (some (.lit (.int .i64 (k:Int)))) hx hl=.val sv' H:=by
 obtain ⟨a2,o2,c,l,own,z,ha2,hv,hg,hle,hcut⟩:=h.lenOf' (by omega)
 have hkz:k * sz≤cs.length:=by rw [hcs]; exact Nat.mul_le_mul_right _ (by omega)
 have hrow:Row g a2 (o2+k * sz) (cs.drop (k * sz)):=by
  refine ⟨l,own,z,hg,by grind,?_⟩
  grind [List.drop_drop,List.drop_take]
 rcases hv with rfl | rfl
 ·have hnc:len≤c:=hc a2 o2 len c rfl
  refine ⟨.sl a2 (o2+k * sz) (len - k) (c - k),.inr ⟨a2,o2+k * sz,ha2,.inl ⟨_,rfl⟩,hrow⟩,?_⟩
  simp_all [slice_sl_lo]
 ·refine ⟨.slq a2 (o2+k * sz) (len - k) (c+k),.inr ⟨a2,o2+k * sz,ha2,.inr ⟨_,rfl⟩,hrow⟩,?_⟩
  simp_all [slice_slq_lo]
end Go.Ai
end
section
namespace Go.Ai
section
variable {P:Program} {H:Mem} {ev:Ev} {d:Option Tmp} {ty:TypeId} {p:String} {af:Array Edge} {g:Option (Nat×Bool)}
noncomputable def apZr (P:Program) (s t:TypeId) : Option (Nat×Nat×List AV):=match elemOfSlice P s,appended P (some t),isIntT P (some t) with
 | some (e,size,bytes),false,true=>(zeroL P e).map fun z=>(size,bytes,z)
 | _,_,_=>none
theorem append_z {x y:Operand} {s t:TypeId} {n size bytes:Nat} {z:List AV} (hx:ev x=some (.lit (.slice none 0 0))) (hy:ev y=some (.lit (.int .i64 (n:Int)))) (h:apZr P s t=some (size,bytes,z)) (hn0:0 < n) (hn:n≤1048576) (hs:0 < size) (hb:bytes≤1048576) (hz:z.length=size) :
  opV P H ev ⟨d,.call ⟨.builtin .append,#[x,y],#[s,t]⟩,ty,p,af,g⟩=.val (.slq H.next 0 n 0) (H.add (.cells (rep z n) true size)):=by
 show callOp P H ev _ ⟨.builtin .append,#[x,y],#[s,t]⟩=_
 unfold callOp
 have e1:evals ev (#[x,y] : Array Operand).toList=some [.lit (.slice none 0 0),.lit (.int .i64 (n:Int))]:=by
  simp_all
 rw [e1]
 dsimp only
 unfold oBuiltin
 dsimp only
 unfold oAppend
 dsimp only
 have e2:(#[s,t] : Array TypeId)[0]?=some s:=rfl
 have e3:(#[s,t] : Array TypeId)[1]?=some t:=rfl
 rw [e2,e3]
 dsimp only
 unfold append
 unfold apZr at h
 split at h
 ·rename_i e sz by_ he hap hit
  obtain ⟨z',hz',h'⟩:=Option.map_eq_some_iff.1 h
  cases h'
  rw [he,hap]
  dsimp only
  rw [hit]
  dsimp only
  unfold appendZ
  rw [natOf_int (by omega)]
  obtain ⟨j,rfl⟩ : ∃ j,n=j+1:=⟨n - 1,by omega⟩
  rw [Int.toNat_natCast]
  have hb0:Nat.beq size 0=false:=by
   grind [Nat.eq_of_beq_eq_true]
  have hbb:(Nat.ble (j+1) 1048576 && Nat.ble bytes 1048576)=true:=by simp_all
  show (match (match Nat.beq size 0,Nat.ble (j+1) 1048576 && Nat.ble bytes 1048576,zeroL P e with | false,true,some z=>appTo H size bytes (j+1) (.lit (.slice none 0 0)) (rep z (j+1)) | _,_,_=>none) with | some (v,H)=>R.val v H | none=>.bad)=_
  rw [hb0,hbb,hz']
  dsimp only
  unfold appTo
  rw [len_eq,rep_len,hz,Nat.beq_refl]
  simp_all [appNil,small_ok,newSlq_eq]
 grind
theorem ap_zeros {x y:Operand} {s t:TypeId} {n:Nat} {z:List AV} {hx:ev x=some (.lit (.slice none 0 0))} {hy:ev y=some (.lit (.int .i64 (n:Int)))} (size bytes:Nat) (h:apZr P s t=some (size,bytes,z)) (hn0:0 < n) (hn:n≤1048576) (hs:0 < size) (hb:bytes≤1048576) (hz:z.length=size) :
  ex2 P H ev ⟨d,.call ⟨.builtin .append,#[x,y],#[s,t]⟩,ty,p,af,g⟩ x y (some (.lit (.slice none 0 0))) (some (.lit (.int .i64 (n:Int)))) hx hy=.val (.slq H.next 0 n 0) (H.add (.cells (rep z n) true size)) :=
 append_z hx hy h hn0 hn hs hb hz
theorem SliceV.apq0 {g:Nat→Option Blk} {b:Nat} {sv:AV} {cs:List AV} (h:SliceV g b sv 0 cs) :
  ∀ {H:Mem} {ev:Ev} {d:Option Tmp} {ty:TypeId} {p:String} {af:Array Edge} {gd:Option (Nat×Bool)} {x y:Operand} {s t:TypeId} {a off k c:Nat} {hx:ev x=some (.slq a off k c)} {hy:ev y=some sv},(apI P s t).isSome=true →
   ex2 P H ev ⟨d,.call ⟨.builtin .append,#[x,y],#[s,t]⟩,ty,p,af,gd⟩ x y (some (.slq a off k c)) (some sv) hx hy=.val (.slq a off k c) H:=by
 intro H ev d ty p af gd x y s t a off k c hx hy hp
 have hn:lenOf sv=some 0:=by
  rcases h with ⟨_,_,rfl | rfl⟩ | ⟨a,off,_,⟨c,rfl⟩ | ⟨c,rfl⟩,_⟩ <;> rfl
 cases hq:apI P s t with
 | none=>grind
 | some q =>
  obtain ⟨q1,q2⟩:=q
  show opV P H ev _=_
  rw [append_of hx hy hq]
  unfold appendN
  rw [hn]
  rfl
end
end Go.Ai
end
section
namespace Go.Ai
theorem LX.cut {G n:Nat} {P:Program} {b:Code} {fr:Fr} {H:Mem} {K Q:Out→Prop} (h:LX G P n b fr H K) (hk:∀ o,K o→Q o) : LX G P n b fr H Q:=by
 intro B n0 ρ0 w0 ρ a w s b' k cs
 obtain ⟨e,a',w',⟨out,h1,h2⟩,h3⟩:=h B n0 ρ0 w0 ρ a w s b' k cs
 exact ⟨e,a',w',⟨out,hk _ h1,h2⟩,h3⟩
end Go.Ai
end
section
namespace Go.Ai
open Go.RowKit (Below)
variable {B G:Nat} {P:Program} {n n0:Nat} {ρ0 ρ:Rn} {w0 w:World} {a:Act} {ops:Array Oper} {o:Oper} {callf:CallF} {fr:Fr} {g:Nat→Option AV} {ds:List Dfr} {H:Mem} {d:Tmp} {v:AV}
def und:Dg→Nat
 | .d0=>0 | .d1=>1 | .d2=>2 | .d3=>3 | .d4=>4 | .d5=>5 | .d6=>6 | .d7=>7
 | .d8=>8 | .d9=>9 | .d10=>10 | .d11=>11 | .d12=>12 | .d13=>13 | .d14=>14 | .d15=>15
theorem und_dig:∀ n,n < 16→und (dig n)=n:=by decide
theorem dig_inj {m k:Nat} (hm:m < 16) (hk:k < 16) (h:dig m=dig k) : m=k:=by
 have:=congrArg und h
 grind [und_dig]
theorem path2 {j k:Nat} (hj:j < 256) (hk:k < 256) (h0:d0 k=d0 j) (h1:d1 k=d1 j) : k=j:=by
 have e0:k % 16=j % 16:=dig_inj (Nat.mod_lt _ (by omega)) (Nat.mod_lt _ (by omega)) h0
 have e1:k / 16 % 16=j / 16 % 16:=dig_inj (Nat.mod_lt _ (by omega)) (Nat.mod_lt _ (by omega)) h1
 omega
theorem path3 {j k:Nat} (hj:j < 4096) (hk:k < 4096) (h0:d0 k=d0 j) (h1:d1 k=d1 j) (h2:d2 k=d2 j) : k=j:=by
 have e0:k % 16=j % 16:=dig_inj (Nat.mod_lt _ (by omega)) (Nat.mod_lt _ (by omega)) h0
 have e1:k / 16 % 16=j / 16 % 16:=dig_inj (Nat.mod_lt _ (by omega)) (Nat.mod_lt _ (by omega)) h1
 have e2:k / 256 % 16=j / 256 % 16:=dig_inj (Nat.mod_lt _ (by omega)) (Nat.mod_lt _ (by omega)) h2
 omega
theorem leaf_same {α:Type} (k:Nat) (x:α) : leaf k (.v k x)=some x:=by simp [leaf]
theorem get2_ne {α:Type} (t:T2 α) {k j:Nat} (x:Lf α) (hk:k < 256) (hj:j < 256) (hne:j≠k) : get2 (u2 t k x) j=get2 t j:=by
 unfold get2 u2
 rcases Dg.em (d0 k) (d0 j) with h0 | h0
 ·rw [h0,gN_same]
  rcases Dg.em (d1 k) (d1 j) with h1 | h1
  all_goals grind [path2,gN_ne]
 grind [gN_ne]
theorem get3_ne {α:Type} (t:T3 α) {k j:Nat} (x:Lf α) (hk:k < 4096) (hj:j < 4096) (hne:j≠k) : get3 (u3 t k x) j=get3 t j:=by
 unfold get3 u3
 rcases Dg.em (d0 k) (d0 j) with h0 | h0
 ·rw [h0,gN_same]
  rcases Dg.em (d1 k) (d1 j) with h1 | h1
  ·rw [h1,gN_same]
   rcases Dg.em (d2 k) (d2 j) with h2 | h2
   all_goals grind [path3,gN_ne]
  grind [gN_ne]
 grind [gN_ne]
noncomputable def roomOf (fr:Fr) : Nat:=Fr.rec (motive:=fun _=>Nat) (fun _ _=>256) (fun _ _=>4096) (fun _ _=>0) fr
theorem room_upd (fr:Fr) (d:Tmp) (v:AV) : roomOf (fr.upd d v)=roomOf fr:=by
 cases fr <;> simp [Fr.upd,Fr.set,fpS,fpG,fpF,put2_eq,put3_eq,roomOf]
theorem room_put (fr:Fr) (d:Option Tmp) (v:AV) : roomOf (fr.put d v)=roomOf fr:=by
 cases d with
 | none=>rfl
 | some d=>exact room_upd fr d v
theorem room_defer (fr:Fr) (x:Dfr) : roomOf (fr.defer x)=roomOf fr:=by cases fr <;> rfl
theorem get_upd_same (fr:Fr) (d:Tmp) (v:AV) : (fr.upd d v).get d=some v:=by
 cases fr with
 | s t ds=>simp [Fr.upd,Fr.set,fpS,put2_eq,Fr.get,fgS]; grind [get2,at2_same,leaf_same]
 | g t ds=>simp [Fr.upd,Fr.set,fpG,put3_eq,Fr.get,fgG]; grind [get3,at3_same,leaf_same]
 | f g ds=>exact if_pos rfl
theorem get_upd_ne (fr:Fr) {d k:Tmp} (v:AV) (hd:d < roomOf fr) (hk:k < roomOf fr) (h:k≠d) : (fr.upd d v).get k=fr.get k:=by
 cases fr with
 | s t ds=>simp [Fr.upd,Fr.set,fpS,put2_eq,Fr.get,fgS]; exact get2_ne _ _ hd hk h
 | g t ds=>simp [Fr.upd,Fr.set,fpG,put3_eq,Fr.get,fgG]; exact get3_ne _ _ hd hk h
 | f g ds=>exact if_neg h
structure FE (fr:Fr) (g:Nat→Option AV) (ds:List Dfr) : Prop where
 lo:∀ k,k < roomOf fr→fr.get k=g k
 up:∀ k v,fr.get k=some v→g k=some v
 dfr:fr.defers=ds
theorem FE.refl (fr:Fr) : FE fr fr.get fr.defers:=⟨fun _ _=>rfl,fun _ _ h=>h,rfl⟩
theorem FE.upd (h:FE fr g ds) (hd:d < roomOf fr) (v:AV) : FE (fr.upd d v) (fput g d v) ds:=by
 refine ⟨fun k hk=>?_,fun k y hy=>?_,(Fr.defers_upd fr d v).trans h.dfr⟩
 ·rw [room_upd] at hk
  unfold fput
  by_cases e:k=d
  ·subst e; rw [if_pos rfl]; grind [get_upd_same]
  ·rw [if_neg e,get_upd_ne fr v hd hk e]; exact h.lo k hk
 ·unfold fput
  rcases Fr.get_upd hy with ⟨rfl,rfl⟩ | ⟨hne,hy⟩
  ·grind
  ·rw [if_neg hne]; exact h.up k y hy
def putG (g:Nat→Option AV) (d:Option Tmp) (v:AV) : Nat→Option AV:=match d with | some d=>fput g d v | none=>g
theorem put_f (g:Nat→Option AV) (ds:List Dfr) (d:Option Tmp) (v:AV) : (Fr.f g ds).put d v=.f (putG g d v) ds:=by cases d <;> rfl
theorem FE.put (h:FE fr g ds) {d:Option Tmp} (hd:∀ t,d=some t→t < roomOf fr) (v:AV) : FE (fr.put d v) (putG g d v) ds:=by
 cases d with
 | none=>exact h
 | some d=>exact h.upd (hd d rfl) v
theorem FE.defer (h:FE fr g ds) (x:Dfr) : FE (fr.defer x) g (x :: ds) :=
 ⟨fun k hk=>by rw [room_defer] at hk; rw [Fr.get_defer]; exact h.lo k hk,fun k v hv=>by rw [Fr.get_defer] at hv; exact h.up k v hv,by rw [Fr.defers_defer,h.dfr]⟩
theorem St.toF (s:St B G n n0 ρ0 w0 ρ fr H a w) : St B G n n0 ρ0 w0 ρ (.f fr.get fr.defers) H a w:=⟨s.ext,s.sim,⟨s.frel.slot,s.frel.dfr,s.frel.size,s.frel.only⟩,s.le⟩
theorem St.ofF (h:FE fr g ds) (s:St B G n n0 ρ0 w0 ρ (.f g ds) H a w) : St B G n n0 ρ0 w0 ρ fr H a w :=
 ⟨s.ext,s.sim,⟨fun t v hv hn=>s.frel.slot t v (h.up t v hv) hn,by rw [h.dfr]; exact s.frel.dfr,s.frel.size,fun t v hv=>s.frel.only t v (h.up t v hv)⟩,s.le⟩
def noSel (o:Oper) : Bool:=match o.op with | .select _ _=>false | _=>true
theorem noSel_spec (h:noSel o=true) : ∀ cs b,o.op≠.select cs b:=by
 grind [noSel]
def roomy (m:Nat) (o:Oper) : Bool:=dstOk m o && (tmpsOf o).all (fun t=>Nat.blt t m) && noSel o
theorem FE.op (h:FE fr g ds) (hr:roomy (roomOf fr) o=true) : opV P H fr.ev o=opV P H (Fr.f g ds).ev o:=by
 unfold roomy at hr
 simp only [Bool.and_eq_true] at hr
 refine opV_evs (noSel_spec hr.2) fun x hx=>?_
 cases x with
 | tmp t =>
  have:=List.all_eq_true.1 hr.1.2 t (mem_tmps hx)
  exact h.lo t (Nat.le_of_ble_eq_true this)
 | const v=>rfl
 | global g=>rfl
 | func f=>rfl
theorem roomy_dst {m:Nat} (hr:roomy m o=true) : ∀ t,o.dst=some t→t < m:=by
 intro t ht
 simp_all [dstOk,roomy]
def wOf (callf:CallF) : WF:=fun f args H K=>match callf f args H with
 | .bad=>False
 | r=>K r
theorem wOf_ok (hc:∀ B,CallOK B G P callf) : WOK G P (wOf callf):=by
 intro f args H K h
 refine orW_sound (O:=callf) hc ?_
 grind [wOf,orW]
theorem wOf_mono:WMono (wOf callf):=by
 intro f args H K K' hk h
 grind [wOf]
theorem one_W {k:Fr→Mem→Out} {kk:Fr→Mem→Prop} {Q:Out→Prop} {r:Out} (he:FE fr g ds) (hr:roomy (roomOf fr) o=true) (hall:ops.toList.all (roomy (roomOf fr))=true) (h:oneOp P callf ops o fr H k=r) (hne:r≠.bad)
  (hk:∀ fr1 g1 ds1 H1,FE fr1 g1 ds1→roomOf fr1=roomOf fr→k fr1 H1=r→kk (.f g1 ds1) H1)
  (hp:∀ v fr1 H1,FE fr1 g ds→r=.panic v fr1 H1→Q (.panic v (.f g ds) H1)) : oneW P (wOf callf) ops o (.f g ds) H kk Q:=by
 have hput:∀ (v:AV) (H1:Mem),(fr.putK o.dst v fun fr=>k fr H1)=r→kk ((Fr.f g ds).put o.dst v) H1:=by
  intro v H1 h1
  rw [Fr.putK_eq] at h1
  rw [put_f]
  exact hk _ _ _ _ (he.put (roomy_dst hr) v) (room_put fr o.dst v) h1
 have haft:after callf o fr k (opV P H fr.ev o)=r→afterW (wOf callf) o (.f g ds) kk Q (opV P H (Fr.f g ds).ev o):=by
  rw [← he.op hr]
  generalize opV P H fr.ev o=x
  intro h1
  cases x with
  | val v H1=>exact hput v H1 h1
  | skip H1=>exact hput _ H1 h1
  | enter f args H1 =>
   have h2:(match callf f args H1 with | .ret v H=>fr.putK o.dst v fun fr=>k fr H | .panic v H=>.panic v fr H | .bad=>.bad)=r:=h1
   (simp_all [wOf]; grind)
  | dfr fn cap args H1 =>
   have h2:((fr.defer (fn,cap,args)).putK o.dst (.lit undef) fun fr=>k fr H1)=r:=h1
   rw [Fr.putK_eq] at h2
   show kk ((Fr.f g ((fn,cap,args) :: ds)).put o.dst (.lit undef)) H1
   rw [put_f]
   exact hk _ _ _ _ ((he.defer _).put (by rw [room_defer]; exact roomy_dst hr) _) ((room_put _ _ _).trans (room_defer _ _)) h2
  | panic v H1=>exact hp v fr H1 he h1.symm
  | _=>exact absurd h1.symm hne
 unfold oneW
 unfold oneOp at h
 cases hg:o.guard with
 | none=>rw [hg] at h; exact haft h
 | some gd =>
  rw [hg] at h
  have h2:guarded P callf ops o fr H k gd=r:=h
  unfold guarded at h2
  have hs:guardSlot ops fr gd.1=guardSlot ops (.f g ds) gd.1:=by
   unfold guardSlot
   split
   ·rename_i p hp'
    have hm:=List.all_eq_true.1 hall p (List.mem_of_getElem? (toList_at.2 hp'))
    split
    ·rename_i d hd; exact he.lo d (roomy_dst hm d hd)
    ·rfl
   ·rfl
  show byGuard (guardSlot ops (.f g ds) gd.1) gd.2 _ _
  rw [← hs]
  have hw:∀ x,wantedG ops fr gd=some x→(x=true→(∃ b,guardSlot ops fr gd.1=some (.lit (.bool b))∧b=gd.2)) ∧
    (x=false→(∃ b,guardSlot ops fr gd.1=some (.lit (.bool b))∧b = !gd.2)∨∃ y,guardSlot ops fr gd.1=some (.lit (.tuple y))):=by
   intro x hx
   unfold wantedG yieldedA at hx
   unfold guardSlot
   generalize gd.2=want at hx ⊢
   cases hp:ops[gd.1]? with
   | none=>grind
   | some p =>
    cases hd:p.dst with
    | none=>grind
    | some d =>
     simp only [hp,hd] at hx ⊢
     revert hx
     generalize fr.get d=z
     intro hx
     by_cases hb:∃ b,z=some (.lit (.bool b))
     ·obtain ⟨b,rfl⟩:=hb
      cases b <;> cases want <;> first
       | (grind)
       | grind
     grind
  split at h2
  ·rename_i hx
   obtain ⟨b,hb,rfl⟩:=(hw _ hx).1 rfl
   rw [hb]
   exact ⟨fun _=>haft h2,fun e=>by grind⟩
  ·rename_i hx
   rcases (hw _ hx).2 rfl with ⟨b,hb,e⟩ | ⟨y,hy⟩
   ·rw [hb]
    subst e
    exact ⟨fun e=>by grind,fun _=>hput _ _ h2⟩
   ·rw [hy]; exact hput _ _ h2
  grind
end Go.Ai
end
section
namespace Go.Ai
open Go.RowKit (Below)
variable {B G:Nat} {P:Program} {n n0:Nat} {ρ0 ρ:Rn} {w0 w:World} {a:Act} {ops:Array Oper} {callf:CallF} {loopf:LoopF} {fr:Fr} {g:Nat→Option AV} {ds:List Dfr} {H:Mem}
inductive FI where
 | run (o:Oper)
 | mk (i:Nat) (o:Oper)
 | gate (hs as:List Nat)
 | no
def itF (ops:Array Oper) (it:It) : FI:=match it with
 | .run i=>match ops[i]? with | some o=>.run o | none=>.no
 | .mk i=>match ops[i]? with | some o=>.mk i o | none=>.no
 | .gate hs as=>.gate hs as
def eqU (x y:AV) : Bool:=match x,y with
 | .lit (.tuple a),.lit (.tuple b)=>Nat.beq a.size 0 && Nat.beq b.size 0
 | x,y=>eqAV x y
theorem eqU_sound {x y:AV} (h:eqU x y=true) : x=y:=by
 unfold eqU at h
 split at h
 ·simp_all
 grind [eqAV_sound]
noncomputable def againC (P:Program) (callf:CallF) (ops:Array Oper) (fr:Fr) (H:Mem) : List Nat→Bool
 | []=>true
 | i :: l=>match ops[i]? with
  | some o=>match oneOp P callf ops o fr H (fun fr' H'=>.norm fr' H') with
   | .norm fr' _=>match slotOf fr' o.dst,slotOf fr o.dst with
    | some x,some y=>match eqU x y with | true=>againC P callf ops fr H l | false=>false
    | _,_=>false
   | _=>false
  | none=>false
def elemN (i:Nat) : List Nat→Bool
 | []=>false
 | j :: l=>match Nat.beq i j with | true=>true | false=>elemN i l
theorem elemN_mem {i:Nat} : ∀ {l:List Nat},i∈l→elemN i l=true
 | j :: l,h=>by
  unfold elemN
  split
  ·rfl
  ·rename_i hb
   rcases List.mem_cons.1 h with rfl | h
   all_goals simp_all [elemN_mem]
noncomputable def keptC (H:Mem) (as:List Nat) : AlP→Bool
 | []=>true
 | (i,a,b) :: l=>match elemN i as with
  | true=>match H.get a,b with
   | some x,some y=>match eqBlk x y with | true=>keptC H as l | false=>false
   | _,_=>false
  | false=>keptC H as l
abbrev FlF:=Program→CallF→Array Oper→Fr→Mem→AlP→Out
noncomputable def flN:FlF:=fun _ _ _ fr H _=>.norm fr H
noncomputable def flRun (o:Oper) : FlF→FlF:=fun ih P callf ops fr H als=>oneOp P callf ops o fr H fun fr H=>ih P callf ops fr H als
noncomputable def flMk (i:Nat) (o:Oper) : FlF→FlF:=fun ih P callf ops fr H als=>oneOp P callf ops o fr H fun fr H'=>ih P callf ops fr H' ((i,H.next,H'.get H.next) :: als)
noncomputable def flGate (hs as:List Nat) : FlF→FlF:=fun ih P callf ops fr H als=>match againC P callf ops fr H hs,keptC H as als with
 | true,true=>ih P callf ops fr H als
 | _,_=>.bad
noncomputable def flNo:FlF→FlF:=fun _ _ _ _ _ _ _=>.bad
noncomputable def flC (it:It) (_:List It) (ih:FlF) : FlF:=fun P callf ops fr H als=>FI.rec (motive:=fun _=>FlF→FlF) flRun flMk flGate flNo (itF ops it) ih P callf ops fr H als
noncomputable def flatRun (P:Program) (callf:CallF) (ops:Array Oper) (l:List It) (fr:Fr) (H:Mem) (als:AlP) : Out:=List.rec (motive:=fun _=>FlF) flN flC l P callf ops fr H als
def OE (r out:Out) : Prop:=match r,out with
 | .norm fr H,.norm fr' H'=>H'=H∧∃ g ds,fr'=.f g ds∧FE fr g ds
 | .panic v fr H,.panic v' fr' H'=>v'=v∧H'=H∧fr'=fr.clear
 | _,_=>False
theorem clear_eq (fr:Fr) : fr.clear=.s e2 fr.defers:=by cases fr <;> rfl
theorem again_W (he:FE fr g ds) (hall:ops.toList.all (roomy (roomOf fr))=true) : ∀ {l:List Nat},againC P callf ops fr H l=true→againW P (wOf callf) ops (.f g ds) H l
 | [],_=>trivial
 | i :: l,h=>by
  unfold againC at h
  unfold againW
  split at h
  ·rename_i o ho
   have hm:=List.all_eq_true.1 hall o (List.mem_of_getElem? (toList_at.2 ho))
   split at h
   ·rename_i fr2 H2 hr
    split at h
    ·rename_i x y hx hy
     split at h
     ·rename_i hxy
      have hxy':=eqU_sound hxy
      subst hxy'
      refine ⟨?_,again_W he hall h⟩
      try rw [ho]
      try dsimp only
      refine one_W he hm hall hr (by simp) (fun fr1 g1 ds1 H1 he1 _ h1=>?_) (fun v fr1 H1 _ h1=>by grind)
      cases h1
      have key:∀ {fr:Fr} {g:Nat→Option AV} {ds:List Dfr},FE fr g ds→∀ {x},slotOf fr o.dst=some x→slotOf (.f g ds) o.dst=some x:=by
       intro fr g ds he x hx
       unfold slotOf at hx ⊢
       split at hx
       ·exact he.up _ _ hx
       grind
      grind
     grind
    grind
   grind
  grind
theorem kept_W {as:List Nat} : ∀ {als:AlP},keptC H as als=true→keptW H as als
 | [],_=>trivial
 | (i,a,b) :: l,h=>by
  unfold keptC at h
  unfold keptW
  split at h
  ·split at h
   ·rename_i x y hx
    split at h
    ·rename_i he
     exact ⟨fun _=>hx.trans (congrArg some (eqBlk_sound he)),kept_W h⟩
    grind
   grind
  ·rename_i he
   exact ⟨fun hi=>(by rw [elemN_mem hi] at he; cases he),kept_W h⟩
theorem flat_W:∀ (l:List It) {fr:Fr} {g:Nat→Option AV} {ds:List Dfr} {H:Mem} {als:AlP} {r:Out},FE fr g ds→ops.toList.all (roomy (roomOf fr))=true→flatRun P callf ops l fr H als=r→r≠.bad →
  planW P (wOf callf) ops (clearQ (OE r)) l (.f g ds) H als
 | [],fr,g,ds,H,als,r,he,hall,h,hne=>by
  have h' : Out.norm fr H=r:=h
  subst h'
  exact ⟨rfl,g,ds,rfl,he⟩
 | it :: l,fr,g,ds,H,als,r,he,hall,h,hne=>by
  have h' : FI.rec (motive:=fun _=>FlF→FlF) flRun flMk flGate flNo (itF ops it) (fun P callf ops fr H als=>flatRun P callf ops l fr H als) P callf ops fr H als=r:=h
  have hp:∀ v fr1 H1,FE fr1 g ds→r=.panic v fr1 H1→clearQ (OE r) (.panic v (.f g ds) H1):=by
   rintro v fr1 H1 he1 rfl
   refine ⟨rfl,rfl,?_⟩
   rw [clear_eq,clear_eq,he1.dfr]; rfl
  cases it with
  | run i =>
   unfold planW
   cases ho:ops[i]? with
   | none =>
    rw [show itF ops (.run i)=.no by grind [itF]] at h'
    exact absurd h'.symm hne
   | some o =>
    rw [show itF ops (.run i)=.run o by grind [itF]] at h'
    dsimp only
    have hm:=List.all_eq_true.1 hall o (List.mem_of_getElem? (toList_at.2 ho))
    exact one_W he hm hall h' hne (fun fr1 g1 ds1 H1 he1 hr1 h1=>flat_W l he1 (by grind) h1 hne) hp
  | mk i =>
   unfold planW
   cases ho:ops[i]? with
   | none =>
    rw [show itF ops (.mk i)=.no by grind [itF]] at h'
    exact absurd h'.symm hne
   | some o =>
    rw [show itF ops (.mk i)=.mk i o by grind [itF]] at h'
    dsimp only
    have hm:=List.all_eq_true.1 hall o (List.mem_of_getElem? (toList_at.2 ho))
    exact one_W he hm hall h' hne (fun fr1 g1 ds1 H1 he1 hr1 h1=>flat_W l he1 (by grind) h1 hne) hp
  | gate hs as =>
   have h2:(match againC P callf ops fr H hs,keptC H as als with | true,true=>flatRun P callf ops l fr H als | _,_=>.bad)=r:=h'
   unfold planW
   split at h2
   ·rename_i h3 h4
    exact ⟨again_W he hall h3,kept_W h4,flat_W l he hall h2 hne⟩
   ·exact absurd h2.symm hne
noncomputable def clearO (r:Out) : Out:=match r with
 | .panic v fr H=>.panic v fr.clear H
 | .norm fr H=>.norm fr H
 | _=>.bad
noncomputable def drawnF (P:Program) (callf:CallF) (ops:Array Oper) (fr:Fr) (H:Mem) : Out:=match flatOk P ops.toList,ops.toList.all (roomy (roomOf fr)) with
 | true,true=>clearO (flatRun P callf ops (planOf ops.toList) fr H [])
 | _,_=>.bad
theorem upon_mono {o:Oper} {a:Act} {next next' : Act→World→Prop} {Q Q' : Exit→Act→World→Prop} (hn:∀ a w,next a w→next' a w) (hq:∀ e a w,Q e a w→Q' e a w) {r:Result Next} (h:o.upon P a next Q r) : o.upon P a next' Q' r:=by
 have hl:LetsOut Q→LetsOut Q':=fun ⟨a,w,h⟩=>⟨a,w,hq _ _ _ h⟩
 unfold Oper.upon at h ⊢
 split at h
 ·grind
 ·grind
 ·grind
 ·refine h.mono fun e w' he=>?_
  grind
 ·exact h.mono fun v w' he=>hn _ _ he
 all_goals grind
theorem wpOps_monoQ {Q Q' : Exit→Act→World→Prop} (hq:∀ e a w,Q e a w→Q' e a w) : ∀ (l:List Nat) (a:Act) (w:World),wpOps P ops Q l a w→wpOps P ops Q' l a w
 | [],a,w,h=>hq _ _ _ h
 | i :: l,a,w,h=>by
  unfold wpOps at h ⊢
  cases ho:ops[i]? with
  | none=>rw [ho] at h; exact wpOps_monoQ hq l a w h
  | some o =>
   rw [ho] at h
   dsimp only at h ⊢
   split at h
   ·rename_i hw
    rw [if_pos hw]
    rcases h with h | ⟨h,a',w',h2⟩
    ·exact .inl (upon_mono (wpOps_monoQ hq l) hq h)
    ·exact .inr ⟨h,a',w',hq _ _ _ h2⟩
   ·rename_i hw
    rw [if_neg hw]
    exact wpOps_monoQ hq l _ _ h
theorem drawnF_ops (hc:∀ B,CallOK B G P callf) (hG:G=P.globals.size) {id:Nat} (s:St B G n n0 ρ0 w0 ρ fr H a w) (hd:dstsOk n (.region id ops true)=true) (hne:drawnF P callf ops fr H≠.bad) (t:Nat) :
  wpOps P ops (OutPost B G n n0 ρ0 w0 (drawnF P callf ops fr H)) (Region.schedule (P.follows .mixedOrders) ops t) a { w with drawn:=w.drawn+1 }:=by
 unfold drawnF at hne ⊢
 split at hne
 ·rename_i hok hall
  generalize hr:flatRun P callf ops (planOf ops.toList) fr H []=r at hne ⊢
  have hr0:r≠.bad:=fun e=>hne (by rw [e]; rfl)
  have key:=drawnW_ops (wOf_ok hc) (id:=id) hG s.toF hd (planW_drawn wOf_mono hok (flat_W _ (FE.refl fr) hall hr hr0)) t
  refine wpOps_monoQ ?_ _ _ _ key
  rintro e a' w' ⟨out,hq,ho⟩
  cases r with
  | norm fr1 H1 =>
   cases out with
   | norm fr2 H2 =>
    obtain ⟨rfl,g,ds,rfl,he⟩:=hq
    cases e with
    | normal=>obtain ⟨ρ',s'⟩:=ho; exact ⟨ρ',St.ofF he s'⟩
    | _=>exact ho.elim
   | _=>exact hq.elim
  | panic v fr1 H1 =>
   cases out with
   | panic v2 fr2 H2 =>
    obtain ⟨rfl,rfl,rfl⟩:=hq
    exact ho
   | _=>exact hq.elim
  | exit=>assumption
  | ret=>assumption
  | bad=>grind
 grind
theorem drawnF_sound (hc:∀ B,CallOK B G P callf) (hG:G=P.globals.size) {id:Nat} (s:St B G n n0 ρ0 w0 ρ fr H a w) (hd:dstsOk n (.region id ops true)=true) (hne:drawnF P callf ops fr H≠.bad) :
  (Code.region id ops true).wp P (OutPost B G n n0 ρ0 w0 (drawnF P callf ops fr H)) a w:=by grind [id,drawnF_ops,wp_region_draw]
/- Codes. -/
noncomputable def xRegionF (_:Nat) (ops:Array Oper) (draw:Bool) : XF:=fun P callf _ fr H=>match draw with
 | false=>seqOps P callf ops ops.toList fr H
 | true=>drawnF P callf ops fr H
noncomputable def execCF:Code→XF:=Code.rec (motive:=fun _=>XF) xSkip xRegionF xSeq xCond xBlock xLoop xRangeFunc xExit xScope xLabel xGoto xRet xRefuse
noncomputable def execF (P:Program) (callf:CallF) (loopf:LoopF) (c:Code) (fr:Fr) (H:Mem) : Out:=execCF c P callf loopf fr H
def GoodF (B G:Nat) (P:Program) (callf:CallF) (loopf:LoopF) (c:Code) : Prop :=
 ∀ (n n0:Nat) (ρ0:Rn) (w0:World) (ρ:Rn) (fr:Fr) (H:Mem) (a:Act) (w:World),dstsOk n c=true→St B G n n0 ρ0 w0 ρ fr H a w→execF P callf loopf c fr H≠.bad →
  c.wp P (OutPost B G n n0 ρ0 w0 (execF P callf loopf c fr H)) a w
theorem good_loopF {callf:CallF} {loopf:LoopF} {b:Code} (hl:LoopOK B G P loopf) (hb:GoodF B G P callf loopf b) (n n0:Nat) (ρ0:Rn) (w0:World) (ρ:Rn) (fr:Fr) (H:Mem) (a:Act) (w:World)
  (hd:dstsOk n b=true) (s:St B G n n0 ρ0 w0 ρ fr H a w) (hne:execF P callf loopf (.loop b) fr H≠.bad) : LW P b (OutPost B G n n0 ρ0 w0 (execF P callf loopf (.loop b) fr H)) a w:=by
 have he:execF P callf loopf (.loop b) fr H=thenO (execF P callf loopf b fr H) (loopf (.loop b)):=rfl
 rw [he] at hne ⊢
 have hr:execF P callf loopf b fr H≠.bad:=fun h=>hne (by rw [h]; rfl)
 refine LW.unroll (Code.wp_mono (thenO_post hne fun fr' H' ρ' a' w' hr' s' hk=>?_) (hb n n0 ρ0 w0 ρ fr H a w hd s hr))
 rw [hr']
 exact hl b n n0 ρ0 w0 ρ' fr' H' a' w' hd s' hk
theorem execF_sound {callf:CallF} {loopf:LoopF} (hcs:∀ B,CallOK B G P callf) (hl:LoopOK B G P loopf) (hG:G=P.globals.size) : ∀ c:Code,GoodF B G P callf loopf c:=by
 intro c
 have hc:=hcs B
 induction c with
 | skip=>intro n n0 ρ0 w0 ρ fr H a w hd s hne; exact wp_skip ⟨ρ,s⟩
 | region id ops draw =>
  intro n n0 ρ0 w0 ρ fr H a w hd s hne
  cases draw with
  | false =>
   refine wp_region_list (seqOps_sound hc hG hne ops.toList fr H ρ a w ?_ s rfl)
   exact fun o ho=>List.all_eq_true.1 hd o ho
  | true=>exact drawnF_sound hcs hG s hd hne
 | seq x y ihx ihy =>
  intro n n0 ρ0 w0 ρ fr H a w hd s hne
  have he:execF P callf loopf (.seq x y) fr H=thenO (execF P callf loopf x fr H) (execF P callf loopf y):=rfl
  rw [he] at hne ⊢
  simp only [dstsOk,Bool.and_eq_true] at hd
  have hr:execF P callf loopf x fr H≠.bad:=fun h=>hne (by rw [h]; rfl)
  refine wp_seq (Code.wp_mono (thenO_post hne fun fr' H' ρ' a' w' hr' s' hk=>?_) (ihx n n0 ρ0 w0 ρ fr H a w hd.1 s hr))
  rw [hr']
  exact ihy n n0 ρ0 w0 ρ' fr' H' a' w' hd.2 s' hk
 | cond cnd x y ihx ihy =>
  intro n n0 ρ0 w0 ρ fr H a w hd s hne
  have he:execF P callf loopf (.cond cnd x y) fr H=condO (fr.ev cnd) (execF P callf loopf x) (execF P callf loopf y) fr H:=rfl
  rw [he] at hne ⊢
  simp only [dstsOk,Bool.and_eq_true] at hd
  unfold condO at hne ⊢
  split at hne
  ·rename_i hev
   have:=s.ev _ _ hev
   exact wp_cond_true this (ihx n n0 ρ0 w0 ρ fr H a w hd.1 s hne)
  ·rename_i hev
   have:=s.ev _ _ hev
   exact wp_cond_false this (ihy n n0 ρ0 w0 ρ fr H a w hd.2 s hne)
  grind
 | block id b ih =>
  intro n n0 ρ0 w0 ρ fr H a w hd s hne
  have he:execF P callf loopf (.block id b) fr H=blockO id (execF P callf loopf b fr H):=rfl
  rw [he] at hne ⊢
  have hr:execF P callf loopf b fr H≠.bad:=fun h=>hne (by rw [h]; rfl)
  refine wp_block (Code.wp_mono ?_ (ih n n0 ρ0 w0 ρ fr H a w hd s hr))
  intro e a' w' h
  generalize execF P callf loopf b fr H=r at h hne ⊢
  cases r with
  | norm fr' H'=>cases e <;> first | exact h.elim | exact h
  | exit id' fr' H' =>
   cases e with
   | exit id2 =>
    obtain ⟨rfl,ρ',s'⟩:=h
    unfold blockO
    dsimp only
    split
    ·rename_i hb
     have:=Nat.eq_of_beq_eq_true hb
     subst this
     simp only [Exit.inBlock,if_true]
     exact ⟨ρ',s'⟩
    ·rename_i hb
     have hne2:id2≠id:=by intro h0; simp_all
     simp only [Exit.inBlock,hne2,if_false]
     exact ⟨rfl,ρ',s'⟩
   | _=>exact h.elim
  | ret fr' H'=>cases e <;> first | exact h.elim | exact h
  | panic v fr' H'=>cases e <;> first | exact h.elim | exact h
  | bad=>exact absurd rfl hne
 | loop b ih =>
  intro n n0 ρ0 w0 ρ fr H a w hd s hne
  exact (good_loopF hl ih n n0 ρ0 w0 ρ fr H a w hd s hne).wp
 | rangeFunc f ps x y ihx ihy=>intro n n0 ρ0 w0 ρ fr H a w hd s hne; exact absurd rfl hne
 | exit id=>intro n n0 ρ0 w0 ρ fr H a w hd s hne; exact wp_exit ⟨rfl,ρ,s⟩
 | scope b ih=>intro n n0 ρ0 w0 ρ fr H a w hd s hne; exact absurd rfl hne
 | label l=>intro n n0 ρ0 w0 ρ fr H a w hd s hne; exact wp_label ⟨ρ,s⟩
 | goto l=>intro n n0 ρ0 w0 ρ fr H a w hd s hne; exact absurd rfl hne
 | ret=>intro n n0 ρ0 w0 ρ fr H a w hd s hne; exact wp_ret ⟨ρ,s⟩
 | refuse why=>intro n n0 ρ0 w0 ρ fr H a w hd s hne; exact absurd rfl hne
noncomputable def enterQB (P:Program) (callf:CallF) (loopf:LoopF) (fn:Func) (c:Code) (args:List AV) (H:Mem) : COut :=
 match dstsOk fn.ntmps c,Nat.ble (len args) fn.ntmps with
 | true,true=>finish P callf loopf fn (putArgsK args (frame0 fn.ntmps) fun fr=>execF P callf loopf c fr H)
 | _,_=>.bad
noncomputable def enterQ (P:Program) (callf:CallF) (loopf:LoopF) (f:FuncId) (args:List AV) (H:Mem) : COut :=
 match P.funcs[f]? with
 | some fn=>match fn.body with
  | some c=>enterQB P callf loopf fn c args H
  | none=>.bad
 | none=>.bad
theorem enterQ_sound {callf:CallF} {loopf:LoopF} (hcs:∀ B,CallOK B G P callf) (hl:LoopOK B G P loopf) (hG:G=P.globals.size) : CallOK B G P (enterQ P callf loopf):=by
 have hc:=hcs B
 intro f args H hne ρ us w hs hv
 unfold enterQ at hne ⊢
 split at hne
 ·rename_i fn hfn
  split at hne
  ·rename_i c hb
   unfold enterQB at hne ⊢
   split at hne
   ·rename_i hdst hlen
    rw [putArgsK_eq] at hne ⊢
    have hfe:=frame_entered (n:=fn.ntmps) hv (by simp_all [len_eq])
    have s1:St B G fn.ntmps H.next ρ w ρ (putArgs args (frame0 fn.ntmps) 0) H { tmps:=us++Array.replicate (fn.ntmps - us.size) undef,defers:=[] } w:=⟨Ext.refl _ _ _ _,hs,hfe,Nat.le_refl _⟩
    have hr:execF P callf loopf c (putArgs args (frame0 fn.ntmps) 0) H≠.bad:=fun h0=>hne (by rw [h0]; rfl)
    have key:=execF_sound hcs hl hG c fn.ntmps H.next ρ w ρ _ H _ w hdst s1 hr
    refine calls_of_wp_defers hfn hb (Code.wp_mono ?_ key)
    intro e a' w' h
    generalize execF P callf loopf c (putArgs args (frame0 fn.ntmps) 0) H=r at h hne ⊢
    cases r with
    | norm fr' H' =>
     cases e with
     | normal=>obtain ⟨ρ',s'⟩:=h; exact leave_sound hc hl hG hne _ _ .returning H' ρ' .returning w' s'.frel.dfr s' rfl rfl
     | _=>exact h.elim
    | ret fr' H' =>
     cases e with
     | ret=>obtain ⟨ρ',s'⟩:=h; exact leave_sound hc hl hG hne _ _ .returning H' ρ' .returning w' s'.frel.dfr s' rfl rfl
     | _=>exact h.elim
    | panic v fr' H' =>
     cases e with
     | panic chain=>obtain ⟨ρ',x,rfl,hx,s'⟩:=h; exact leave_sound hc hl hG hne _ _ (.panicking v) H' ρ' _ w' s'.frel.dfr s' ⟨x,rfl,hx⟩ rfl
     | _=>exact h.elim
    | exit id fr' H'=>exact absurd rfl hne
    | bad=>exact absurd rfl hne
   grind
  grind
 grind
end Go.Ai
end
