/- A small verified interpreter over names, its proofs, and what was proved with it. No condition. -/
import Derived.Lib.Builder
import Derived.Laws.Externs
import Derived.RangeFuncRecord
import Derived.RangeFuncIn
import Derived.TacticsIn
import Derived.Test.YtpimmmnkcgnjjaaGreatP05
import Derived.Test.YtpimmmnkcgnjjaaGreatP04
import Derived.Test.YtpimmmnkcgnjjaaGreatP02
set_option linter.all false
set_option linter.deprecated false
section
namespace Go.Ai
set_option maxRecDepth 10000
theorem Row.ext {g g' : Nat→Option Blk} {a off:Nat} {cs:List AV} (hr:Row g a off cs) (h:∀ x,g a=some x→g' a=some x) : Row g' a off cs :=
 let ⟨l,own,z,h1,h2,h3⟩:=hr; ⟨l,own,z,h _ h1,h2,h3⟩
theorem SliceV.ext {g g' : Nat→Option Blk} {b b' len:Nat} {sv:AV} {cs:List AV} (hb:b≤b') (h:∀ a x,a < b→g a=some x→g' a=some x) : SliceV g b sv len cs→SliceV g' b' sv len cs :=
 fun hs=>hs.imp id fun ⟨a,off,h1,h2,h3⟩=>⟨a,off,by omega,h2,h3.ext fun x hx=>h a x h1 hx⟩
theorem SliceV.one {g:Nat→Option Blk} {b len:Nat} {sv:AV} {cs:List AV} : SliceV g b sv len cs→oneC sv=true:=by
 rintro (⟨_,_,rfl | rfl⟩ | ⟨a,off,_,⟨c,rfl⟩ | ⟨c,rfl⟩,_⟩) <;> rfl
def SliceA (g:Nat→Option Blk) (b:Nat) (sv:AV) (len:Nat) (cs:List AV) : Prop :=
 (len=0∧(sv=.lit (.slice none 0 0)∨sv=.es))∨∃ a off c,a < b∧sv=.sl a off len c∧Row g a off cs
theorem SliceA.mono {g g' : Nat→Option Blk} {b b' len:Nat} {sv:AV} {cs:List AV} (hb:b≤b') (h:∀ a,a < b→g' a=g a) : SliceA g b sv len cs→SliceA g' b' sv len cs :=
 fun hs=>hs.imp id fun ⟨a,off,c,h1,h2,h3⟩=>⟨a,off,c,by omega,h2,h3.mono (h a h1)⟩
theorem SliceA.one {g:Nat→Option Blk} {b len:Nat} {sv:AV} {cs:List AV} : SliceA g b sv len cs→oneC sv=true:=by
 rintro (⟨_,rfl | rfl⟩ | ⟨a,off,c,_,rfl,_⟩) <;> rfl
def rowC (r:List (Int×Int)) : List AV:=r.flatMap fun e=>[.lit (.int .i64 e.1),.lit (.int .i64 e.2)]
theorem rowC_len:∀ (r:List (Int×Int)),(rowC r).length=r.length * 2
 | []=>rfl
 | e :: r=>by
  have:=rowC_len r
  unfold rowC at this ⊢
  rw [List.flatMap_cons,List.length_append,this,List.length_cons]
  simp
  omega
theorem rowC_snoc (r:List (Int×Int)) (e:Int×Int) : rowC (r++[e])=rowC r++[.lit (.int .i64 e.1),.lit (.int .i64 e.2)]:=by
 unfold rowC
 rw [List.flatMap_append]
 simp
theorem rowC_at:∀ (r:List (Int×Int)) (k:Nat) (h:k < r.length),((rowC r).drop (k * 2)).take 2=[.lit (.int .i64 r[k].1),.lit (.int .i64 r[k].2)]
 | e :: r,0,_=>rfl
 | e :: r,k+1,h=>by
  have:=rowC_at r k (by simpa using h)
  have e1:rowC (e :: r)=[.lit (.int .i64 e.1),.lit (.int .i64 e.2)]++rowC r:=rfl
  rw [e1,show (k+1) * 2=2+k * 2 by omega,← List.drop_drop]
  exact this
def RowsE (g:Nat→Option Blk) (b:Nat) : List (List (Int×Int))→List AV→Prop
 | [],cs=>cs=[]
 | r :: l,cs=>∃ c t,cs=c :: t∧SliceV g b c r.length (rowC r)∧RowsE g b l t
theorem RowsE.ext {g g' : Nat→Option Blk} {b b' : Nat} (hb:b≤b') (h:∀ a x,a < b→g a=some x→g' a=some x) : ∀ {l:List (List (Int×Int))} {cs:List AV},RowsE g b l cs→RowsE g' b' l cs
 | [],_,h0=>h0
 | _ :: _,_,⟨c,t,h1,h2,h3⟩=>⟨c,t,h1,h2.ext hb h,h3.ext hb h⟩
theorem RowsE.len {g:Nat→Option Blk} {b:Nat} : ∀ {l:List (List (Int×Int))} {cs:List AV},RowsE g b l cs→cs.length=l.length
 | [],cs,h=>by have h' : cs=[]:=h; rw [h']; rfl
 | r :: l,cs,⟨c,t,h1,h2,h3⟩=>by rw [h1,List.length_cons,List.length_cons,h3.len]
theorem RowsE.at {g:Nat→Option Blk} {b:Nat} : ∀ {l:List (List (Int×Int))} {cs:List AV},RowsE g b l cs→∀ (k:Nat) (h:k < l.length) (h' : k < cs.length),SliceV g b cs[k] l[k].length (rowC l[k])
 | r :: l,cs,⟨c,t,h1,h2,h3⟩,0,h,h'=>by subst h1; exact h2
 | r :: l,cs,⟨c,t,h1,h2,h3⟩,k+1,h,h'=>by subst h1; exact h3.at k (by simpa using h) (by simpa using h')
theorem RowsE.snoc {g:Nat→Option Blk} {b:Nat} {r:List (Int×Int)} {c:AV} (hr:SliceV g b c r.length (rowC r)) : ∀ {l:List (List (Int×Int))} {cs:List AV},RowsE g b l cs→RowsE g b (l++[r]) (cs++[c])
 | [],cs,h=>by have h' : cs=[]:=h; subst h'; exact ⟨c,[],rfl,hr,rfl⟩
 | _ :: _,_,⟨d,t,h1,h2,h3⟩=>⟨d,t++[c],by rw [h1]; rfl,h2,h3.snoc hr⟩
def RepM (g:Nat→Option Blk) (b:Nat) (M:MachM) (cs:List AV) : Prop :=
 ∃ sv svs,cs=[.lit (.int .i64 M.inp),.lit (.int .i64 M.out),sv]∧RowsE g b M.rows svs∧SliceV g b sv M.rows.length svs
theorem RepM.ext {g g' : Nat→Option Blk} {b b' : Nat} (hb:b≤b') (h:∀ a x,a < b→g a=some x→g' a=some x) {M:MachM} {cs:List AV} : RepM g b M cs→RepM g' b' M cs :=
 fun ⟨sv,svs,h1,h2,h3⟩=>⟨sv,svs,h1,h2.ext hb h,h3.ext hb h⟩
theorem RepM.mono {g g' : Nat→Option Blk} {b b' : Nat} (hb:b≤b') (h:∀ a,a < b→g' a=g a) {M:MachM} {cs:List AV} (hr:RepM g b M cs) : RepM g' b' M cs:=hr.ext hb fun a x ha hx=>(h a ha).trans hx
theorem RepM.one {g:Nat→Option Blk} {b:Nat} {M:MachM} {cs:List AV} (h:RepM g b M cs) : ∃ sv,cs=[.lit (.int .i64 M.inp),.lit (.int .i64 M.out),sv]∧oneC sv=true :=
 let ⟨sv,_,h1,_,h3⟩:=h; ⟨sv,h1,h3.one⟩
def FreshM (g:Nat→Option Blk) (n n' : Nat) (M:MachM) (cs:List AV) : Prop:=∃ gk:Nat→Option Blk,(∀ a z,gk a=some z→g a=some z∧n≤a∧a < n')∧RepM gk n' M cs
theorem FreshM.keep {g g' : Nat→Option Blk} {n0 n n' n2:Nat} {M:MachM} {cs:List AV} (h:FreshM g n n' M cs) (h0:n0≤n) (h2:n'≤n2) (hg:∀ a,n≤a→a < n'→g' a=g a) : FreshM g' n0 n2 M cs:=by
 obtain ⟨gk,h1,h3⟩:=h
 refine ⟨gk,fun a z hz=>?_,h3.ext h2 fun a z _ hz=>hz⟩
 obtain ⟨e1,e2,e3⟩:=h1 a z hz
 exact ⟨(hg a e2 e3).trans e1,by omega,by omega⟩
theorem FreshM.rep {g:Nat→Option Blk} {n n' : Nat} {M:MachM} {cs:List AV} (h:FreshM g n n' M cs) : RepM g n' M cs :=
 let ⟨_,h1,h3⟩:=h; h3.ext (Nat.le_refl _) fun a z _ hz=>(h1 a z hz).1
def GrowV (g:Nat→Option Blk) (lo n' B:Nat) (sv:AV) (len sz:Nat) (cs:List AV) : Prop :=
 (len=0∧cs=[]∧sv=.lit (.slice none 0 0))∨(0 < len∧sv=.slq B 0 len 0∧lo≤B∧B < n'∧g B=some (.cells cs true sz)∧cs.length=len * sz)
theorem GrowV.keep {g g' : Nat→Option Blk} {lo n' n2 B len sz:Nat} {sv:AV} {cs:List AV} (h:GrowV g lo n' B sv len sz cs) (hn:n'≤n2) (hg:lo≤B→B < n'→g' B=g B) : GrowV g' lo n2 B sv len sz cs :=
 h.imp id fun ⟨h0,h1,h2,h3,h4,h5⟩=>⟨h0,h1,h2,by omega,(hg h2 h3).trans h4,h5⟩
theorem GrowV.mk {g:Nat→Option Blk} {lo n' B len sz:Nat} {cs:List AV} (h:g B=some (.cells cs true sz)) (h1:lo≤B) (h2:B < n') (h3:cs.length=(len+1) * sz) : GrowV g lo n' B (.slq B 0 (len+1) 0) (len+1) sz cs :=
 .inr ⟨by omega,rfl,h1,h2,h,h3⟩
theorem GrowV.one {g:Nat→Option Blk} {lo n' B len sz:Nat} {sv:AV} {cs:List AV} : GrowV g lo n' B sv len sz cs→oneC sv=true:=by
 rintro (⟨_,_,rfl⟩ | ⟨_,rfl,_⟩) <;> rfl
theorem GrowV.slice {g:Nat→Option Blk} {lo n' B len sz:Nat} {sv:AV} {cs:List AV} (h:GrowV g lo n' B sv len sz cs) : SliceV (fun a=>if a=B∧lo≤B∧B < n' then g a else none) n' sv len cs:=by
 rcases h with ⟨h1,h2,h3⟩ | ⟨h0,h1,h2,h3,h4,h5⟩
 ·exact .inl ⟨h1,h2,.inl h3⟩
 ·exact .inr ⟨B,0,h3,.inr ⟨0,h1⟩,cs,true,sz,(if_pos ⟨rfl,h2,h3⟩).trans h4,by simp,by simp⟩
def edgeM (part:Bool) (n O v:Nat) : Int×Int:=if part=true∧v % 4=3 then (-1,-1) else (((v / 4 % n:Nat) : Int),((v / 4 / n % O:Nat) : Int))
def rowM (part:Bool) (es:List Nat) (n I O s:Nat) : List (Int×Int):=(List.range I).map fun i=>edgeM part n O (es.getD (s * I+i) 0)
def machOf (st inp out:Nat) (part:Bool) (es:List Nat) : MachM :=
 ⟨1+((inp % 3:Nat) : Int),1+((out % 3:Nat) : Int),(List.range (1+st % 6)).map (rowM part es (1+st % 6) (1+inp % 3) (1+out % 3))⟩
theorem machOf_ok (st inp out:Nat) (part:Bool) (es:List Nat) : (machOf st inp out part es).ok:=by
 have h1:=Nat.mod_lt inp (show 0 < 3 by omega)
 have h2:=Nat.mod_lt out (show 0 < 3 by omega)
 have h3:=Nat.mod_lt st (show 0 < 6 by omega)
 refine ⟨?_,?_,?_,?_,?_,?_,?_⟩
 ·show (1:Int)≤1+((inp % 3:Nat) : Int); omega
 ·show 1+((inp % 3:Nat) : Int)≤16; omega
 ·show (1:Int)≤1+((out % 3:Nat) : Int); omega
 ·show 1+((out % 3:Nat) : Int)≤16; omega
 ·show 1≤((List.range (1+st % 6)).map _).length; simp
 ·show ((List.range (1+st % 6)).map _).length≤64; simp; omega
 ·intro r hr
  have hr' : r∈(List.range (1+st % 6)).map (rowM part es (1+st % 6) (1+inp % 3) (1+out % 3)):=hr
  obtain ⟨s,hs,rfl⟩:=List.mem_map.1 hr'
  refine ⟨?_,fun e he=>?_⟩
  ·show ((((List.range (1+inp % 3)).map _).length:Nat) : Int)=1+((inp % 3:Nat) : Int)
   rw [List.length_map,List.length_range]; omega
  ·obtain ⟨i,hi,rfl⟩:=List.mem_map.1 he
   have hl:(machOf st inp out part es).rows.length=1+st % 6:=by show ((List.range (1+st % 6)).map _).length=_; simp
   rw [hl]
   show edgeOK (1+st % 6) (1+((out % 3:Nat) : Int)) _=true
   generalize es.getD (s * (1+inp % 3)+i) 0=v
   unfold edgeM
   split
   ·rfl
   ·have e1:=Nat.mod_lt (v / 4) (show 0 < 1+st % 6 by omega)
    have e2:=Nat.mod_lt (v / 4 / (1+st % 6)) (show 0 < 1+out % 3 by omega)
    simp only [edgeOK,Bool.or_eq_true,Bool.and_eq_true,decide_eq_true_eq]
    refine .inr ⟨by omega,by omega,by omega,by omega⟩
end Go.Ai
end
section
namespace Go.Ai
def wdC (w:List Int) : List AV:=w.map fun i=>.lit (.int .i64 i)
theorem wdC_len (w:List Int) : (wdC w).length=w.length:=by simp [wdC]
theorem wdC_at (w:List Int) (k:Nat) (h:k < w.length) : (wdC w)[k]?=some (.lit (.int .i64 w[k])):=by simp [wdC,h]
theorem wdC_one:∀ (w:List Int),allOne (wdC w)=true
 | []=>rfl
 | i :: w=>wdC_one w
def RepW (g:Nat→Option Blk) (n:Nat) (w:List Int) (sv:AV) : Prop:=SliceV g n sv w.length (wdC w)
theorem lenV {P:Program} {g:Nat→Option Blk} {b len:Nat} {sv:AV} {cs:List AV} (h:SliceV g b sv len cs) : ∀ {H:Mem} {ev:Ev} {o:Oper} {c:Call} {e:TypeId},lenS P H ev o c (some (.slice e)) (some [sv])=.val (.lit (.int .i64 len)) H:=by
 intro H ev o c e
 rcases h with ⟨rfl,_,rfl | rfl⟩ | ⟨a,off,_,⟨c',rfl⟩ | ⟨c',rfl⟩,_⟩ <;> rfl
theorem SliceV.ia {P:Program} {g:Nat→Option Blk} {b len:Nat} {sv:AV} {cs:List AV} (h:SliceV g b sv len cs) {k:Nat} (hk:k < len) (sz:Nat) :
  ∃ a off,a < b∧Row g a off cs∧∀ {H:Mem} {ev:Ev} {o:Oper} {t:TypeId},iaS P H ev o t (some (none,sz)) (some sv) (some (.lit (.int .i64 (k:Int))))=.val (.ptr a (off+k * sz)) H:=by
 rcases h with ⟨h1,_⟩ | ⟨a,off,ha,⟨c,rfl⟩ | ⟨c,rfl⟩,hrow⟩
 ·omega
 ·refine ⟨a,off,ha,hrow,?_⟩
  intro H ev o t
  rw [iaS_sl (by omega) (by omega)]
  simp
 ·refine ⟨a,off,ha,hrow,?_⟩
  intro H ev o t
  rw [iaS_slq (by omega) (by omega)]
  simp
def RowsW (g:Nat→Option Blk) (n:Nat) (l:List (List Int)) (svs:List AV) : Prop:=svs.length=l.length∧∀ (k:Nat) (h:k < l.length),∃ sv,svs[k]?=some sv∧RepW g n l[k] sv
theorem RowsW.ext {g g' : Nat→Option Blk} {b b' : Nat} {l:List (List Int)} {svs:List AV} (h:RowsW g b l svs) (hb:b≤b') (hg:∀ a x,a < b→g a=some x→g' a=some x) : RowsW g' b' l svs :=
 ⟨h.1,fun k hk=>let ⟨sv,h1,h2⟩:=h.2 k hk; ⟨sv,h1,SliceV.ext hb hg h2⟩⟩
def longM:List (List Int)→Nat
 | []=>0
 | w :: l=>max w.length (longM l)
theorem longM_snoc:∀ (l:List (List Int)) (w:List Int),longM (l++[w])=max (longM l) w.length
 | [],w=>by simp [longM]
 | x :: l,w=>by simp only [List.cons_append,longM,longM_snoc l w,Nat.max_assoc]
theorem le_longM:∀ {l:List (List Int)} {w:List Int},w∈l→w.length≤longM l
 | x :: l,w,h=>by
  unfold longM
  rcases List.mem_cons.1 h with rfl | h
  ·omega
  ·have:=le_longM h; omega
theorem longM_le {l:List (List Int)} {m:Nat} (h:∀ w∈l,w.length≤m) : longM l≤m:=by
 induction l with
 | nil=>exact Nat.zero_le _
 | cons x l ih =>
  unfold longM
  have h1:=h x (by simp)
  have h2:=ih fun w hw=>h w (by simp [hw])
  omega
end Go.Ai
end
section
namespace Go.Ai
open Go.RowKit (Below)
variable {B G:Nat} {P:Program} {n n0:Nat} {ρ0 ρ:Rn} {w0 w:World} {fr:Fr} {H:Mem} {a:Act} {W:WF}
end Go.Ai
end
section
namespace Go.Ai
section
variable {P:Program} {W:WF} {Q:Out→Prop} {fr:Fr} {H:Mem} {ev:Ev} {d:Option Tmp} {ty:TypeId} {p:String} {af:Array Edge} {g:Option (Nat×Bool)}
end
end Go.Ai
end
section
namespace Go.Ai
section
variable {P:Program} {H:Mem} {ev:Ev} {d:Option Tmp} {ty:TypeId} {p:String} {af:Array Edge} {g:Option (Nat×Bool)}
noncomputable def mkI (P:Program) (t:TypeId) : Option AV:=match elemOfSlice P t with
 | some (e,size,bytes)=>if size=1∧bytes≤1048576 then (match zeroL P e with | some [v]=>some v | _=>none) else none
 | none=>none
noncomputable def mksS (P:Program) (H:Mem) (t:TypeId) (q:Option AV) (x y:Option AV) : R:=match q,x,y with
 | some v,some (.lit (.int .i64 a)),some (.lit (.int .i64 b))=>if a=b∧0≤a∧a≤1048576 then .val (.sl H.next 0 a.toNat a.toNat) (H.add (.cells (List.replicate a.toNat v) true 0)) else oMakeSlice P H t x y
 | _,_,_=>oMakeSlice P H t x y
theorem rep_one (v:AV) : ∀ n,rep [v] n=List.replicate n v
 | 0=>rfl
 | n+1=>by rw [rep_succ,rep_one v n]; rfl
theorem mkI_inv {t:TypeId} {v:AV} (h:mkI P t=some v) : ∃ e bytes,elemOfSlice P t=some (e,1,bytes)∧bytes≤1048576∧zeroL P e=some [v]:=by
 unfold mkI at h
 split at h
 ·rename_i e size bytes he
  split at h
  ·rename_i hc
   obtain ⟨rfl,hb⟩:=hc
   split at h
   ·rename_i u hz; cases h; exact ⟨e,bytes,he,hb,hz⟩
   ·cases h
  ·cases h
 ·cases h
theorem op_mks {t:TypeId} {l c:Operand} : opV P H ev ⟨d,.makeSlice t l c,ty,p,af,g⟩=mksS P H t (mkI P t) (ev l) (ev c):=by
 show oMakeSlice P H t (ev l) (ev c)=_
 unfold mksS
 split
 ·rename_i v a b hq hx hy
  split
  ·rename_i h
   obtain ⟨rfl,h0,h1⟩:=h
   obtain ⟨e,bytes,h2,h3,h4⟩:=mkI_inv hq
   rw [hx,hy]
   unfold oMakeSlice
   rw [h2]
   simp only [Option.bind_some,natOf_int h0]
   have hc:(Nat.ble a.toNat a.toNat && Nat.ble a.toNat 1048576 && Nat.ble bytes 1048576)=true:=by
    rw [Nat.ble_eq_true_of_le (Nat.le_refl _),Nat.ble_eq_true_of_le (show a.toNat≤1048576 by omega),Nat.ble_eq_true_of_le h3]; rfl
   rw [hc]
   by_cases hz:a.toNat=0
   ·have e1:zeroFor P e (a.toNat * 1)=some []:=by unfold zeroFor; rw [hz]; try rfl
    rw [e1]
    dsimp only
    rw [hz]
    show newBlk H [] true _=_
    simp [newBlk,Mem.newK_eq]
   ·have e1:zeroFor P e (a.toNat * 1)=some [v]:=by
     unfold zeroFor
     have:Nat.beq (a.toNat * 1) 0=false:=by
      cases hb:Nat.beq (a.toNat * 1) 0 with
      | false=>rfl
      | true=>have:=Nat.eq_of_beq_eq_true hb; omega
     rw [this]; exact h4
    rw [e1]
    dsimp only
    rw [rep_one]
    simp [newBlk,Mem.newK_eq]
  ·rw [hx,hy]
 ·rfl
theorem mksS_congr {tk:Nat} (_h0:tick=tk) {t:TypeId} {q q' : Option AV} {x x' y y' : Option AV} {H H' : Mem} (h0:q=q') (h1:H=H') (h2:x=x') (h3:y=y') : mksS P H t q x y=mksS P H' t q' x' y':=by rw [h0,h1,h2,h3]
attribute [congr] mksS_congr
theorem mksS_ok {t:TypeId} {v:AV} {a:Int} (h0:0≤a) (h1:a≤1048576) : mksS P H t (some v) (some (.lit (.int .i64 a))) (some (.lit (.int .i64 a)))=.val (.sl H.next 0 a.toNat a.toNat) (H.add (.cells (List.replicate a.toNat v) true 0)):=if_pos ⟨rfl,h0,h1⟩
attribute [simp] op_mks mksS_ok
end
section
variable {H:Mem}
end
end Go.Ai
end
section
namespace Go.Ai
section
variable {P:Program} {H:Mem} {ev:Ev} {d:Option Tmp} {ty:TypeId} {p:String} {af:Array Edge} {g:Option (Nat×Bool)}
noncomputable def capS (P:Program) (H:Mem) (ev:Ev) (o:Oper) (q:Option TypeDesc) (x:Option AV) : R:=match x,q with
 | some (.sl _ _ _ n),some (.slice _)=>.val (.lit (.int .i64 n)) H
 | some (.lit (.slice none _ n)),some (.slice _)=>.val (.lit (.int .i64 n)) H
 | _,_=>opV P H ev o
theorem op_cap {x:Operand} {t:TypeId} : opV P H ev ⟨d,.call ⟨.builtin .cap,#[x],#[t]⟩,ty,p,af,g⟩=capS P H ev ⟨d,.call ⟨.builtin .cap,#[x],#[t]⟩,ty,p,af,g⟩ (P.underlying t) (ev x):=by
 unfold capS
 split
 ·rename_i a off n k e hx hq
  show callOp P H ev ⟨d,.call ⟨.builtin .cap,#[x],#[t]⟩,ty,p,af,g⟩ ⟨.builtin .cap,#[x],#[t]⟩=_
  have e1:evals ev [x]=some [.sl a off n k]:=by rw [evals,hx]; rfl
  have hg:generic P ev ⟨d,.call ⟨.builtin .cap,#[x],#[t]⟩,ty,p,af,g⟩=none:=by
   unfold generic
   have h1:(Op.operands (.call ⟨.builtin .cap,#[x],#[t]⟩)).toList=[x]:=by simp [Op.operands,Call.operands]
   dsimp only
   rw [h1]
   have l1:toLit (.sl a off n k)=none:=rfl
   simp only [List.all_cons,List.all_nil,hx,l1,Bool.false_and,if_false]
   simp
  unfold callOp
  rw [show (#[x] : Array Operand).toList=[x] from rfl,e1]
  dsimp only
  unfold oBuiltin oCap
  dsimp only
  rw [hg]
  have e2:((⟨.builtin .cap,#[x],#[t]⟩ : Call).argTypes[0]?).bind P.underlying=P.underlying t:=rfl
  dsimp only
  rw [e2,hq]
  rfl
 ·rename_i m n e hx hq
  show callOp P H ev ⟨d,.call ⟨.builtin .cap,#[x],#[t]⟩,ty,p,af,g⟩ ⟨.builtin .cap,#[x],#[t]⟩=_
  have e1:evals ev [x]=some [.lit (.slice none m n)]:=by rw [evals,hx]; rfl
  have hg:generic P ev ⟨d,.call ⟨.builtin .cap,#[x],#[t]⟩,ty,p,af,g⟩=some (.lit (.int .i64 n)):=by
   refine generic1 (u:=.slice none m n) (r:=.int .i64 n) (by simp [Op.operands,Call.operands]) hx fun ρ hρ=>?_
   rw [exec_builtin (b:=.cap) (c:=⟨.builtin .cap,#[x],#[t]⟩) rfl rfl]
   have ea:(#[x] : Array Operand).map ρ=#[ρ x]:=by simp
   rw [ea]
   have hcap:pureV P (Builtin.cap_ #[t] ty #[ρ x])=some (goInt n):=by
    rw [hρ]
    refine (pureV_then (m:=underlying t) (a:=TypeDesc.slice e) (pureV_underlying hq)).trans ?_
    rfl
   show pureV P (do pure (Next.value (← Builtin.cap_ #[t] ty #[ρ x])))=_
   exact (pureV_then hcap).trans rfl
  unfold callOp
  rw [show (#[x] : Array Operand).toList=[x] from rfl,e1]
  dsimp only
  unfold oBuiltin oCap
  dsimp only
  rw [hg]
 ·rfl
theorem capS_congr {tk:Nat} (_h0:tick=tk) {o:Oper} {q q' : Option TypeDesc} {x x' : Option AV} {H H' : Mem} (h1:H=H') (h2:q=q') (h3:x=x') : capS P H ev o q x=capS P H' ev o q' x':=by rw [h1,h2,h3]
attribute [congr] capS_congr
theorem capS_sl {o:Oper} {e:TypeId} {a off n k:Nat} : capS P H ev o (some (.slice e)) (some (.sl a off n k))=.val (.lit (.int .i64 k)) H:=(rfl)
theorem capS_nil {o:Oper} {e:TypeId} {n k:Nat} : capS P H ev o (some (.slice e)) (some (.lit (.slice none n k)))=.val (.lit (.int .i64 k)) H:=(rfl)
attribute [simp] op_cap capS_sl capS_nil
end
end Go.Ai
end
section
namespace Go.Ai
variable {P:Program} {H:Mem}
section
variable {ev:Ev} {d:Option Tmp} {ty:TypeId} {p:String} {af:Array Edge} {g:Option (Nat×Bool)}
end
end Go.Ai
end
section
namespace Go.Ai
section
variable {P:Program} {H:Mem} {ev:Ev} {d:Option Tmp} {ty:TypeId} {p:String} {af:Array Edge} {g:Option (Nat×Bool)}
theorem op_slice_hm {t:TypeId} {x hi mx:Operand} : opV P H ev ⟨d,.slice t x none (some hi) (some mx),ty,p,af,g⟩=ex3 P H ev ⟨d,.slice t x none (some hi) (some mx),ty,p,af,g⟩ x hi mx (ev x) (ev hi) (ev mx) rfl rfl rfl:=(rfl)
theorem bounds_hm {i:Int} {n:Nat} {k:IntKind} (h1:i=n) : bounds none (some (.lit (.int k i))) (some (.lit (.int k i))) n n=some (0,n,n):=by
 unfold bounds natOr
 dsimp only
 rw [natOf_int (by omega),h1]
 simp only [okMx,Int.toNat_natCast,Nat.ble_eq_true_of_le (Nat.le_refl n),Nat.ble_eq_true_of_le (Nat.zero_le _),Bool.and_true]
theorem bounds_hm' {i:Int} {n c:Nat} {k:IntKind} (h1:i=n) (h2:n≤c) : bounds none (some (.lit (.int k i))) (some (.lit (.int k i))) n c=some (0,n,n):=by
 unfold bounds natOr
 dsimp only
 rw [natOf_int (by omega),h1]
 simp only [okMx,Int.toNat_natCast,Nat.ble_eq_true_of_le (Nat.le_refl n),Nat.ble_eq_true_of_le h2,Nat.ble_eq_true_of_le (Nat.zero_le _),Bool.and_true]
theorem slice_slq_hm {t:TypeId} {x hi mx:Operand} {a off n c:Nat} {k:IntKind} {i:Int} {hx:ev x=some (.slq a off n c)} {hh:ev hi=some (.lit (.int k i))} {hm:ev mx=some (.lit (.int k i))} (he:(elSz P t).map (·.1)=some none) (h1:i=n) (h2:0 < n) :
  ex3 P H ev ⟨d,.slice t x none (some hi) (some mx),ty,p,af,g⟩ x hi mx (some (.slq a off n c)) (some (.lit (.int k i))) (some (.lit (.int k i))) hx hh hm=.val (.sl a off n n) H:=by
 show opV P H ev _=_
 show oSlice P H ev _ t (ev x) none (some hi) (some mx)=_
 unfold oSlice
 rw [generic_none (x:=x) (by simp [Op.operands]) (fun v' h=>by rw [hx] at h; cases h; rfl),hx]
 obtain ⟨q,hq,hq2⟩:=Option.map_eq_some_iff.1 he
 obtain ⟨q1,q2⟩:=q
 dsimp only at hq2
 subst hq2
 obtain ⟨e,i',h3,h4,h5⟩:=elSz_inv hq
 dsimp only
 unfold oSliceN evOpt
 dsimp only
 rw [hh,hm]
 dsimp only
 rw [sliceOp_slice h3 h4]
 unfold sliceN
 dsimp only
 rw [bounds_hm h1]
 unfold sliceSl
 have hb:Nat.beq n 0=false:=by
  cases hb:Nat.beq n 0 with
  | false=>rfl
  | true=>have:=Nat.eq_of_beq_eq_true hb; omega
 dsimp only
 rw [hb]
 simp [natK_eq,ofOpt]
theorem slice_nil_hm {t:TypeId} {x hi mx:Operand} {hx:ev x=some (.lit (.slice none 0 0))} {hh:ev hi=some (.lit (.int .i64 0))} {hm:ev mx=some (.lit (.int .i64 0))} (he:(elSz P t).map (·.1)=some none) :
  ex3 P H ev ⟨d,.slice t x none (some hi) (some mx),ty,p,af,g⟩ x hi mx (some (.lit (.slice none 0 0))) (some (.lit (.int .i64 0))) (some (.lit (.int .i64 0))) hx hh hm=.val (.lit (.slice none 0 0)) H:=by
 show opV P H ev _=_
 show oSlice P H ev _ t (ev x) none (some hi) (some mx)=_
 unfold oSlice
 rw [generic3 (r:=.slice none 0 0) (x:=x) (y:=hi) (z:=mx) (by simp [Op.operands]) hx hh hm fun ρ e1 e2 e3=>?_]
 show pureV P (do pure (Next.value (← Instr.sliceAt t (ρ x) none (some (ρ hi)) (some (ρ mx)))))=_
 rw [e1,e2,e3]
 obtain ⟨q,hq,hq2⟩:=Option.map_eq_some_iff.1 he
 obtain ⟨q1,q2⟩:=q
 dsimp only at hq2
 subst hq2
 obtain ⟨e,i,ht,hi',h5⟩:=elSz_inv hq
 have key:pureV P (Instr.slice t (.slice none 0 0) none (some (.int .i64 0)) (some (.int .i64 0)))=some (.slice none 0 0):=by
  unfold Instr.slice
  refine (pureV_then (m:=underlying t) (a:=TypeDesc.slice e) (pureV_underlying ht)).trans ?_
  dsimp only
  refine (pureV_then (a:=(0,0,0)) ?_).trans ?_
  ·rfl
  ·refine (pureV_then (m:=sizeOf e) (a:=i.size) ?_).trans ?_
   ·exact (pureV_then (pureV_info hi')).trans rfl
   ·rfl
 have key2:pureV P (Instr.sliceAt t (.slice none 0 0) none (some (.int .i64 0)) (some (.int .i64 0)))=some (.slice none 0 0):=by
  unfold Instr.sliceAt
  refine (pureV_then (m:=underlying t) (a:=TypeDesc.slice e) (pureV_underlying ht)).trans ?_
  exact key
 rw [pureV_then key2]
 rfl
attribute [simp] op_slice_hm slice_slq_hm slice_nil_hm
end
end Go.Ai
end
section
namespace Go.Ai
section
variable {P:Program} {H:Mem} {ev:Ev} {d:Option Tmp} {ty:TypeId} {p:String} {af:Array Edge} {g:Option (Nat×Bool)} {x y:Operand} {s t:TypeId} {size bytes:Nat}
end
end Go.Ai
end
section
namespace Go.Ai
section
variable {P:Program} {H:Mem} {ev:Ev} {d:Option Tmp} {ty:TypeId} {p:String} {af:Array Edge} {g:Option (Nat×Bool)} {x y:Operand} {s t:TypeId} {size bytes:Nat}
open Classical in
noncomputable def apV (q:Option (Nat×Nat)) (sz off len:Nat) (cs:List AV) (ga gb blk:Option Blk) (H:Mem) (els:R) : R:=match q,ga with
 | some (size,bytes),some (.cells l0 _ _)=>if gb=blk∧size=sz∧0 < size∧bytes≤1048576∧off≤l0.length then .val (.slq H.next 0 len 0) (H.add (.cells cs true size)) else els
 | _,_=>els
theorem apV_congr {tk:Nat} (_h0:tick=tk) {q q' : Option (Nat×Nat)} {sz off len:Nat} {cs:List AV} {ga ga' gb gb' blk:Option Blk} {H:Mem} {els:R} (h1:q=q') (h2:ga=ga') (h3:gb=gb') : apV q sz off len cs ga gb blk H els=apV q' sz off len cs ga' gb' blk H els:=by rw [h1,h2,h3]
attribute [congr] apV_congr
theorem apV_ok {l0 cs:List AV} {own:Bool} {z len off n:Nat} {G:Nat→Option Blk} {els:R} {b:Option Blk} (h1:0 < size) (h2:bytes≤1048576) (h3:off≤l0.length) : apV (some (size,bytes)) size off len cs (some (.cells l0 own z)) b b ⟨.fn G,n⟩ els=.val (.slq n 0 len 0) ⟨.fn (gput G n (some (.cells cs true size))),n+1⟩:=if_pos ⟨rfl,rfl,h1,h2,h3⟩
attribute [simp] apV_ok
theorem firstL_rowV {a off n c size:Nat} {cs:List AV} {l:List AV} {own:Bool} {z:Nat} {v:AV} (hv:v=.sl a off n c∨v=.slq a off n c) (h:H.get a=some (.cells l own z)) (hc:(l.drop off).take (cs.length)=cs) (hl:off+cs.length≤l.length) (hn:cs.length=n * size) : firstL H size n v=some cs:=by
 rcases hv with rfl | rfl
 ·rw [firstL_sl h (by omega),← hn,hc]
 ·rw [firstL_slq h (by omega),← hn,hc]
end
section
variable {H:Mem}
theorem stS_one {l:List AV} {z:Nat} {ag:Bool} {a off:Nat} {v:AV} (h:off < l.length) (h1:oneC v=true) :
  stS (some (ag,1)) (some (.cells l true z)) H a off [v]=.skip (H.upd a (.cells (l.set off v) true z)):=by
 refine (stS_cells (size:=1) rfl (by simp [h1]) h).trans ?_
 have e:putL l off [v]=l.set off v:=by
  unfold putL
  rw [List.set_eq_take_append_cons_drop,if_pos h]
  simp
 rw [e]
end
theorem SliceV.ap0 {P:Program} {g:Nat→Option Blk} {b len sz:Nat} {sv:AV} {cs:List AV} (h:SliceV g b sv len cs) (hl:0 < len) (hlm:len≤1000000) (hcs:cs.length=len * sz) :
  ∃ a2 blk,a2 < b∧g a2=some blk∧∀ {H:Mem} {ev:Ev} {d:Option Tmp} {ty:TypeId} {p:String} {af:Array Edge} {gd:Option (Nat×Bool)} {x y:Operand} {s t:TypeId} {a off:Nat} {hx:ev x=some (.sl a off 0 0)} {hy:ev y=some sv},
   ex2 P H ev ⟨d,.call ⟨.builtin .append,#[x,y],#[s,t]⟩,ty,p,af,gd⟩ x y (some (.sl a off 0 0)) (some sv) hx hy=apV (apI P s t) sz off len cs (H.get a) (H.get a2) (some blk) H (opV P H ev ⟨d,.call ⟨.builtin .append,#[x,y],#[s,t]⟩,ty,p,af,gd⟩):=by
 rcases h with ⟨h1,_⟩ | ⟨a2,o2,ha2,hsv,l,own,z,hg,hle,hcut⟩
 ·omega
 ·refine ⟨a2,_,ha2,hg,?_⟩
  intro H ev d ty p af gd x y s t a off hx hy
  unfold apV
  split
  ·rename_i size bytes l0 ow zz h1 h2
   split
   ·rename_i h
    obtain ⟨hH,rfl,h4,h5,h6⟩:=h
    obtain ⟨k,rfl⟩ : ∃ k,len=k+1:=⟨len - 1,by omega⟩
    show opV P H ev _=_
    have hv:∃ c,sv=.sl a2 o2 (k+1) c∨sv=.slq a2 o2 (k+1) c:=by
     rcases hsv with ⟨c,rfl⟩ | ⟨c,rfl⟩
     ·exact ⟨c,.inl rfl⟩
     ·exact ⟨c,.inr rfl⟩
    obtain ⟨c,hv⟩:=hv
    have hn:lenOf sv=some (k+1):=by rcases hv with rfl | rfl <;> rfl
    rw [append_of hx hy h1,appendN_full (n:=k) hn h4 (firstL_rowV hv hH hcut hle hcs) hcs h2 (by omega) (by omega) (by omega) h5]
    simp
   ·rfl
  ·rfl
theorem SliceV.ap00 {P:Program} {g:Nat→Option Blk} {b:Nat} {sv:AV} {cs:List AV} (h:SliceV g b sv 0 cs) :
  ∀ {H:Mem} {ev:Ev} {d:Option Tmp} {ty:TypeId} {p:String} {af:Array Edge} {gd:Option (Nat×Bool)} {x y:Operand} {s t:TypeId} {a off:Nat} {hx:ev x=some (.sl a off 0 0)} {hy:ev y=some sv},(apI P s t).isSome=true →
   ex2 P H ev ⟨d,.call ⟨.builtin .append,#[x,y],#[s,t]⟩,ty,p,af,gd⟩ x y (some (.sl a off 0 0)) (some sv) hx hy=.val (.sl a off 0 0) H:=by
 intro H ev d ty p af gd x y s t a off hx hy hp
 have hn:lenOf sv=some 0:=by
  rcases h with ⟨_,_,rfl | rfl⟩ | ⟨a,off,_,⟨c,rfl⟩ | ⟨c,rfl⟩,_⟩ <;> rfl
 cases hq:apI P s t with
 | none=>rw [hq] at hp; cases hp
 | some q =>
  obtain ⟨q1,q2⟩:=q
  show opV P H ev _=_
  rw [append_of hx hy hq]
  unfold appendN
  rw [hn]
  rfl
end Go.Ai
end
section
namespace Go.Ai
section
variable {P:Program} {H:Mem} {ev:Ev} {d:Option Tmp} {ty:TypeId} {p:String} {af:Array Edge} {g:Option (Nat×Bool)} {x y:Operand} {s t:TypeId} {size bytes:Nat}
end
section
variable {P:Program} {H:Mem} {ev:Ev} {d:Option Tmp} {ty:TypeId} {p:String} {af:Array Edge} {g:Option (Nat×Bool)}
theorem slice_sl_hm0 {t:TypeId} {x hi mx:Operand} {a off c:Nat} {k:IntKind} {hx:ev x=some (.sl a off 0 c)} {hh:ev hi=some (.lit (.int k 0))} {hm:ev mx=some (.lit (.int k 0))} (he:(elSz P t).map (·.1)=some none) :
  ex3 P H ev ⟨d,.slice t x none (some hi) (some mx),ty,p,af,g⟩ x hi mx (some (.sl a off 0 c)) (some (.lit (.int k 0))) (some (.lit (.int k 0))) hx hh hm=.val (.sl a off 0 0) H:=by
 show opV P H ev _=_
 show oSlice P H ev _ t (ev x) none (some hi) (some mx)=_
 unfold oSlice
 rw [generic_none (x:=x) (by simp [Op.operands]) (fun v' h=>by rw [hx] at h; cases h; rfl),hx]
 obtain ⟨q,hq,hq2⟩:=Option.map_eq_some_iff.1 he
 obtain ⟨q1,q2⟩:=q
 dsimp only at hq2
 subst hq2
 obtain ⟨e,i',h3,h4,h5⟩:=elSz_inv hq
 dsimp only
 unfold oSliceN evOpt
 dsimp only
 rw [hh,hm]
 dsimp only
 rw [sliceOp_slice h3 h4]
 unfold sliceN
 dsimp only
 rw [bounds_hm' (i:=0) (n:=0) rfl (Nat.zero_le _)]
 unfold sliceSl
 rfl
attribute [simp] slice_sl_hm0
end
section
variable {P:Program} {H:Mem} {ev:Ev} {d:Option Tmp} {ty:TypeId} {p:String} {af:Array Edge} {g:Option (Nat×Bool)}
def sliceT (P:Program) (t:TypeId) : Bool:=match P.underlying t with | some (.slice _)=>true | _=>false
theorem sliceT_inv {t:TypeId} (h:sliceT P t=true) : ∃ e,P.underlying t=some (.slice e):=by
 unfold sliceT at h
 split at h
 ·exact ⟨_,by assumption⟩
 ·cases h
theorem bin_slnil {t rt:TypeId} {x y:Operand} {v:AV} (hx:ev x=some v) (hv:(∃ a o n c,v=.sl a o n c)∨(∃ a o n c,v=.slq a o n c)∨v=.es) (ht:sliceT P t=true) :
  binS P H ev ⟨d,.binOp .eql t x y rt,ty,p,af,g⟩ .eql t (some v) (some (.lit (.slice none 0 0)))=.val (.lit (.bool false)) H:=by
 obtain ⟨e,ht⟩:=sliceT_inv ht
 have hg:generic P ev ⟨d,.binOp .eql t x y rt,ty,p,af,g⟩=none :=
  generic_none (x:=x) (by simp [Op.operands]) fun v' h=>by rw [hx] at h; cases h; rcases hv with ⟨a,o,n,c,rfl⟩ | ⟨a,o,n,c,rfl⟩ | rfl <;> rfl
 have hb:binS P H ev ⟨d,.binOp .eql t x y rt,ty,p,af,g⟩ .eql t (some v) (some (.lit (.slice none 0 0)))=oBin P H ev ⟨d,.binOp .eql t x y rt,ty,p,af,g⟩ .eql t (some v) (some (.lit (.slice none 0 0))):=by
  rcases hv with ⟨a,o,n,c,rfl⟩ | ⟨a,o,n,c,rfl⟩ | rfl <;> rfl
 rw [hb]
 unfold oBin
 have hf:fast2 .eql (some v) (some (.lit (.slice none 0 0)))=none:=by
  rcases hv with ⟨a,o,n,c,rfl⟩ | ⟨a,o,n,c,rfl⟩ | rfl <;> rfl
 rw [hf,hg]
 dsimp only
 unfold oNilEq
 rw [ht]
 rcases hv with ⟨a,o,n,c,rfl⟩ | ⟨a,o,n,c,rfl⟩ | rfl <;> rfl
theorem bin_slN {t rt:TypeId} {x y:Operand} {a o n c:Nat} (hx:ev x=some (.sl a o n c)) (ht:sliceT P t=true) :
  binS P H ev ⟨d,.binOp .eql t x y rt,ty,p,af,g⟩ .eql t (some (.sl a o n c)) (some (.lit (.slice none 0 0)))=.val (.lit (.bool false)) H:=bin_slnil hx (.inl ⟨a,o,n,c,rfl⟩) ht
theorem bin_slqN {t rt:TypeId} {x y:Operand} {a o n c:Nat} (hx:ev x=some (.slq a o n c)) (ht:sliceT P t=true) :
  binS P H ev ⟨d,.binOp .eql t x y rt,ty,p,af,g⟩ .eql t (some (.slq a o n c)) (some (.lit (.slice none 0 0)))=.val (.lit (.bool false)) H:=bin_slnil hx (.inr (.inl ⟨a,o,n,c,rfl⟩)) ht
theorem bin_esN {t rt:TypeId} {x y:Operand} (hx:ev x=some .es) (ht:sliceT P t=true) :
  binS P H ev ⟨d,.binOp .eql t x y rt,ty,p,af,g⟩ .eql t (some .es) (some (.lit (.slice none 0 0)))=.val (.lit (.bool false)) H:=bin_slnil hx (.inr (.inr rfl)) ht
attribute [simp] bin_slN bin_slqN bin_esN
end
end Go.Ai
end
section
namespace Go.Ai
section
variable {P:Program} {H:Mem} {ev:Ev} {d:Option Tmp} {ty:TypeId} {p:String} {af:Array Edge} {g:Option (Nat×Bool)}
theorem slice_nil_hi {t:TypeId} {x hi:Operand} {hx:ev x=some (.lit (.slice none 0 0))} {hh:ev hi=some (.lit (.int .i64 0))} (he:(elSz P t).map (·.1)=some none) :
  ex2 P H ev ⟨d,.slice t x none (some hi) none,ty,p,af,g⟩ x hi (some (.lit (.slice none 0 0))) (some (.lit (.int .i64 0))) hx hh=.val (.lit (.slice none 0 0)) H:=by
 show opV P H ev _=_
 show oSlice P H ev _ t (ev x) none (some hi) none=_
 unfold oSlice
 rw [generic2 (r:=.slice none 0 0) (x:=x) (y:=hi) (by simp [Op.operands]) hx hh fun ρ e1 e2=>?_]
 show pureV P (do pure (Next.value (← Instr.sliceAt t (ρ x) none (some (ρ hi)) none)))=_
 rw [e1,e2]
 obtain ⟨q,hq,hq2⟩:=Option.map_eq_some_iff.1 he
 obtain ⟨q1,q2⟩:=q
 dsimp only at hq2
 subst hq2
 obtain ⟨e,i,ht,hi',h5⟩:=elSz_inv hq
 have key:pureV P (Instr.slice t (.slice none 0 0) none (some (.int .i64 0)) none)=some (.slice none 0 0):=by
  unfold Instr.slice
  refine (pureV_then (m:=underlying t) (a:=TypeDesc.slice e) (pureV_underlying ht)).trans ?_
  dsimp only
  refine (pureV_then (a:=(0,0,0)) ?_).trans ?_
  ·rfl
  ·refine (pureV_then (m:=sizeOf e) (a:=i.size) ?_).trans ?_
   ·exact (pureV_then (pureV_info hi')).trans rfl
   ·rfl
 have key2:pureV P (Instr.sliceAt t (.slice none 0 0) none (some (.int .i64 0)) none)=some (.slice none 0 0):=by
  unfold Instr.sliceAt
  refine (pureV_then (m:=underlying t) (a:=TypeDesc.slice e) (pureV_underlying ht)).trans ?_
  exact key
 rw [pureV_then key2]
 rfl
theorem slice_num {t:TypeId} {x hi:Operand} {v r:AV} {k:IntKind} {i:Int} {hx:ev x=some v} {hh:ev hi=some (.lit (.int k i))} (hl:toLit v=none) (he:(elSz P t).map (·.1)=some none) (hr:∀ size,sliceN size none (some (.lit (.int k i))) none v=some r) :
  ex2 P H ev ⟨d,.slice t x none (some hi) none,ty,p,af,g⟩ x hi (some v) (some (.lit (.int k i))) hx hh=.val r H:=by
 show opV P H ev _=_
 show oSlice P H ev _ t (ev x) none (some hi) none=_
 unfold oSlice
 rw [generic_none (x:=x) (by simp [Op.operands]) (fun v' h=>by rw [hx] at h; cases h; exact hl),hx]
 obtain ⟨q,hq,hq2⟩:=Option.map_eq_some_iff.1 he
 obtain ⟨q1,q2⟩:=q
 dsimp only at hq2
 subst hq2
 obtain ⟨e,i',h3,h4,h5⟩:=elSz_inv hq
 dsimp only
 unfold oSliceN evOpt
 dsimp only
 rw [hh]
 dsimp only
 rw [sliceOp_slice h3 h4,hr]
 rfl
end
section
variable {H:Mem}
attribute [simp] stS_one
end
def mask (c:Nat) (g:Nat→Option Blk) : Nat→Option Blk:=fun a=>if a=c then none else g a
theorem mask_ne {c a:Nat} {g:Nat→Option Blk} (h:a≠c) : mask c g a=g a:=if_neg h
theorem mask_some {c a:Nat} {g:Nat→Option Blk} {x:Blk} (h:mask c g a=some x) : g a=some x:=by
 unfold mask at h
 split at h
 ·cases h
 ·exact h
def CapV (sv:AV) : Prop:=∀ a o n c,sv=.sl a o n c→n≤c
theorem Row.takes {g:Nat→Option Blk} {a off:Nat} {cs:List AV} (h:Row g a off cs) (m:Nat) : Row g a off (cs.take m):=by
 obtain ⟨l,own,z,h1,h2,h3⟩:=h
 refine ⟨l,own,z,h1,?_,?_⟩
 ·rw [List.length_take]; omega
 ·rw [List.length_take]
  have:(List.take cs.length (List.drop off l)).take m=cs.take m:=by rw [h3]
  rw [List.take_take] at this
  simpa [Nat.min_comm] using this
theorem SliceV.cutP {P:Program} {g:Nat→Option Blk} {b len:Nat} {sv:AV} {cs:List AV} (h:SliceV g b sv len cs) (hc:CapV sv) {t:TypeId} (he:(elSz P t).map (·.1)=some none) {k sz:Nat} (hk:k≤len) :
  ∃ sv',(∀ {H:Mem} {ev:Ev} {d:Option Tmp} {ty:TypeId} {p:String} {af:Array Edge} {gd:Option (Nat×Bool)} {x hi:Operand} {hx:ev x=some sv} {hh:ev hi=some (.lit (.int .i64 (k:Int)))},
   ex2 P H ev ⟨d,.slice t x none (some hi) none,ty,p,af,gd⟩ x hi (some sv) (some (.lit (.int .i64 (k:Int)))) hx hh=.val sv' H)∧SliceV g b sv' k (cs.take (k * sz))∧CapV sv':=by
 rcases h with ⟨h1,h2,rfl | rfl⟩ | ⟨a,off,ha,⟨c,rfl⟩ | ⟨c,rfl⟩,hrow⟩
 ·obtain rfl:k=0:=by omega
  refine ⟨.lit (.slice none 0 0),?_,.inl ⟨rfl,by simp,.inl rfl⟩,fun _ _ _ _ e=>by cases e⟩
  intro H ev d ty p af gd x hi hx hh
  exact slice_nil_hi (hx:=hx) (hh:=hh) he
 ·obtain rfl:k=0:=by omega
  refine ⟨.es,?_,.inl ⟨rfl,by simp,.inr rfl⟩,fun _ _ _ _ e=>by cases e⟩
  intro H ev d ty p af gd x hi hx hh
  exact slice_num (hx:=hx) (hh:=hh) rfl he fun size=>rfl
 ·have hcc:=hc _ _ _ _ rfl
  by_cases h0:c=0
  ·obtain rfl:k=0:=by omega
   subst h0
   refine ⟨.sl a off 0 0,?_,.inr ⟨a,off,ha,.inl ⟨0,rfl⟩,hrow.takes _⟩,fun _ _ _ _ e=>by cases e; omega⟩
   intro H ev d ty p af gd x hi hx hh
   refine slice_num (hx:=hx) (hh:=hh) rfl he fun size=>?_
   unfold sliceN
   dsimp only
   have hb:bounds none (some (.lit (.int .i64 ((0:Nat) : Int)))) none len 0=some (0,0,0):=rfl
   rw [hb]
   rfl
  ·refine ⟨.sl a off k c,?_,.inr ⟨a,off,ha,.inl ⟨c,rfl⟩,hrow.takes _⟩,fun _ _ _ _ e=>by cases e; omega⟩
   intro H ev d ty p af gd x hi hx hh
   rw [slice_sl_hi he (by omega) (by omega) (by omega)]
   simp
 ·by_cases h0:len=0
  ·obtain rfl:k=0:=by omega
   subst h0
   refine ⟨.es,?_,.inl ⟨rfl,by simp,.inr rfl⟩,fun _ _ _ _ e=>by cases e⟩
   intro H ev d ty p af gd x hi hx hh
   refine slice_num (hx:=hx) (hh:=hh) rfl he fun size=>?_
   unfold sliceN
   dsimp only
   have hb:bounds none (some (.lit (.int .i64 ((0:Nat) : Int)))) none 0 0=some (0,0,0):=rfl
   rw [hb]
   rfl
  ·refine ⟨.slq a off k c,?_,.inr ⟨a,off,ha,.inr ⟨c,rfl⟩,hrow.takes _⟩,fun _ _ _ _ e=>by cases e⟩
   intro H ev d ty p af gd x hi hx hh
   rw [slice_slq_hi he (by omega) (by omega) (by omega)]
   simp
end Go.Ai
end
section
namespace Go.Ai
def edOK (O:Int) (next:Nat) (e:Int×Int) : Option Nat :=
 if e.1 = -1∧(e.2 = -1∨e.2 = -2) then some next
 else if e.1=(next:Int)∧0≤e.2∧e.2 < O then some (next+1) else none
def goE (O:Int) : List (Int×Int)→Nat→Option Nat
 | [],next=>some next
 | e :: l,next=>match edOK O next e with
  | none=>none
  | some nx=>goE O l nx
def goT (I O:Int) : List (List (Int×Int))→Nat→Nat→Option Nat
 | [],_,next=>some next
 | r :: l,n,next=>if (r.length:Int)=I∧n < next then
   (match goE O r next with
    | none=>none
    | some nx=>goT I O l (n+1) nx)
   else none
def treeErr (I O:Int) (T:List (List (Int×Int))) : Int :=
 if I > 16∨O > 16∨T.length > 65537 then 3 else if I < 1∨O < 1∨T.length < 1 then 1 else if goT I O T 0 1=some T.length then 0 else 1
def okE (len:Nat) (O:Int) (e:Int×Int) : Bool :=
 decide (1≤e.1∧e.1 < len∧0≤e.2∧e.2 < O) || decide (e.1 = -1∧(e.2 = -1∨e.2 = -2))
structure WSt where
 out:List (List Int)
 seen:List Bool
 many:Nat
def lexC:List Int→List Int→Int
 | x :: a,y :: b=>if x < y then -1 else if y < x then 1 else lexC a b
 | _,_=>0
def cmpM (a b:List Int) : Int:=if a.length < b.length then -1 else if b.length < a.length then 1 else lexC a b
def LL:List Int→List Int→Prop
 | x :: a,y :: b=>x < y∨x=y∧LL a b
 | _,_=>False
def SL (a b:List Int) : Prop:=a.length < b.length∨a.length=b.length∧LL a b
theorem lexC_LL:∀ {a b:List Int},lexC a b < 0↔LL a b
 | [],[]=>by simp [lexC,LL]
 | [],_ :: _=>by simp [lexC,LL]
 | _ :: _,[]=>by simp [lexC,LL]
 | x :: a,y :: b=>by
  unfold lexC LL
  by_cases h1:x < y
  ·simp [h1]
  ·rw [if_neg h1]
   by_cases h2:y < x
   ·rw [if_pos h2]
    constructor
    ·intro h; omega
    ·rintro (h | ⟨h,-⟩) <;> omega
   ·rw [if_neg h2,lexC_LL]
    constructor
    ·intro h; exact .inr ⟨by omega,h⟩
    ·rintro (h | ⟨-,h⟩)
     ·omega
     ·exact h
theorem cmpM_SL {a b:List Int} : cmpM a b < 0↔SL a b:=by
 unfold cmpM SL
 by_cases h1:a.length < b.length
 ·simp [h1]
 ·rw [if_neg h1]
  by_cases h2:b.length < a.length
  ·rw [if_pos h2]
   constructor
   ·intro h; omega
   ·rintro (h | ⟨h,-⟩) <;> omega
  ·rw [if_neg h2,lexC_LL]
   constructor
   ·intro h; exact .inr ⟨by omega,h⟩
   ·rintro (h | ⟨-,h⟩)
    ·omega
    ·exact h
theorem LL.irrefl:∀ {a:List Int},¬ LL a a
 | [],h=>h
 | x :: a,h=>by
  rcases h with h | ⟨-,h⟩
  ·omega
  ·exact LL.irrefl h
theorem LL.trans:∀ {a b c:List Int},LL a b→LL b c→LL a c
 | [],_,_,h,_=>by cases ‹List Int› <;> exact h.elim
 | _ :: _,[],_,h,_=>h.elim
 | _ :: _,_ :: _,[],_,h=>h.elim
 | x :: a,y :: b,z :: c,h1,h2=>by
  rcases h1 with h1 | ⟨h1,h1'⟩
  ·rcases h2 with h2 | ⟨h2,-⟩
   ·exact .inl (by omega)
   ·exact .inl (by omega)
  ·rcases h2 with h2 | ⟨h2,h2'⟩
   ·exact .inl (by omega)
   ·exact .inr ⟨by omega,h1'.trans h2'⟩
theorem SL.irrefl {a:List Int} : ¬ SL a a:=by
 rintro (h | ⟨-,h⟩)
 ·omega
 ·exact LL.irrefl h
theorem SL.trans {a b c:List Int} (h1:SL a b) (h2:SL b c) : SL a c:=by
 rcases h1 with h1 | ⟨h1,h1'⟩
 ·rcases h2 with h2 | ⟨h2,-⟩
  ·exact .inl (by omega)
  ·exact .inl (by omega)
 ·rcases h2 with h2 | ⟨h2,h2'⟩
  ·exact .inl (by omega)
  ·exact .inr ⟨by omega,h1'.trans h2'⟩
theorem SL.le {a b:List Int} (h:SL a b) : a.length≤b.length:=by
 rcases h with h | ⟨h,-⟩ <;> omega
theorem LL.app:∀ {a b:List Int},LL a b→∀ i j,LL (a++[i]) (b++[j])
 | [],b,h,_,_=>by cases b <;> exact h.elim
 | _ :: _,[],h,_,_=>h.elim
 | x :: a,y :: b,h,i,j=>by
  rcases h with h | ⟨h,h'⟩
  ·exact .inl h
  ·exact .inr ⟨h,h'.app i j⟩
theorem LL.last:∀ (a:List Int) {i j:Int},i < j→LL (a++[i]) (a++[j])
 | [],_,_,h=>.inl h
 | _ :: a,_,_,h=>.inr ⟨rfl,LL.last a h⟩
theorem SL.app {a b:List Int} (h:SL a b) (i j:Int) : SL (a++[i]) (b++[j]):=by
 rcases h with h | ⟨h,h'⟩
 ·exact .inl (by simp; omega)
 ·exact .inr ⟨by simp; omega,h'.app i j⟩
theorem SL.last (a:List Int) {i j:Int} (h:i < j) : SL (a++[i]) (a++[j]):=.inr ⟨by simp,LL.last a h⟩
theorem SL.nil (a:List Int) (i:Int) : SL [] (a++[i]):=.inl (by simp)
end Go.Ai
end
section
namespace Go.Ai
section
variable {P:Program} {H:Mem} {ev:Ev} {d:Option Tmp} {ty:TypeId} {p:String} {af:Array Edge} {g:Option (Nat×Bool)} {x y:Operand} {s t:TypeId} {size bytes:Nat}
open Classical in
noncomputable def apVQ (q:Option (Nat×Nat)) (sz k len a:Nat) (cs:List AV) (ga gb blk:Option Blk) (H:Mem) (els:R) : R:=match q,ga with
 | some (size,bytes),some (.cells r true z)=>if gb=blk∧size=sz∧z=sz∧0 < size∧bytes≤1048576∧r.length=k * sz∧k≤40000∧allOne cs=true then .val (.slq H.next 0 (k+len) 0) ((H.rm a).add (.cells (r++cs) true sz)) else els
 | _,_=>els
theorem apVQ_congr {tk:Nat} (_h0:tick=tk) {q q' : Option (Nat×Nat)} {sz k len a:Nat} {cs:List AV} {ga ga' gb gb' blk:Option Blk} {H:Mem} {els:R} (h1:q=q') (h2:ga=ga') (h3:gb=gb') : apVQ q sz k len a cs ga gb blk H els=apVQ q' sz k len a cs ga' gb' blk H els:=by rw [h1,h2,h3]
attribute [congr] apVQ_congr
theorem apVQ_ok {r cs:List AV} {sz k len a n:Nat} {G:Nat→Option Blk} {els:R} {b:Option Blk} (h1:0 < sz) (h2:bytes≤1048576) (h3:r.length=k * sz) (h4:k≤40000) (h5:allOne cs=true) : apVQ (some (sz,bytes)) sz k len a cs (some (.cells r true sz)) b b ⟨.fn G,n⟩ els=.val (.slq n 0 (k+len) 0) ⟨.fn (gput (gput G a none) n (some (.cells (r++cs) true sz))),n+1⟩:=if_pos ⟨rfl,rfl,rfl,h1,h2,h3,h4,h5⟩
open Classical in
noncomputable def apVN (q:Option (Nat×Nat)) (sz len:Nat) (cs:List AV) (gb blk:Option Blk) (H:Mem) (els:R) : R:=match q with
 | some (size,bytes)=>if gb=blk∧size=sz∧0 < size∧bytes≤1048576 then .val (.slq H.next 0 len 0) (H.add (.cells cs true sz)) else els
 | _=>els
theorem apVN_congr {tk:Nat} (_h0:tick=tk) {q q' : Option (Nat×Nat)} {sz len:Nat} {cs:List AV} {gb gb' blk:Option Blk} {H:Mem} {els:R} (h1:q=q') (h3:gb=gb') : apVN q sz len cs gb blk H els=apVN q' sz len cs gb' blk H els:=by rw [h1,h3]
theorem apVN_ok {cs:List AV} {sz len n:Nat} {G:Nat→Option Blk} {els:R} {b:Option Blk} (h1:0 < sz) (h2:bytes≤1048576) : apVN (some (sz,bytes)) sz len cs b b ⟨.fn G,n⟩ els=.val (.slq n 0 len 0) ⟨.fn (gput G n (some (.cells cs true sz))),n+1⟩:=if_pos ⟨rfl,rfl,h1,h2⟩
attribute [congr] apVN_congr
attribute [simp] apVN_ok
attribute [simp] apVQ_ok
end
theorem SliceV.lenOf' {g:Nat→Option Blk} {b len:Nat} {sv:AV} {cs:List AV} (h:SliceV g b sv len cs) (hl:0 < len) : ∃ a2 o2 c l own z,a2 < b∧(sv=.sl a2 o2 len c∨sv=.slq a2 o2 len c)∧g a2=some (.cells l own z)∧o2+cs.length≤l.length∧(l.drop o2).take cs.length=cs:=by
 rcases h with ⟨h1,_⟩ | ⟨a2,o2,ha2,hsv,l,own,z,hg,hle,hcut⟩
 ·omega
 ·rcases hsv with ⟨c,rfl⟩ | ⟨c,rfl⟩
  ·exact ⟨a2,o2,c,l,own,z,ha2,.inl rfl,hg,hle,hcut⟩
  ·exact ⟨a2,o2,c,l,own,z,ha2,.inr rfl,hg,hle,hcut⟩
theorem SliceV.apq {P:Program} {g:Nat→Option Blk} {b len sz:Nat} {sv:AV} {cs:List AV} (h:SliceV g b sv len cs) (hl:0 < len) (hlm:len≤1000000) (hcs:cs.length=len * sz) :
  ∃ a2 blk,a2 < b∧g a2=some blk∧∀ {H:Mem} {ev:Ev} {d:Option Tmp} {ty:TypeId} {p:String} {af:Array Edge} {gd:Option (Nat×Bool)} {x y:Operand} {s t:TypeId} {a k:Nat} {hx:ev x=some (.slq a 0 k 0)} {hy:ev y=some sv},
   ex2 P H ev ⟨d,.call ⟨.builtin .append,#[x,y],#[s,t]⟩,ty,p,af,gd⟩ x y (some (.slq a 0 k 0)) (some sv) hx hy=apVQ (apI P s t) sz k len a cs (H.get a) (H.get a2) (some blk) H (opV P H ev ⟨d,.call ⟨.builtin .append,#[x,y],#[s,t]⟩,ty,p,af,gd⟩):=by
 obtain ⟨a2,o2,c,l,own,z,ha2,hv,hg,hle,hcut⟩:=h.lenOf' hl
 refine ⟨a2,_,ha2,hg,?_⟩
 intro H ev d ty p af gd x y s t a k hx hy
 unfold apVQ
 split
 ·rename_i size bytes r zz h1 h2
  split
  ·rename_i h
   obtain ⟨hH,rfl,rfl,h4,h5,h6,h7,h8⟩:=h
   obtain ⟨j,rfl⟩ : ∃ j,len=j+1:=⟨len - 1,by omega⟩
   show opV P H ev _=_
   have hn:lenOf sv=some (j+1):=by rcases hv with rfl | rfl <;> rfl
   rw [append_of hx hy h1,appendN_grow (n:=j) hn h4 (firstL_rowV hv hH hcut hle hcs) hcs h2 h6 (by omega) h5 h8]
   rfl
  ·rfl
 ·rfl
theorem SliceV.apn {P:Program} {g:Nat→Option Blk} {b len sz:Nat} {sv:AV} {cs:List AV} (h:SliceV g b sv len cs) (hl:0 < len) (hlm:len≤1000000) (hcs:cs.length=len * sz) :
  ∃ a2 blk,a2 < b∧g a2=some blk∧∀ {H:Mem} {ev:Ev} {d:Option Tmp} {ty:TypeId} {p:String} {af:Array Edge} {gd:Option (Nat×Bool)} {x y:Operand} {s t:TypeId} {hx:ev x=some (.lit (.slice none 0 0))} {hy:ev y=some sv},
   ex2 P H ev ⟨d,.call ⟨.builtin .append,#[x,y],#[s,t]⟩,ty,p,af,gd⟩ x y (some (.lit (.slice none 0 0))) (some sv) hx hy=apVN (apI P s t) sz len cs (H.get a2) (some blk) H (opV P H ev ⟨d,.call ⟨.builtin .append,#[x,y],#[s,t]⟩,ty,p,af,gd⟩):=by
 obtain ⟨a2,o2,c,l,own,z,ha2,hv,hg,hle,hcut⟩:=h.lenOf' hl
 refine ⟨a2,_,ha2,hg,?_⟩
 intro H ev d ty p af gd x y s t hx hy
 unfold apVN
 split
 ·rename_i size bytes h1
  split
  ·rename_i h
   obtain ⟨hH,rfl,h4,h5⟩:=h
   obtain ⟨j,rfl⟩ : ∃ j,len=j+1:=⟨len - 1,by omega⟩
   show opV P H ev _=_
   have hn:lenOf sv=some (j+1):=by rcases hv with rfl | rfl <;> rfl
   rw [append_of hx hy h1,appendN_nil (n:=j) hn h4 (firstL_rowV hv hH hcut hle hcs) hcs (by omega) h5]
  ·rfl
 ·rfl
end Go.Ai
end
section
namespace Go.Ai
def EdT (T:List (List (Int×Int))) (p j t:Nat) : Prop:=∃ e,(T.getD p [])[j]?=some e∧e.1=(t:Int)
theorem getD_lt {T:List (List (Int×Int))} {n i:Nat} (h:i < (T.getD n []).length) : n < T.length:=by
 by_cases hp:n < T.length
 ·exact hp
 ·rw [List.getD_eq_getElem?_getD,List.getElem?_eq_none (by omega)] at h
  simp at h
theorem EdT.lt {T:List (List (Int×Int))} {p j t:Nat} (h:EdT T p j t) : p < T.length:=by
 obtain ⟨e,h,-⟩:=h
 exact getD_lt (List.getElem?_eq_some_iff.1 h).1
def Sn (st:WSt) (m:Nat) : Prop:=st.seen.getD m false=true
structure WInv (T:List (List (Int×Int))) (st:WSt) : Prop where
 lo:st.out.length=T.length
 ls:st.seen.length=T.length
 s0:Sn st 0
 o0:st.out.getD 0 []=[]
 cnt:st.many=st.seen.count true
 src:∀ m,Sn st m→m≠0→∃ p j,EdT T p j m
def WDone (T:List (List (Int×Int))) (st:WSt) (n i:Nat) : Prop :=
 ∀ j,j < i→∀ t,EdT T n j t→Sn st t∧st.out.getD t []=st.out.getD n []++[(j:Int)]
structure WExt (st st' : WSt) : Prop where
 keep:∀ m,Sn st m→Sn st' m∧st'.out.getD m []=st.out.getD m []
 le:st.many≤st'.many
 eq:st'.many=st.many→st'=st
theorem WExt.refl (st:WSt) : WExt st st:=⟨fun _ h=>⟨h,rfl⟩,Nat.le_refl _,fun _=>rfl⟩
theorem WExt.trans {a b c:WSt} (h1:WExt a b) (h2:WExt b c) : WExt a c :=
 ⟨fun m h=>⟨(h2.keep m (h1.keep m h).1).1,((h2.keep m (h1.keep m h).1).2).trans (h1.keep m h).2⟩,Nat.le_trans h1.le h2.le,fun e=>by
  have e1:=h1.le
  have e2:=h2.le
  rw [h2.eq (by omega),h1.eq (by omega)]⟩
theorem WDone.mono {T:List (List (Int×Int))} {st st' : WSt} {n i:Nat} (h:WDone T st n i) (hn:Sn st n) (hx:WExt st st') : WDone T st' n i:=fun j hj t ht=>by
 obtain ⟨h1,h2⟩:=h j hj t ht
 obtain ⟨h3,h4⟩:=hx.keep t h1
 exact ⟨h3,by rw [h4,h2,(hx.keep n hn).2]⟩
structure WQ (T:List (List (Int×Int))) (r:Nat) (st:WSt) (n:Nat) : Prop where
 le:∀ m,Sn st m→(st.out.getD m []).length≤r+1
 old:∀ m,Sn st m→(st.out.getD m []).length < r→WDone T st m (T.getD m []).length
 now:∀ m,Sn st m→(st.out.getD m []).length=r→m < n→WDone T st m (T.getD m []).length
end Go.Ai
end
section
namespace Go.Ai
structure BH (T:List (List (Int×Int))) (next n i:Nat) : Prop where
 lo:1≤next
 hi:next≤T.length
 a:∀ t,1≤t→t < next→∃ p j,(p < n∨p=n∧j < i)∧EdT T p j t
 b:∀ p j t,(p < n∨p=n∧j < i)→EdT T p j t→t < next
end Go.Ai
end
section
namespace Go.Ai
theorem goE_le {O:Int} : ∀ {es:List (Int×Int)} {next nx:Nat},goE O es next=some nx→next≤nx
 | [],_,_,h=>by unfold goE at h; cases h; exact Nat.le_refl _
 | e :: es,next,nx,h=>by
  unfold goE at h
  cases he:edOK O next e with
  | none=>rw [he] at h; cases h
  | some k =>
   rw [he] at h
   have h1:=goE_le (es:=es) h
   have h2:next≤k:=by
    unfold edOK at he
    split at he
    ·cases he; exact Nat.le_refl _
    ·split at he
     ·cases he; exact Nat.le_succ _
     ·cases he
   omega
theorem goT_le {I O:Int} : ∀ {rows:List (List (Int×Int))} {n next k:Nat},goT I O rows n next=some k→next≤k
 | [],_,_,_,h=>by unfold goT at h; cases h; exact Nat.le_refl _
 | r :: rows,n,next,k,h=>by
  unfold goT at h
  split at h
  ·cases he:goE O r next with
   | none=>rw [he] at h; cases h
   | some j =>
    rw [he] at h
    have h1:=goT_le (rows:=rows) h
    have h2:=goE_le he
    omega
  ·cases h
theorem goE_ok {O:Int} {len:Nat} : ∀ {es:List (Int×Int)} {next nx:Nat},goE O es next=some nx→1≤next→nx≤len→∀ e∈es,okE len O e=true
 | [],_,_,_,_,_=>fun e he=>by cases he
 | e :: es,next,nx,h,h1,h2=>by
  unfold goE at h
  cases he:edOK O next e with
  | none=>rw [he] at h; cases h
  | some k =>
   rw [he] at h
   have h3:=goE_le (es:=es) h
   unfold edOK at he
   intro f hf
   split at he
   ·rename_i hc
    cases he
    rcases List.mem_cons.1 hf with rfl | hf
    ·unfold okE; rw [decide_eq_true hc,Bool.or_true]
    ·exact goE_ok (es:=es) h h1 h2 f hf
   ·split at he
    ·rename_i hc
     cases he
     rcases List.mem_cons.1 hf with rfl | hf
     ·unfold okE
      rw [decide_eq_true (by omega:1≤f.1∧f.1 < (len:Int)∧0≤f.2∧f.2 < O),Bool.true_or]
     ·exact goE_ok (es:=es) h (by omega) h2 f hf
    ·cases he
theorem goT_ok {I O:Int} {len:Nat} : ∀ {rows:List (List (Int×Int))} {n next k:Nat},goT I O rows n next=some k→1≤next→k≤len→∀ r∈rows,(r.length:Int)=I∧∀ e∈r,okE len O e=true
 | [],_,_,_,_,_,_=>fun r hr=>by cases hr
 | row :: rows,n,next,k,h,h1,h2=>by
  unfold goT at h
  split at h
  ·rename_i hc
   cases he:goE O row next with
   | none=>rw [he] at h; cases h
   | some j =>
    rw [he] at h
    have h3:=goT_le (rows:=rows) h
    have h4:=goE_le he
    intro r hr
    rcases List.mem_cons.1 hr with rfl | hr
    ·exact ⟨hc.1,goE_ok he h1 (by omega)⟩
    ·exact goT_ok (rows:=rows) h (by omega) h2 r hr
  ·cases h
end Go.Ai
end
section
namespace Go.Ai
section
variable {P:Program} {H:Mem} {ev:Ev} {d:Option Tmp} {ty:TypeId} {p:String} {af:Array Edge} {g:Option (Nat×Bool)}
theorem bounds_lo {i:Int} {n c:Nat} {k:IntKind} (h0:0≤i) (h1:i.toNat≤n) (h2:n≤c) : bounds (some (.lit (.int k i))) none none n c=some (i.toNat,n,c):=by
 unfold bounds natOr
 dsimp only
 rw [natOf_int h0]
 simp only [okMx,Nat.ble_eq_true_of_le h1,Nat.ble_eq_true_of_le h2,Nat.ble_eq_true_of_le (Nat.le_refl c),Bool.and_true]
theorem slice_slq_lo {t:TypeId} {x lo:Operand} {a off n c sz:Nat} {k:IntKind} {i:Int} {hx:ev x=some (.slq a off n c)} {hh:ev lo=some (.lit (.int k i))} (he:elSz P t=some (none,sz)) (h0:0≤i) (h1:i.toNat < n) :
  ex2 P H ev ⟨d,.slice t x (some lo) none none,ty,p,af,g⟩ x lo (some (.slq a off n c)) (some (.lit (.int k i))) hx hh=.val (.slq a (off+i.toNat * sz) (n - i.toNat) (c+i.toNat)) H:=by
 show opV P H ev _=_
 rw [slice_of hx rfl]
 obtain ⟨e,i',h3,h4,h5⟩:=elSz_inv he
 unfold oSliceN evOpt
 dsimp only
 rw [hh]
 dsimp only
 rw [sliceOp_slice h3 h4]
 unfold sliceN
 dsimp only
 rw [bounds_lo h0 (by omega) (Nat.le_refl n)]
 unfold sliceSlq
 have hb:Nat.blt i.toNat n=true:=Nat.ble_eq_true_of_le h1
 dsimp only
 rw [hb,h5]
 simp [natK_eq,ofOpt]
theorem slice_sl_lo {t:TypeId} {x lo:Operand} {a off n c sz:Nat} {k:IntKind} {i:Int} {hx:ev x=some (.sl a off n c)} {hh:ev lo=some (.lit (.int k i))} (he:elSz P t=some (none,sz)) (h0:0≤i) (h1:i.toNat < n) (h2:n≤c) :
  ex2 P H ev ⟨d,.slice t x (some lo) none none,ty,p,af,g⟩ x lo (some (.sl a off n c)) (some (.lit (.int k i))) hx hh=.val (.sl a (off+i.toNat * sz) (n - i.toNat) (c - i.toNat)) H:=by
 show opV P H ev _=_
 rw [slice_of hx rfl]
 obtain ⟨e,i',h3,h4,h5⟩:=elSz_inv he
 unfold oSliceN evOpt
 dsimp only
 rw [hh]
 dsimp only
 rw [sliceOp_slice h3 h4]
 unfold sliceN
 dsimp only
 rw [bounds_lo h0 (by omega) h2]
 unfold sliceSl
 have hb:Nat.beq c i.toNat=false:=by
  cases hb:Nat.beq c i.toNat with
  | false=>rfl
  | true=>have:=Nat.eq_of_beq_eq_true hb; omega
 dsimp only
 rw [hb,h5]
 simp [natK_eq,ofOpt]
end
theorem SliceV.lo {P:Program} {g:Nat→Option Blk} {b len sz:Nat} {sv:AV} {cs:List AV} {t:TypeId} (he:elSz P t=some (none,sz)) (h:SliceV g b sv len cs) (hc:CapV sv) {k:Nat} (hk:k < len) (hcs:cs.length=len * sz) :
  ∃ sv',SliceV g b sv' (len - k) (cs.drop (k * sz))∧∀ {H:Mem} {ev:Ev} {d:Option Tmp} {ty:TypeId} {p:String} {af:Array Edge} {gd:Option (Nat×Bool)} {x lo:Operand} {hx:ev x=some sv} {hl:ev lo=some (.lit (.int .i64 (k:Int)))},
   ex2 P H ev ⟨d,.slice t x (some lo) none none,ty,p,af,gd⟩ x lo (some sv) (some (.lit (.int .i64 (k:Int)))) hx hl=.val sv' H:=by
 obtain ⟨a2,o2,c,l,own,z,ha2,hv,hg,hle,hcut⟩:=h.lenOf' (by omega)
 have hkz:k * sz≤cs.length:=by rw [hcs]; exact Nat.mul_le_mul_right _ (by omega)
 have hrow:Row g a2 (o2+k * sz) (cs.drop (k * sz)):=by
  refine ⟨l,own,z,hg,by rw [List.length_drop]; omega,?_⟩
  have h2:((l.drop o2).take cs.length).drop (k * sz)=cs.drop (k * sz):=by rw [hcut]
  rw [List.drop_take,List.drop_drop] at h2
  rw [List.length_drop]
  exact h2
 rcases hv with rfl | rfl
 ·have hnc:len≤c:=hc a2 o2 len c rfl
  refine ⟨.sl a2 (o2+k * sz) (len - k) (c - k),.inr ⟨a2,o2+k * sz,ha2,.inl ⟨_,rfl⟩,hrow⟩,?_⟩
  intro H ev d ty p af gd x lo hx hl
  exact slice_sl_lo he (by omega) (by simpa using hk) hnc
 ·refine ⟨.slq a2 (o2+k * sz) (len - k) (c+k),.inr ⟨a2,o2+k * sz,ha2,.inr ⟨_,rfl⟩,hrow⟩,?_⟩
  intro H ev d ty p af gd x lo hx hl
  exact slice_slq_lo he (by omega) (by simpa using hk)
end Go.Ai
end
section
namespace Go.Ai
section
variable {P:Program} {H:Mem} {ev:Ev} {d:Option Tmp} {ty:TypeId} {p:String} {af:Array Edge} {g:Option (Nat×Bool)}
end
end Go.Ai
end
section
namespace Go.Ai
theorem LX.cut {G n:Nat} {P:Program} {b:Code} {fr:Fr} {H:Mem} {K Q:Out→Prop} (h:LX G P n b fr H K) (hk:∀ o,K o→Q o) : LX G P n b fr H Q:=by
 intro B n0 ρ0 w0 ρ a w s b' k cs
 obtain ⟨e,a',w',⟨out,h1,h2⟩,h3⟩:=h B n0 ρ0 w0 ρ a w s b' k cs
 exact ⟨e,a',w',⟨out,hk _ h1,h2⟩,h3⟩
def exitK (id:Nat) (K:(Nat→Option AV)→(Nat→Option Blk)→Nat→Prop) : Out→Prop:=fun o=>∃ gf g n,o=.exit id (.f gf []) ⟨.fn g,n⟩∧K gf g n
theorem exitK_in {id:Nat} {K:(Nat→Option AV)→(Nat→Option Blk)→Nat→Prop} {gf:Nat→Option AV} {g:Nat→Option Blk} {n:Nat} : exitK id K (.exit id (.f gf []) ⟨.fn g,n⟩)=K gf g n:=by
 apply propext
 constructor
 ·rintro ⟨gf',g',n',e,h⟩
  injection e with e1 e2 e3
  injection e2 with e2
  injection e3 with e3 e4
  injection e3 with e3
  subst e2 e3 e4
  exact h
 ·exact fun h=>⟨_,_,_,rfl,h⟩
theorem exitK_congr {tk:Nat} (_h0:tick=tk) {id:Nat} {K:(Nat→Option AV)→(Nat→Option Blk)→Nat→Prop} {o o' : Out} (h:o=o') : exitK id K o=exitK id K o':=by rw [h]
attribute [congr] exitK_congr
attribute [simp] exitK_in
end Go.Ai
end
section
namespace Go.Ai
open Go.RowKit (Below)
variable {B G:Nat} {P:Program} {ρ:Rn} {H:Mem} {w:World}
structure Cut where
 f:Nat
 n:Nat
 args:List AV
 base:List (Nat×List AV)
 v:AV
 news:List (Nat×Blk)
 n1:Nat
mutual
def inV (p:Nat→Bool) : AV→Bool
 | .lit _=>true
 | .es=>true
 | .ptr a _=>p a
 | .sl a _ _ _=>p a
 | .slq a _ _ _=>p a
 | .map a=>p a
 | .func _ x y=>inL p x && inL p y
 | .iface _ v=>inV p v
 | .agg l=>inL p l
 | .tup l=>inL p l
def inL (p:Nat→Bool) : List AV→Bool
 | []=>true
 | v :: l=>inV p v && inL p l
end
def only (p:Nat→Bool) (ρ:Rn) : Rn:=fun a=>if p a=true then ρ a else none
theorem only_in {p:Nat→Bool} {a:Nat} {ρ:Rn} (h:p a=true) : only p ρ a=ρ a:=if_pos h
mutual
theorem in_VR {p:Nat→Bool} {ρ:Rn} : ∀ {v:AV} {u:Value},inV p v=true→VR ρ v u→VR (only p ρ) v u
 | .lit _,_,_,r=>r
 | .es,_,_,r=>r
 | .ptr a _,_,hb,⟨b,o,k,e,r⟩=>⟨b,o,k,(only_in (by simpa [inV] using hb)).trans e,r⟩
 | .sl a _ _ _,_,hb,⟨b,o,k,e,r⟩=>⟨b,o,k,(only_in (by simpa [inV] using hb)).trans e,r⟩
 | .slq a _ _ _,_,hb,⟨b,o,k,e,r⟩=>⟨b,o,k,(only_in (by simpa [inV] using hb)).trans e,r⟩
 | .map a,_,hb,⟨b,o,k,e,r⟩=>⟨b,o,k,(only_in (by simpa [inV] using hb)).trans e,r⟩
 | .func _ _ _,_,hb,⟨f',c',e,r,q⟩=>by
  simp only [inV,Bool.and_eq_true] at hb
  exact ⟨f',c',e,in_VRs hb.1 r,in_VRs hb.2 q⟩
 | .iface _ _,_,hb,⟨u',e,r⟩=>⟨u',e,in_VR (by simpa [inV] using hb) r⟩
 | .agg _,_,hb,⟨cs,e,r⟩=>⟨cs,e,in_VRs (by simpa [inV] using hb) r⟩
 | .tup _,_,hb,⟨cs,e,r⟩=>⟨cs,e,in_VRs (by simpa [inV] using hb) r⟩
theorem in_VRs {p:Nat→Bool} {ρ:Rn} : ∀ {l:List AV} {us:List Value},inL p l=true→VRs ρ l us→VRs (only p ρ) l us
 | [],_,_,r=>r
 | _ :: _,_,hb,⟨u,us',e,r,q⟩=>by
  simp only [inL,Bool.and_eq_true] at hb
  exact ⟨u,us',e,in_VR hb.1 r,in_VRs hb.2 q⟩
end
theorem inL_mem {p:Nat→Bool} : ∀ {l:List AV} {i:Nat} {v:AV},inL p l=true→l[i]?=some v→inV p v=true
 | [],i,v,_,h=>by simp at h
 | y :: l,0,v,hb,h=>by simp only [inL,Bool.and_eq_true] at hb; simp at h; subst h; exact hb.1
 | y :: l,i+1,v,hb,h=>by simp only [inL,Bool.and_eq_true] at hb; exact inL_mem hb.2 (by simpa using h)
noncomputable def baseT:List (Nat×List AV)→T4 Blk→T4 Blk
 | [],t=>t
 | (a,l) :: r,t=>put4 t a (.v a (.cells l false 0)) (baseT r)
noncomputable def memOf (c:Cut) : Mem:=⟨.tr (baseT c.base e4),c.n⟩
noncomputable def covers (H:Mem) : List (Nat×List AV)→Bool
 | []=>true
 | (a,l) :: r=>match H.get a with
  | some (.cells l' _ _)=>match eqAVs l' l with | true=>covers H r | false=>false
  | _=>false
noncomputable def adds (n1:Nat) : List (Nat×Blk)→Mem→Mem
 | [],H=>⟨H.t,n1⟩
 | (a,b) :: r,H=>H.setK a b (adds n1 r)
noncomputable def newsOk (H:Mem) (n:Nat) (p:Nat→Bool) : List (Nat×Blk)→Bool
 | []=>true
 | (a,.cells l true z) :: r=>match H.get a with
  | some b=>eqBlk b (.cells l true z) && (Nat.ble n a && (inL p l && newsOk H n p r))
  | none=>false
 | _=>false
def kept (n:Nat) (l:List (Nat×Blk)) (a:Nat) : Bool:=match Nat.blt a n with | true=>true | false=>elemN a (l.map (·.1))
noncomputable def cutOk (c:Cut) (r:COut) : Bool:=match r with
 | .ret v H=>eqAV v c.v && (Nat.beq H.next c.n1 && (inV (kept c.n c.news) c.v && newsOk H c.n (kept c.n c.news) c.news))
 | _=>false
noncomputable def sCut (c:Cut) (args:List AV) (H:Mem) : COut:=match eqAVs args c.args,covers H c.base with
 | true,true=>.ret c.v (adds c.n1 c.news H)
 | _,_=>.bad
noncomputable def cutsO (O:CallF) (l:List Cut) : CallF :=
 List.rec (motive:=fun _=>CallF) O (fun c _ ih f a H=>match Nat.beq f c.f with
  | true=>match Nat.beq H.next c.n with
   | true=>sCut c a H
   | false=>ih f a H
  | false=>ih f a H) l
theorem baseT_get:∀ {l:List (Nat×List AV)} {t:T4 Blk} {a:Nat} {x:Blk},get4 (baseT l t) a=some x→(∃ cs,(a,cs)∈l∧x=.cells cs false 0)∨get4 t a=some x
 | [],t,a,x,h=>.inr h
 | (b,cs) :: r,t,a,x,h=>by
  unfold baseT at h
  rw [put4_eq] at h
  rcases baseT_get h with ⟨cs',hm,hx⟩ | h
  ·exact .inl ⟨cs',List.mem_cons_of_mem _ hm,hx⟩
  ·rcases get4_v _ _ _ _ _ h with ⟨rfl,rfl⟩ | ⟨_,h⟩
   ·exact .inl ⟨cs,List.mem_cons_self ..,rfl⟩
   ·exact .inr h
theorem covers_spec:∀ {l:List (Nat×List AV)},covers H l=true→∀ a cs,(a,cs)∈l→∃ own z,H.get a=some (.cells cs own z)
 | (b,cs') :: r,h,a,cs,hm=>by
  unfold covers at h
  split at h
  ·rename_i l' own z hg
   split at h
   ·rename_i he
    have he':=eqAVs_sound _ _ he
    subst he'
    rcases List.mem_cons.1 hm with e | hm
    ·cases e; exact ⟨own,z,hg⟩
    ·exact covers_spec h a cs hm
   ·cases h
  ·cases h
theorem adds_get {n1:Nat} : ∀ {l:List (Nat×Blk)} {H:Mem} {a:Nat} {x:Blk},(adds n1 l H).get a=some x→(a,x)∈l∨(H.get a=some x∧∀ y,(a,y) ∉ l)
 | [],H,a,x,h=>.inr ⟨h,fun y hy=>by cases hy⟩
 | (b,y) :: r,H,a,x,h=>by
  unfold adds at h
  rw [Mem.setK_eq] at h
  rcases adds_get h with h | ⟨h,hn⟩
  ·exact .inl (List.mem_cons_of_mem _ h)
  ·rcases Mem.get_upd h with ⟨rfl,rfl⟩ | ⟨hne,h⟩
   ·exact .inl (List.mem_cons_self ..)
   ·refine .inr ⟨h,fun y' hy'=>?_⟩
    rcases List.mem_cons.1 hy' with e | hy'
    ·cases e; exact hne rfl
    ·exact hn y' hy'
theorem adds_next {n1:Nat} : ∀ {l:List (Nat×Blk)} {H:Mem},(adds n1 l H).next=n1
 | [],H=>rfl
 | (b,y) :: r,H=>by unfold adds; rw [Mem.setK_eq]; exact adds_next
theorem newsOk_spec {n:Nat} {p:Nat→Bool} : ∀ {l:List (Nat×Blk)},newsOk H n p l=true→∀ a x,(a,x)∈l→H.get a=some x∧n≤a∧∃ cs z,x=.cells cs true z∧inL p cs=true
 | (b,y) :: r,h,a,x,hm=>by
  cases y with
  | cells cs own z =>
   cases own with
   | false=>simp [newsOk] at h
   | true =>
    unfold newsOk at h
    split at h
    ·rename_i b' hg
     simp only [Bool.and_eq_true] at h
     obtain ⟨h1,h2,h3,h4⟩:=h
     rcases List.mem_cons.1 hm with e | hm
     ·cases e
      exact ⟨hg.trans (congrArg some (eqBlk_sound h1)),Nat.le_of_ble_eq_true h2,cs,z,rfl,h3⟩
     ·exact newsOk_spec h4 a x hm
    ·cases h
  | map _ _=>simp [newsOk] at h
  | siter _ _=>simp [newsOk] at h
  | typ _ _ _=>simp [newsOk] at h
theorem BR.only {p:Nat→Bool} {cs:List AV} {own:Bool} {z b o k B' : Nat} (h:BR B' ρ (.cells cs own z) b o k w) (hp:inL p cs=true) (hB:B≤B') : BR B (only p ρ) (.cells cs own z) b o k w:=by
 obtain ⟨c,e,fz,h1,h2,h3⟩:=h
 refine ⟨c,e,fz,h1,fun i v hi=>?_,fun ho=>⟨Nat.le_trans hB (h3 ho).1,(h3 ho).2⟩⟩
 obtain ⟨u,hu,hv⟩:=h2 i v hi
 exact ⟨u,hu,in_VR (inL_mem hp hi) hv⟩
theorem cut_w {O:CallF} {c:Cut} (hO:∀ B,CallOK B G P O) (hrun:cutOk c (O c.f c.args (memOf c))=true) (args:List AV) (H:Mem) (hnx:H.next=c.n) (h:sCut c args H≠.bad) : WC G P c.f args H fun r=>r=sCut c args H:=by
 unfold sCut at h ⊢
 split at h
 ·rename_i ha hcov
  have ha':=eqAVs_sound _ _ ha
  subst ha'
  cases hr:O c.f c.args (memOf c) with
  | ret v H1 =>
   rw [hr] at hrun
   simp only [cutOk,Bool.and_eq_true] at hrun
   obtain ⟨hv1,hn1,hin,hnews⟩:=hrun
   have hv1:=eqAV_sound _ _ hv1
   have hn1:=Nat.eq_of_beq_eq_true hn1
   intro B ρ us w s hv
   have s2:Sim w.heap.size G ρ (memOf c) w:=by
    have hm:∀ a x,(memOf c).get a=some x→∃ cs own z,x=.cells cs false 0∧H.get a=some (.cells cs own z):=by
     intro a x hx
     rcases baseT_get (show get4 (baseT c.base e4) a=some x from hx) with ⟨cs,hm,rfl⟩ | hx
     ·obtain ⟨own,z,hg⟩:=covers_spec hcov a cs hm
      exact ⟨cs,own,z,rfl,hg⟩
     ·rw [get4_e4] at hx; cases hx
    refine ⟨fun a x hx=>?_,fun a a' x x' b o k o' k' hx _ _ hown=>?_,fun a ha=>s.fresh a (by rw [hnx]; exact ha),fun a x hlt hx=>?_,by show G≤c.n; rw [← hnx]; exact s.names,Nat.le_refl _⟩
    ·obtain ⟨cs,own,z,rfl,hg⟩:=hm a x hx
     rcases s.blk a _ hg with hn | ⟨b,o,k,h1,c',e,fz,h2,h3,_⟩
     ·exact .inl hn
     ·exact .inr ⟨b,o,k,h1,c',e,fz,h2,h3,fun h=>by cases h⟩
    ·obtain ⟨cs,own,z,rfl,hg⟩:=hm a x hx
     cases hown
    ·obtain ⟨cs,own,z,rfl,hg⟩:=hm a x hx
     exact s.glob a _ hlt hg
   refine (hO w.heap.size c.f c.args (memOf c) (by rw [hr]; simp) ρ us w s2 hv).mono ?_
   intro e w' hc
   rw [hr] at hc
   refine ⟨_,rfl,?_⟩
   cases e with
   | returned u =>
    obtain ⟨ρ',hext,hsim,hvr,hle⟩:=hc
    have hle' : c.n≤H1.next:=hle
    have hlow:∀ a,a < c.n→only (kept c.n c.news) ρ' a=ρ a:=by
     intro a ha
     rw [only_in (by unfold kept; rw [show Nat.blt a c.n=true from Nat.ble_eq_true_of_le ha])]
     exact hext.same a ha
    have hnew:∀ a x,(a,x)∈c.news→only (kept c.n c.news) ρ' a=ρ' a:=by
     intro a x hm
     refine only_in ?_
     unfold kept
     split
     ·rfl
     ·exact elemN_mem (List.mem_map.2 ⟨_,hm,rfl⟩)
    have hpos:∀ a y,only (kept c.n c.news) ρ' a=some y→a < c.n∨∃ x,(a,x)∈c.news:=by
     intro a y hy
     unfold only at hy
     split at hy
     ·rename_i hk
      unfold kept at hk
      split at hk
      ·rename_i hb; exact .inl (Nat.le_of_ble_eq_true hb)
      ·refine .inr ?_
       have key:∀ (l:List (Nat×Blk)),elemN a (l.map (·.1))=true→∃ x,(a,x)∈l:=by
        intro l
        induction l with
        | nil=>intro h; cases h
        | cons q l ih =>
         intro h
         simp only [List.map_cons] at h
         unfold elemN at h
         split at h
         ·rename_i hb
          have e:=Nat.eq_of_beq_eq_true hb
          exact ⟨q.2,by rw [e]; exact List.mem_cons_self ..⟩
         ·obtain ⟨x,hx⟩:=ih h
          exact ⟨x,List.mem_cons_of_mem _ hx⟩
       exact key _ hk
     ·cases hy
    have hvr' : VR ρ' c.v u:=by rw [← hv1]; exact hvr
    refine ⟨only (kept c.n c.news) ρ',⟨fun a ha=>hlow a (by rw [← hnx]; exact ha),hext.keeps,hext.below.mono s.base⟩,?_,in_VR hin hvr',by rw [adds_next,← hn1,hnx]; exact hle'⟩
    have hbl:∀ a x,H.get a=some x→a < c.n→only (kept c.n c.news) ρ' a=none∨∃ b o k,ρ a=some (b,o,k)∧only (kept c.n c.news) ρ' a=some (b,o,k)∧b < w.heap.size∧BR B (only (kept c.n c.news) ρ') x b o k w':=by
     intro a x hx hlt
     rcases s.blk a x hx with hn | ⟨b,o,k,h1,h2⟩
     ·exact .inl ((hlow a hlt).trans hn)
     ·refine .inr ⟨b,o,k,h1,(hlow a hlt).trans h1,h2.lt,h2.mono (fun a' y hy=>?_) (hext.below.block b h2.lt)⟩
      rw [hlow a' (by rw [← hnx]; exact s.lt_next hy)]; exact hy
    have hbn:∀ a x,(a,x)∈c.news→only (kept c.n c.news) ρ' a=none∨∃ b o k,ρ' a=some (b,o,k)∧only (kept c.n c.news) ρ' a=some (b,o,k)∧w.heap.size≤b∧BR B (only (kept c.n c.news) ρ') x b o k w':=by
     intro a x hm
     obtain ⟨h1,h2,cs,z,rfl,h3⟩:=newsOk_spec hnews a x hm
     rcases hsim.blk a _ h1 with hn | ⟨b,o,k,h4,h5⟩
     ·exact .inl ((hnew a _ hm).trans hn)
     ·exact .inr ⟨b,o,k,h4,(hnew a _ hm).trans h4,h5.above rfl,h5.only h3 s.base⟩
    refine ⟨fun a x hx=>?_,fun a a' x x' b o k o' k' hx hx' hne hown hr1 hr2=>?_,fun a ha=>?_,fun a x hlt hx=>?_,by rw [adds_next,← hn1]; exact Nat.le_trans s.names (by rw [hnx]; exact hle'),Nat.le_trans s.base hext.below.size⟩
    ·rcases adds_get hx with hm | ⟨hx,hnot⟩
     ·rcases hbn a x hm with h | ⟨b,o,k,_,h2,_,h4⟩
      ·exact .inl h
      ·exact .inr ⟨b,o,k,h2,h4⟩
     ·rcases Nat.lt_or_ge a c.n with hlt | hge
      ·rcases hbl a x hx hlt with h | ⟨b,o,k,_,h2,_,h4⟩
       ·exact .inl h
       ·exact .inr ⟨b,o,k,h2,h4⟩
      ·cases hy:only (kept c.n c.news) ρ' a with
       | none=>exact .inl rfl
       | some y =>
        exfalso
        rcases hpos a y hy with h | ⟨x',hm⟩
        ·omega
        ·exact hnot x' hm
    ·have old:∀ a x y,H.get a=some x→(∀ y,(a,y) ∉ c.news)→only (kept c.n c.news) ρ' a=some y→ρ a=some y∧y.1 < w.heap.size:=by
      intro a x y hx hn hy
      have hlt:a < c.n:=by
       rcases hpos a y hy with h | ⟨x',hm⟩
       ·exact h
       ·exact absurd hm (hn x')
      have hy' : ρ a=some y:=by rw [← hlow a hlt]; exact hy
      refine ⟨hy',?_⟩
      rcases s.blk a x hx with h | ⟨b,o,k,h1,h2⟩
      ·rw [h] at hy'; cases hy'
      ·rw [h1] at hy'; cases hy'; exact h2.lt
     have new:∀ a x y,(a,x)∈c.news→only (kept c.n c.news) ρ' a=some y→ρ' a=some y∧w.heap.size≤y.1:=by
      intro a x y hm hy
      rcases hbn a x hm with h | ⟨b,o,k,h1,h2,h3,_⟩
      ·rw [h] at hy; cases hy
      ·rw [h2] at hy; cases hy; exact ⟨h1,h3⟩
     rcases adds_get hx with hm | ⟨hx,hn⟩
     ·have h1:=new a x _ hm hr1
      rcases adds_get hx' with hm' | ⟨hx',hn'⟩
      ·have h2:=new a' x' _ hm' hr2
       exact hsim.inj a a' x x' b o k o' k' (newsOk_spec hnews a x hm).1 (newsOk_spec hnews a' x' hm').1 hne hown h1.1 h2.1
      ·have h2:=old a' x' _ hx' hn' hr2
       have h3:=h1.2
       have h4:=h2.2
       dsimp only at h3 h4
       omega
     ·have h1:=old a x _ hx hn hr1
      rcases adds_get hx' with hm' | ⟨hx',hn'⟩
      ·have h2:=new a' x' _ hm' hr2
       have h3:=h1.2
       have h4:=h2.2
       dsimp only at h3 h4
       omega
      ·have h2:=old a' x' _ hx' hn' hr2
       exact s.inj a a' x x' b o k o' k' hx hx' hne hown h1.1 h2.1
    ·rw [adds_next] at ha
     unfold only
     split
     ·exact hsim.fresh a (by rw [hn1]; exact ha)
     ·rfl
    ·rcases adds_get hx with hm | ⟨hx,hn⟩
     ·have h1:=(newsOk_spec hnews a x hm).2.1
      have h2:=s.names
      omega
     ·rw [hlow a (by have h2:=s.names; omega)]
      exact s.glob a x hlt hx
   | _=>exact hc.elim
  | panic v H1=>rw [hr] at hrun; cases hrun
  | bad=>rw [hr] at hrun; cases hrun
 ·exact absurd rfl h
theorem cutsO_ok {O:CallF} (hO:∀ B,CallOK B G P O) : ∀ {l:List Cut},(∀ c∈l,∀ args H,H.next=c.n→sCut c args H≠.bad→WC G P c.f args H fun r=>r=sCut c args H)→∀ B,CallOK B G P (cutsO O l)
 | [],_,B=>hO B
 | c :: l,h,B=>by
  have ih:=cutsO_ok hO (l:=l) (fun c' hc'=>h c' (List.mem_cons_of_mem _ hc'))
  intro f args H hne ρ us w s hv
  have he:cutsO O (c :: l) f args H=match Nat.beq f c.f with
   | true=>match Nat.beq H.next c.n with
    | true=>sCut c args H
    | false=>cutsO O l f args H
   | false=>cutsO O l f args H:=rfl
  rw [he] at hne ⊢
  split at hne
  ·rename_i hf
   split at hne
   ·rename_i hn
    have hf':=Nat.eq_of_beq_eq_true hf
    subst hf'
    refine (h c (List.mem_cons_self ..) args H (Nat.eq_of_beq_eq_true hn) hne B ρ us w s hv).mono ?_
    rintro e w' ⟨r,rfl,hc⟩
    exact hc
   ·exact ih B f args H hne ρ us w s hv
  ·exact ih B f args H hne ρ us w s hv
structure Fact where
 f:Nat
 args:List AV
 base:List (Nat×List AV)
 v:AV
noncomputable def memF (G n:Nat) (c:Fact) : Mem:=⟨.tr (baseT c.base e4),n⟩
def named (c:Fact) (a:Nat) : Bool:=elemN a (c.base.map (·.1))
def baseIn (n:Nat) (p:Nat→Bool) : List (Nat×List AV)→Bool
 | []=>true
 | (a,l) :: r=>Nat.blt a n && (inL p l && baseIn n p r)
noncomputable def factOk (G n:Nat) (c:Fact) (r:COut) : Bool:=match r with
 | .ret v _=>eqAV v c.v && (plainV c.v && (inL (named c) c.args && (baseIn n (named c) c.base && Nat.ble G n)))
 | _=>false
noncomputable def sFact (c:Fact) (args:List AV) (H:Mem) : COut:=match eqAVs args c.args with
 | true=>match covers H c.base with
  | true=>.ret c.v H
  | false=>.bad
 | false=>.bad
noncomputable def factsO (O:CallF) (l:List Fact) : CallF :=
 List.rec (motive:=fun _=>CallF) O (fun c _ ih f a H=>match Nat.beq f c.f with
  | true=>orR (sFact c a H) (ih f a H)
  | false=>ih f a H) l
theorem baseIn_spec {n:Nat} {p:Nat→Bool} : ∀ {l:List (Nat×List AV)},baseIn n p l=true→∀ a cs,(a,cs)∈l→a < n∧inL p cs=true
 | (b,m) :: r,h,a,cs,hm=>by
  simp only [baseIn,Bool.and_eq_true] at h
  rcases List.mem_cons.1 hm with e | hm
  ·cases e; exact ⟨Nat.le_of_ble_eq_true h.1,h.2.1⟩
  ·exact baseIn_spec h.2.2 a cs hm
theorem elemN_ex {a:Nat} : ∀ {l:List Nat},elemN a l=true→a∈l
 | b :: l,h=>by
  unfold elemN at h
  split at h
  ·rename_i hb
   rw [Nat.eq_of_beq_eq_true hb]; exact List.mem_cons_self ..
  ·exact List.mem_cons_of_mem _ (elemN_ex h)
theorem fact_w {O:CallF} {c:Fact} {n:Nat} (hO:∀ B,CallOK B G P O) (hrun:factOk G n c (O c.f c.args (memF G n c))=true) (args:List AV) (H:Mem) (h:sFact c args H≠.bad) : WC G P c.f args H fun r=>r=sFact c args H:=by
 unfold sFact at h ⊢
 split at h
 ·rename_i ha
  split at h
  ·rename_i hcov
   have ha':=eqAVs_sound _ _ ha
   subst ha'
   cases hr:O c.f c.args (memF G n c) with
   | ret v H1 =>
    rw [hr] at hrun
    simp only [factOk,Bool.and_eq_true] at hrun
    obtain ⟨hv1,hpl,hin,hbase,hG⟩:=hrun
    have hv1:=eqAV_sound _ _ hv1
    intro B ρ us w s hv
    have hm:∀ a x,(memF G n c).get a=some x→∃ cs own z,x=.cells cs false 0∧H.get a=some (.cells cs own z)∧a < n∧inL (named c) cs=true∧named c a=true:=by
     intro a x hx
     rcases baseT_get (show get4 (baseT c.base e4) a=some x from hx) with ⟨cs,hm,rfl⟩ | hx
     ·obtain ⟨own,z,hg⟩:=covers_spec hcov a cs hm
      obtain ⟨h1,h2⟩:=baseIn_spec hbase a cs hm
      exact ⟨cs,own,z,rfl,hg,h1,h2,elemN_mem (List.mem_map.2 ⟨_,hm,rfl⟩)⟩
     ·rw [get4_e4] at hx; cases hx
    have s2:Sim w.heap.size G (only (named c) ρ) (memF G n c) w:=by
     refine ⟨fun a x hx=>?_,fun a a' x x' b o k o' k' hx _ _ hown=>?_,fun a ha=>?_,fun a x hlt hx=>?_,Nat.le_of_ble_eq_true hG,Nat.le_refl _⟩
     ·obtain ⟨cs,own,z,rfl,hg,h1,h2,h3⟩:=hm a x hx
      rw [only_in h3]
      rcases s.blk a _ hg with hn | ⟨b,o,k,h4,c',e,fz,h5,h6,_⟩
      ·exact .inl hn
      ·refine .inr ⟨b,o,k,h4,c',e,fz,h5,fun i v hi=>?_,fun h=>by cases h⟩
       obtain ⟨u,hu,hvu⟩:=h6 i v hi
       exact ⟨u,hu,in_VR (inL_mem h2 hi) hvu⟩
     ·obtain ⟨cs,own,z,rfl,hg,_⟩:=hm a x hx
      cases hown
     ·unfold only
      split
      ·rename_i hk
       obtain ⟨q,hq,e⟩:=List.mem_map.1 (elemN_ex hk)
       have:=(baseIn_spec hbase q.1 q.2 hq).1
       have ha' : n≤a:=ha
       omega
      ·rfl
     ·obtain ⟨cs,own,z,rfl,hg,h1,h2,h3⟩:=hm a x hx
      rw [only_in h3]
      exact s.glob a _ hlt hg
    refine (hO w.heap.size c.f c.args (memF G n c) (by rw [hr]; simp) _ us w s2 (in_VRs hin hv)).mono ?_
    intro e w' hc
    rw [hr] at hc
    refine ⟨_,rfl,?_⟩
    cases e with
    | returned x =>
     obtain ⟨ρ',h1,h2,h3,h4⟩:=hc
     have hb:=h1.below
     rw [hv1] at h3
     refine ⟨ρ,⟨fun _ _=>rfl,h1.keeps,hb.mono s.base⟩,?_,plain_VR hpl h3,Nat.le_refl _⟩
     refine s.other hb.size fun a x b o k ha hra=>?_
     exact hb.block b (s.at ha hra).lt
    | panicked chain=>exact hc.elim
    | outgrown=>exact hc.elim
   | panic v H1=>rw [hr] at hrun; cases hrun
   | bad=>rw [hr] at hrun; cases hrun
  ·exact absurd rfl h
 ·exact absurd rfl h
/- Groups. -/
def CutGood (G:Nat) (P:Program) (l:List Cut) : Prop:=∀ c∈l,∀ args H,H.next=c.n→sCut c args H≠.bad→WC G P c.f args H fun r=>r=sCut c args H
def FactGood (G:Nat) (P:Program) (l:List Fact) : Prop:=∀ c∈l,∀ args H,sFact c args H≠.bad→WC G P c.f args H fun r=>r=sFact c args H
theorem CutGood.nil:CutGood G P []:=fun c hc=>by cases hc
theorem FactGood.nil:FactGood G P []:=fun c hc=>by cases hc
theorem CutGood.append {l m:List Cut} (h:CutGood G P l) (k:CutGood G P m) : CutGood G P (l++m):=fun c hc=>(List.mem_append.1 hc).elim (h c) (k c)
theorem FactGood.append {l m:List Fact} (h:FactGood G P l) (k:FactGood G P m) : FactGood G P (l++m):=fun c hc=>(List.mem_append.1 hc).elim (h c) (k c)
noncomputable def cutsRun (O:CallF) (l:List Cut) : Bool:=List.rec (motive:=fun _=>Bool) true (fun c _ ih=>cutOk c (O c.f c.args (memOf c)) && ih) l
noncomputable def factsRun (G n:Nat) (O:CallF) (l:List Fact) : Bool:=List.rec (motive:=fun _=>Bool) true (fun c _ ih=>factOk G n c (O c.f c.args (memF G n c)) && ih) l
theorem CutGood.run {O:CallF} (hO:∀ B,CallOK B G P O) : ∀ {l:List Cut},cutsRun O l=true→CutGood G P l
 | [],_=>.nil
 | c :: l,h=>by
  have h' : (cutOk c (O c.f c.args (memOf c)) && cutsRun O l)=true:=h
  rw [Bool.and_eq_true] at h'
  intro c' hc'
  rcases List.mem_cons.1 hc' with rfl | hc'
  ·exact cut_w hO h'.1
  ·exact CutGood.run hO h'.2 c' hc'
theorem FactGood.run {n:Nat} {O:CallF} (hO:∀ B,CallOK B G P O) : ∀ {l:List Fact},factsRun G n O l=true→FactGood G P l
 | [],_=>.nil
 | c :: l,h=>by
  have h' : (factOk G n c (O c.f c.args (memF G n c)) && factsRun G n O l)=true:=h
  rw [Bool.and_eq_true] at h'
  intro c' hc'
  rcases List.mem_cons.1 hc' with rfl | hc'
  ·exact fact_w hO h'.1
  ·exact FactGood.run hO h'.2 c' hc'
theorem factsO_ok {O:CallF} (hO:∀ B,CallOK B G P O) : ∀ {l:List Fact},FactGood G P l→∀ B,CallOK B G P (factsO O l)
 | [],_,B=>hO B
 | c :: l,h,B=>by
  have ih:=factsO_ok hO (l:=l) (fun c' hc'=>h c' (List.mem_cons_of_mem _ hc'))
  intro f args H hne ρ us w s hv
  have he:factsO O (c :: l) f args H=match Nat.beq f c.f with
   | true=>orR (sFact c args H) (factsO O l f args H)
   | false=>factsO O l f args H:=rfl
  rw [he] at hne ⊢
  split at hne
  ·rename_i hf
   have hf':=Nat.eq_of_beq_eq_true hf
   subst hf'
   cases hs:sFact c args H with
   | bad=>rw [hs] at hne; exact ih B c.f args H hne ρ us w s hv
   | ret v H1 =>
    refine (h c (List.mem_cons_self ..) args H (by rw [hs]; simp) B ρ us w s hv).mono ?_
    rintro e w' ⟨r,rfl,hc⟩
    rw [hs] at hc
    exact hc
   | panic v H1 =>
    refine (h c (List.mem_cons_self ..) args H (by rw [hs]; simp) B ρ us w s hv).mono ?_
    rintro e w' ⟨r,rfl,hc⟩
    rw [hs] at hc
    exact hc
  ·exact ih B f args H hne ρ us w s hv
noncomputable def withO (fs:List Fact) (cs:List Cut) : CallF:=factsO (cutsO (fun _ _ _=>.bad) cs) fs
theorem withO_ok {fs:List Fact} {cs:List Cut} (hf:FactGood G P fs) (hc:CutGood G P cs) : ∀ B,CallOK B G P (withO fs cs) :=
 factsO_ok (cutsO_ok (fun B f args H hne=>absurd rfl hne) hc) hf
end Go.Ai
end
section
namespace Go.Ai
open Go.RowKit (Below)
variable {B G:Nat} {ρ:Rn} {H:Mem} {w:World} {P:Program} {ev:Ev} {e:Operand→Value} {o:Oper}
theorem BR.flat {T:TypeId} {l:List AV} {ex:Bool} {b q k:Nat} (h:BR B ρ (.typ T l ex) b q k w) : BR B ρ (.cells l true 0) b q k w:=by
 obtain ⟨rfl,hB,c,hb,hc,_⟩:=h
 exact ⟨c,T,(0,0),hb,fun i v hi=>let ⟨u,hu,hv⟩:=hc i v hi; ⟨u,by simpa using hu,hv⟩,fun _=>⟨hB,fun j _ h=>by omega,by simp,.inl rfl⟩⟩
noncomputable def isBld (P:Program) (t:TypeId) : Bool:=match P.underlying t with
 | some (.struct fs)=>match fs[0]? with
  | some f=>match P.underlying f.type with
   | some (.pointer u)=>Nat.beq u t
   | _=>false
  | none=>false
 | _=>false
noncomputable def bAlloc (P:Program) (H:Mem) (t:TypeId) : R:=match isBld P t with
 | true=>(match zeroL P t with | some l=>H.newK (.typ t l true) fun H'=>.val (.ptr H.next 0) H' | none=>.bad)
 | false=>.bad
noncomputable def bLoad (P:Program) (H:Mem) (t:TypeId) (a:Option AV) : R:=match a with
 | some (.ptr n off)=>(match H.get n with
  | some (.typ _ l _)=>ofOpt H (loadB (tIsAgg P t) (some (.cells l true 0)) off)
  | _=>.bad)
 | _=>.bad
noncomputable def bStore (P:Program) (H:Mem) (t:TypeId) (a x:Option AV) : R:=match a,x with
 | some (.ptr n off),some v=>(match H.get n,tIsAgg P t with
  | some (.typ T l true),some (_,size)=>(match Nat.beq (len (cellsOf v)) size && allOne (cellsOf v) with
   | true=>putCellsK .bad l off (cellsOf v) fun l'=>H.setK n (.typ T l' true) .skip
   | false=>.bad)
  | _,_=>.bad)
 | _,_=>.bad
noncomputable def bConv (P:Program) (H:Mem) (src dst:TypeId) (x:Option AV) : R:=match x with
 | some (.ptr n 0)=>(match H.get n with
  | some (.typ T l true)=>(match P.underlying src,P.underlying dst with
   | some (.pointer t),some .unsafePointer=>(match P.info? t with
    | some j=>(match Nat.beq j.size 0,Nat.beq l.length 0 with | false,false=>.val (.ptr n 0) H | _,_=>.bad)
    | none=>.bad)
   | some .unsafePointer,some (.pointer u)=>(match P.info? u,liesAt P P.depth T (l.length / P.cellsOf T) 0 u 1 with
    | some _,true=>.val (.ptr n 0) H
    | _,_=>.bad)
   | _,_=>.bad)
  | _=>.bad)
 | _=>.bad
theorem b_alloc (s:Sim B G ρ H w) {t:TypeId} (h:o.op=.alloc t) : RS B G P ρ H w (bAlloc P H t) (execOp e o):=by
 unfold bAlloc
 split
 ·split
  ·rename_i l hl
   unfold zeroL at hl
   split at hl
   ·rename_i i hi
    split at hl
    ·rename_i zv hz
     cases hl
     rw [Mem.newK_eq]
     have hc:VRs (upd ρ H.next (w.heap.size,0,0)) (zv.cells.toList.map .lit) zv.cells.toList:=VRs.lits _
     refine ⟨upd ρ H.next (w.heap.size,0,0),.pointer (some ⟨w.heap.size,0,none⟩),{ w with heap:=w.heap.push (.cells zv.cells t) },by simp [execOp,h,Instr.alloc,newVar,newRow,run_zero hi hz],Ext.alloc ρ _ _ w _ _ rfl rfl rfl rfl s.base,?_,⟨_,_,_,upd_same _ _ _,rfl⟩,Nat.le_succ _⟩
     refine s.alloc _ _ 0 _ rfl ⟨rfl,s.base,zv.cells,by simp,fun i v hi=>?_,fun _=>by simp,fun h=>by cases h⟩
     obtain ⟨u,hu,hv⟩:=hc.get i hi
     exact ⟨u,by simpa using hu,hv⟩
    ·cases hl
   ·cases hl
  ·trivial
 ·trivial
theorem b_load (s:Sim B G ρ H w) (he:EvR ρ ev e) {t:TypeId} {x:Operand} (h:o.op=.load t x) : RS B G P ρ H w (bLoad P H t (ev x)) (execOp e o):=by
 unfold bLoad
 split
 ·rename_i n off hx
  split
  ·rename_i T l ex hg
   refine RS.ofOpt s fun v hv=>?_
   obtain ⟨b,q,k,hr,hu⟩:=he _ _ hx
   obtain ⟨r,hr2,hvr⟩:=loadB_sound hv (s.at hg hr).flat
   exact ⟨r,by simp [execOp,h,hu,hr2],hvr⟩
  ·trivial
 ·trivial
theorem b_store (s:Sim B G ρ H w) (he:EvR ρ ev e) {t:TypeId} {a x:Operand} (h:o.op=.store t a x) : RS B G P ρ H w (bStore P H t (ev a) (ev x)) (execOp e o):=by
 unfold bStore
 split
 ·rename_i n off v hp hv
  split
  ·rename_i T l bl size hg ht
   split
   ·rename_i hcond
    rw [putCellsK_eq]
    split
    ·rename_i hle
     rw [Mem.setK_eq]
     simp only [Bool.and_eq_true] at hcond
     have hsz:len (cellsOf v)=size:=Nat.eq_of_beq_eq_true hcond.1
     rw [len_eq] at hsz
     obtain ⟨b,q,k,hr,hu⟩:=he _ _ hp
     have hcells:=(he _ _ hv).cells
     obtain ⟨rfl,hB,c,hb,hc,hex,_⟩:=s.at hg hr
     have hcs:=hex rfl
     have hlen:=hcells.length
     obtain ⟨w',c',hrun,hb',hcs',hcl,hoth,hws,h2,h3,h4⟩:=run_storeAll (P:=P) b (0+off) T (0,0) (e x).cells.toList 0 c w hb (fun j _ hj=>by omega) (by omega) (allOne_VRs hcells hcond.2)
     refine ⟨ρ,w',?_,⟨fun _ _=>rfl,KD.turn hb rfl (fun q hq=>hoth q hq),h2,h3,h4,by omega,fun q hq=>hoth q (by omega)⟩,?_,Nat.le_refl _⟩
     ·have hlen2:(e x).cells.size=size:=by simp at hlen; omega
      have hrun' : (storeCells ⟨b,off,none⟩ (e x).cells.toList).run P w=.ok () w':=by simpa using hrun
      simp [execOp,h,Instr.storeAt,Instr.sureAddr,hu,storeVar,(run_agg ht _).2,hlen2,hrun']
     ·refine s.set hg hr rfl rfl (by omega) (fun b' hb2 _=>hoth b' hb2) ⟨rfl,hB,c',hb',?_,fun _=>?_,fun h=>by cases h⟩
      ·intro i v2 hi
       rw [hcl]
       by_cases h1:i < off
       ·rw [if_neg (by omega)]
        apply hc
        rw [List.append_assoc,List.getElem?_append_left (by simp; omega)] at hi
        rw [List.getElem?_take,if_pos h1] at hi; exact hi
       ·by_cases h2:i < off+(cellsOf v).length
        ·rw [if_pos (by omega)]
         rw [List.append_assoc,List.getElem?_append_right (by simp; omega),List.getElem?_append_left (by simp; omega)] at hi
         have e1:min off l.length=off:=by omega
         simp only [List.length_take,e1] at hi
         obtain ⟨u,hu,huv⟩:=hcells.get _ hi
         refine ⟨u,?_,huv⟩
         rw [← hu]; congr 1; omega
        ·rw [if_neg (by omega)]
         apply hc
         rw [List.getElem?_append_right (by simp; omega)] at hi
         have e1:min off l.length=off:=by omega
         simp only [List.length_append,List.length_take,e1,List.getElem?_drop] at hi
         rw [← hi]; congr 1; omega
      ·rw [hcs',hcs]; simp; omega
    ·trivial
   ·trivial
  ·trivial
 ·trivial
theorem b_conv (s:Sim B G ρ H w) (he:EvR ρ ev e) {src dst:TypeId} {x:Operand} (h:o.op=.convert src dst x) : RS B G P ρ H w (bConv P H src dst (ev x)) (execOp e o):=by
 unfold bConv
 split
 ·rename_i n hx
  split
  ·rename_i T l hg
   obtain ⟨b,q,k,hr,hu⟩:=he _ _ hx
   obtain ⟨rfl,hB,c,hb,hc,hex,_⟩:=s.at hg hr
   have hcs:=hex rfl
   have hsh:w.shape? b=some (T,c.size):=by simp [World.shape?,hb]
   split
   ·rename_i t hs hd
    split
    ·rename_i j hj
     split
     ·rename_i h1 h2
      have hj0:j.size≠0:=fun e=>by rw [e] at h1; cases h1
      have hl0:l.length≠0:=fun e=>by rw [e] at h2; cases h2
      have key:=Lib.run_to_unsafe (P:=P) w ⟨b,0,none⟩ hs hd hj hj0 hsh (by show 0 < c.size; omega)
      refine RS.quiet s (u:=.pointer (some ⟨b,0,none⟩)) ?_ ⟨b,0,k,hr,rfl⟩
      simp [execOp,h,hu,key]
     ·trivial
    ·trivial
   ·rename_i u hs hd
    split
    ·rename_i j hj hlies
     have key:=Lib.run_from_unsafe (P:=P) w ⟨b,0,none⟩ hs hd hj hsh (by rw [hcs]; exact hlies)
     refine RS.quiet s (u:=.pointer (some ⟨b,0,none⟩)) ?_ ⟨b,0,k,hr,rfl⟩
     simp [execOp,h,hu,key]
    ·trivial
   ·trivial
  ·trivial
 ·trivial
noncomputable def newTyp (H:Mem) (el:TypeId) (l:List AV) (n:Nat) : Option (AV×Mem):=H.newK (.typ el l false) fun H'=>some (.slq H.next 0 n 0,H')
noncomputable def appT (H:Mem) (el:TypeId) (bytes n:Nat) (st:AV) (new:List AV) : Option (AV×Mem) :=
 match Nat.beq (len new) n && allOne new with
 | true=>match st with
  | .lit (.slice none 0 0)=>(match small n 0 bytes with | true=>newTyp H el new n | false=>none)
  | .slq a 0 k 0=>(match H.get a with
   | some (.typ T l false)=>(match Nat.beq T el && (Nat.beq k (len l) && small (k+n) 0 bytes) with
    | true=>appK l new fun l'=>H.delK a fun H'=>newTyp H' el l' (k+n)
    | false=>none)
   | _=>none)
  | _=>none
 | false=>none
theorem vs_newTyp {l:List AV} {cells:Array Value} {el:TypeId} {m:Sem Value} {n cap:Nat} (s:Sim B G ρ H w) (hn:n≤cap) (hc:VRs ρ l cells.toList) (rest:Array Value)
  (hl:l.length=n) (hrest:rest.size=cap - n)
  (hrun:m.run P w=.ok (.slice (some ⟨w.heap.size,0,none⟩) n cap) (w.drew.alloc (.cells (cells++rest) el))) : VS B G P ρ H w (newTyp H el l n) m:=by
 unfold newTyp
 rw [Mem.newK_eq]
 intro v H' e; cases e
 have hcl:cells.size=n:=by have:=hc.length; simp at this; omega
 refine ⟨upd ρ H.next (w.heap.size,0,cap),_,_,hrun,Ext.alloc ρ _ _ w _ (.cells (cells++rest) el) rfl rfl rfl rfl s.base,?_,⟨_,_,_,upd_same _ _ _,by omega,rfl⟩,Nat.le_succ _⟩
 refine s.alloc _ (.cells (cells++rest) el) cap _ rfl ⟨rfl,s.base,cells++rest,alloc_at w _ _ rfl,?_,fun h=>(by cases h),fun _=>⟨?_,by omega⟩⟩
 ·intro i v hi
  obtain ⟨u,hu,hv⟩:=hc.get i hi
  have hlt:i < cells.size:=by
   have:=(List.getElem?_eq_some_iff.1 hu).1; simpa using this
  exact ⟨u,by rw [Array.getElem?_append_left hlt]; simpa using hu,hv.mono (sub_upd s.none)⟩
 ·simp [hrest,hcl]; omega
section app
variable {argTypes:Array TypeId} {args:Array Value} {ty sT xT el:TypeId} {dx:TypeDesc} {i:TypeInfo} {zv:Value} {n:Nat} {x:AV} {xu su:Value} {st:AV} {new:List AV}
theorem appT_core {cs:Array Value} (hzs:zv.cells.size=1) (s:Sim B G ρ H w) (hsv:VR ρ st su) (hn0:n≠0) (hi1:i.size=1) (hcs:VRs ρ new cs.toList)
  (hin:∀ {base:Option Addr} {sLen sCap:Nat},su=.slice base sLen sCap→sLen+n≤sCap→(Builtin.append_ argTypes ty args).run P w =
   ((match base with | some a=>storeCells (a.add (sLen * i.size)) cs.toList | none=>pure ()).run P w).andThen fun _ w'=>.ok (.slice base (sLen+n) sCap) w')
  (hgrow:∀ {base:Option Addr} {sLen sCap:Nat} {old:Array Value},su=.slice base sLen sCap→sCap < sLen+n→small (sLen+n) sCap i.bytes=true →
   (Builtin.firstCells i.size sLen (.slice base sLen sCap)).run P w.drew=.ok old w.drew→∃ cap,sLen+n≤cap∧(Builtin.append_ argTypes ty args).run P w =
   .ok (.slice (some ⟨w.heap.size,0,none⟩) (sLen+n) cap) (w.drew.alloc (.cells (old++(cs++Builtin.zeroCells zv.cells (cap - (sLen+n)))) el))) :
  VS B G P ρ H w (appT H el i.bytes n st new) (Builtin.append_ argTypes ty args):=by
 unfold appT
 split
 ·rename_i hl0
  simp only [Bool.and_eq_true] at hl0
  have hl' : new.length=n:=by rw [← len_eq]; exact Nat.eq_of_beq_eq_true hl0.1
  have hone:=allOne_VRs hcs hl0.2
  have hcsz:cs.size=n:=by have:=hcs.length; simp at this; omega
  split
  ·cases hsv
   split
   ·rename_i hsm
    obtain ⟨cap,hcap,hrun⟩:=hgrow rfl (by omega) (by simpa using hsm) (old:=#[]) rfl
    simp only [Nat.zero_add] at hrun hcap
    refine vs_newTyp (el:=el) s hcap hcs (Builtin.zeroCells zv.cells (cap - n)) hl' (by rw [zeroCells_size,hzs,Nat.mul_one]) ?_
    rw [hrun]; simp
   ·exact vs_none
  ·rename_i a k
   obtain ⟨b,q,K,hr,hle,rfl⟩:=hsv
   split
   ·rename_i T l hb
    obtain ⟨rfl,hB,c,hbb,hcc,_,hK⟩:=s.at hb hr
    obtain ⟨hcK,hlK⟩:=hK rfl
    split
    ·rename_i h1
     simp only [Bool.and_eq_true] at h1
     have hT:T=el:=Nat.eq_of_beq_eq_true h1.1
     subst hT
     have hkl:k=l.length:=by rw [← len_eq]; exact Nat.eq_of_beq_eq_true h1.2.1
     have hsm:=h1.2.2
     rw [appK_eq,Mem.delK_eq]
     obtain ⟨us,hul,hus,hcell⟩:=(s.at hb hr).flat.sub (off:=0) (n:=k) (by omega)
     have hus' : VRs ρ l us:=by
      have:(l.drop 0).take k=l:=by rw [List.drop_zero,hkl,List.take_length]
      rw [this] at hus; exact hus
     simp only [Nat.sub_zero,Nat.add_zero,Nat.zero_add] at hle hin hgrow hcell ⊢
     by_cases hfit:k+n≤K
     ·obtain ⟨w',c',hst,hb',hcz,hcells,hoth,hws,g2,g3,g4⟩:=run_storeAll (P:=P) b k T (0,0) cs.toList 0 c w hbb (fun j _ hj=>by omega) (by simp; omega) hone
      unfold newTyp
      rw [Mem.newK_eq]
      intro v H' e0; cases e0
      have srm:=s.rm a
      have hext:Ext B H.next ρ w (upd ρ H.next (b,0,K)) w':=⟨fun j hj=>upd_ne _ _ (by omega),KD.turn hbb rfl (fun j hj=>hoth j hj),g2,g3,g4,by omega,fun j hj=>hoth j (by omega)⟩
      refine ⟨upd ρ H.next (b,0,K),.slice (some ⟨b,0,none⟩) (k+n) K,w',?_,hext,?_,⟨b,0,K,upd_same _ _ _,by omega,by simp⟩,Nat.le_succ _⟩
      ·rw [hin rfl hfit]
       simp only [add_none,hi1,Nat.mul_one,Nat.zero_add,hst]
       rfl
      ·refine srm.add (by omega) ?_ ⟨rfl,hB,c',hb',?_,fun h=>(by cases h),fun _=>⟨by omega,by rw [List.length_append]; omega⟩⟩
       ·intro j y b1 o1 k1 hy hrj
        obtain ⟨hne,hy⟩:=Mem.get_rm hy
        have hbne:b1≠b:=by
         rintro rfl
         exact s.inj a j _ y b1 0 K o1 k1 hb hy (Ne.symm hne) rfl hr hrj
        exact ⟨hbne,hoth b1 hbne⟩
       ·intro j v hj
        have hsub:=sub_upd (x:=(b,0,K)) s.none
        by_cases hj1:j < k
        ·rw [List.getElem?_append_left (by omega)] at hj
         obtain ⟨u,hu,huv⟩:=hcc _ _ hj
         refine ⟨u,?_,huv.mono hsub⟩
         rw [hcells,if_neg (by omega),← hu]
        ·rw [List.getElem?_append_right (by omega),← hkl] at hj
         obtain ⟨u,hu,huv⟩:=hcs.get _ hj
         have hjlt:=(List.getElem?_eq_some_iff.1 hu).1
         refine ⟨u,?_,huv.mono hsub⟩
         rw [hcells,if_pos (by omega),← hu]; congr 1
     ·have hfit' : K < k+n:=by omega
      have hold:(Builtin.firstCells i.size k (.slice (some ⟨b,0,none⟩) k K)).run P w.drew=.ok us.toArray w.drew:=by
       rw [Builtin.firstCells,hi1,Nat.mul_one,← hul]
       exact run_loadAll us fun j v hj=>by rw [Nat.zero_add]; exact hcell j v hj
      have hsm' : small (k+n) K i.bytes=true:=by
       simp only [small,Bool.and_eq_true,decide_eq_true_eq] at hsm ⊢
       omega
      obtain ⟨cap',hcap,hrun⟩:=hgrow rfl hfit' hsm' hold
      refine vs_newTyp (el:=T) (H:=H.rm a) (s.rm a) hcap (cells:=us.toArray++cs) (by simpa using hus'.append hcs) (Builtin.zeroCells zv.cells (cap' - (k+n))) ?_ (by rw [zeroCells_size,hzs,Nat.mul_one]) ?_
      ·rw [List.length_append]; omega
      ·rw [hrun]; simp
    ·exact vs_none
   ·exact vs_none
  ·exact vs_none
 ·exact vs_none
end app
noncomputable def bAppend (P:Program) (H:Mem) (c:Call) (args:List AV) : R:=match args,c.argTypes[0]? with
 | [st,x],some sT=>(match elemOfSlice P sT,appended P c.argTypes[1]?,lenOf x with
  | some (el,size,bytes),true,some n=>(match P.underlying el with
   | some (.int .u8)=>(match Nat.beq size 1 && Nat.blt 0 n,firstL H size n x with
    | true,some new=>(match appT H el bytes n st new with | some (v,H')=>.val v H' | none=>.bad)
    | _,_=>.bad)
   | _=>.bad)
  | _,_,_=>.bad)
 | _,_=>.bad
theorem b_append (s:Sim B G ρ H w) (he:EvR ρ ev e) {c:Call} (h:o.op=.call c) (hc:c.callee=.builtin .append) {args:List AV} (hargs:evals ev c.args.toList=some args) : RS B G P ρ H w (bAppend P H c args) (execOp e o):=by
 have hva:VRs ρ args (c.args.map e).toList:=by simpa using evals_VRs he hargs
 unfold bAppend
 split
 ·rename_i st x sT hsT
  obtain ⟨su,xu,hl,hsv,hxv⟩:=hva.two
  have ha0:(c.args.map e)[0]?=some su:=by rw [← Array.getElem?_toList,hl]; rfl
  have ha1:(c.args.map e)[1]?=some xu:=by rw [← Array.getElem?_toList,hl]; rfl
  split
  ·rename_i el size bytes n hel happ hn
   split
   ·split
    ·rename_i new hs1 hf
     simp only [Bool.and_eq_true] at hs1
     have hs1' : size=1:=Nat.eq_of_beq_eq_true hs1.1
     have hn0:n≠0:=by
      rintro rfl
      exact absurd hs1.2 (by decide)
     obtain ⟨hd,i,zv,hi,rfl,rfl,hz,hzs⟩:=elemOf_sound hel
     unfold appended at happ
     cases hx:c.argTypes[1]? with
     | none=>rw [hx] at happ; cases happ
     | some xT =>
      rw [hx] at happ
      have hdx:∃ dx,P.underlying xT=some dx∧∀ k,dx≠.int k:=by
       dsimp only at happ
       split at happ
       ·rename_i e' h1; exact ⟨_,h1,by simp⟩
       ·rename_i h1; exact ⟨_,h1,by simp⟩
       ·cases happ
      obtain ⟨dx,hxd,hni⟩:=hdx
      obtain ⟨cs,hfc,hcs⟩:=firstL_sound (P:=P) s hf hxv
      have hlen:=lenOf_sound (P:=P) hn hxv w
      have key:VS B G P ρ H w (appT H el i.bytes n st new) (Builtin.append_ c.argTypes o.type (c.args.map e)) :=
       appT_core (el:=el) (by rw [hzs,hs1']) s hsv hn0 hs1' hcs
        (fun e1 hfit=>run_append_in (P:=P) (w:=w) (ty:=o.type) hsT hx hd hxd hni hi (by rw [ha0,e1]) ha1 hlen hfit (hfc w rfl))
        (fun e1 hgt hsm hold=>run_append_grow (P:=P) (w:=w) (ty:=o.type) hsT hx hd hxd hni hi hz (by rw [ha0,e1]) ha1 hlen hgt hsm hold (hfc _ rfl))
      split
      ·rename_i v H' hr
       obtain ⟨ρ',r,w',g1,g2,g3,g4,g5⟩:=key v H' hr
       exact ⟨ρ',r,w',by rw [exec_builtin h hc]; simp [builtin,g1],g2,g3,g4,g5⟩
      ·trivial
    ·trivial
   ·trivial
  ·trivial
 ·trivial
theorem find_noEscape {fn:Func} (h:fn.name = "internal/abi.NoEscape") : Extern.find fn=some Extern.AbiNoEscape.same:=by
 unfold Extern.find
 rw [h]
 kernel_rfl
noncomputable def pureG {α:Type} (P:Program) (H:Mem) : Sem α→Option α
 | .pure a=>some a
 | .program k=>pureG P H (k P)
 | .mark _ k=>pureG P H k
 | .choose q k=>if q.forced then pureG P H (k 0) else none
 | .load _ ⟨g,off,none⟩ k=>match Nat.blt g P.globals.size,H.get g with
  | true,some (.cells l _ _)=>(match nth l off with | some (.lit v)=>pureG P H (k v) | _=>none)
  | _,_=>none
 | _=>none
theorem pureG_run {α:Type} (s:Sim B G ρ H w) (hG:G=P.globals.size) : ∀ {m:Sem α} {a:α},pureG P H m=some a→m.run P w=.ok a w:=by
 intro m
 induction m with
 | pure b=>intro a h; simp only [pureG] at h; cases h; rfl
 | program k ih=>intro a h; simp only [pureG] at h; exact ih _ h
 | mark m k ih=>intro a h; simp only [pureG] at h; exact ih h
 | choose q k ih =>
  intro a h
  simp only [pureG] at h
  split at h
  ·rename_i hq; simp only [Sem.run,hq,if_true]; exact ih _ h
  ·cases h
 | load md ad k ih =>
  intro a h
  obtain ⟨g,off,sp⟩:=ad
  cases sp with
  | some x=>simp [pureG] at h
  | none =>
   simp only [pureG] at h
   split at h
   ·rename_i l own z hlt hg
    split at h
    ·rename_i v hv
     have h9:g+1≤P.globals.size:=by simpa [Nat.blt,Nat.ble_eq] using hlt
     have hr:=s.glob g _ (by rw [hG]; exact h9) hg
     obtain ⟨c,e,fz,hb,hc,_⟩:=s.at hg hr
     rw [nth_eq] at hv
     obtain ⟨u,hu,hvu⟩:=hc _ _ hv
     have huv:u=v:=hvu
     subst huv
     rw [Nat.zero_add] at hu
     simp only [Sem.run,cell_of hb hu]
     exact ih _ h
    ·cases h
   ·cases h
 | _=>intro a h; simp [pureG] at h
noncomputable def bExt (P:Program) (H:Mem) (g:FuncId) (args:List AV) : R:=match P.funcs[g]? with
 | some fn=>(match fn.body.isNone && !(fn.name == "runtime.NumGoroutine"),Extern.findNext fn with
  | true,none=>(match fn.name == "internal/abi.NoEscape",args with
   | true,[v]=>.val v H
   | _,_=>(match Extern.find fn,litAll args with
    | some en,some vs=>(match pureG P H (en vs.toArray) with | some u=>.val (.lit u) H | none=>.bad)
    | _,_=>.bad))
  | _,_=>.bad)
 | none=>.bad
theorem b_ext (s:Sim B G ρ H w) (hG:G=P.globals.size) {g:FuncId} {args:List AV} {us:Array Value} {m:Sem Next} (hm:m.run P w=(callFunc g us).run P w) (hv:VRs ρ args us.toList) : RS B G P ρ H w (bExt P H g args) m:=by
 unfold bExt
 split
 ·rename_i fn hfn
  split
  ·rename_i hb hnx
   simp only [Bool.and_eq_true,Bool.not_eq_true'] at hb
   split
   ·rename_i v hname
    have hname' : fn.name = "internal/abi.NoEscape":=by simpa using hname
    have hrun:=run_callFunc_extern hfn hb.2 hb.1 hnx (find_noEscape hname') us w
    obtain ⟨u,us',hl,hvu,hnil⟩:=hv
    have hus' : us'=[]:=hnil
    subst hus'
    have hus:us=#[u]:=by rw [← Array.toArray_toList (xs:=us),hl]
    subst hus
    refine RS.quiet s (u:=u) ?_ hvu
    rw [hm,hrun]
    rfl
   ·split
    ·rename_i en vs hen hlit
     split
     ·rename_i u hp
      have hl:=litAll_VRs hlit hv
      have hus:us=vs.toArray:=by rw [← hl]
      have hrun:=run_callFunc_extern hfn hb.2 hb.1 hnx hen us w
      refine RS.quiet s (u:=u) ?_ rfl
      rw [hm,hrun,hus,pureG_run s hG hp]
      rfl
     ·trivial
    ·trivial
  ·trivial
 ·trivial
noncomputable def bCall (P:Program) (H:Mem) (ev:Ev) (c:Call) : R:=match evals ev c.args.toList with
 | none=>.bad
 | some args=>(match c.callee with
  | .builtin .append=>bAppend P H c args
  | .value f=>(match ev f with
   | some (.lit (.func (.func g) first cap))=>bExt P H g (first.toList.map .lit++args++cap.toList.map .lit)
   | _=>.bad)
  | _=>.bad)
theorem b_call (s:Sim B G ρ H w) (he:EvR ρ ev e) (hG:G=P.globals.size) {c:Call} (h:o.op=.call c) : RS B G P ρ H w (bCall P H ev c) (execOp e o):=by
 unfold bCall
 split
 ·trivial
 ·rename_i args hargs
  have hva:VRs ρ args (c.args.map e).toList:=by simpa using evals_VRs he hargs
  split
  ·rename_i hc
   exact b_append s he h hc hargs
  ·rename_i f hc
   split
   ·rename_i g first cap hf
    have:=he _ _ hf
    simp only [VR] at this
    refine b_ext s hG (us:=first++c.args.map e++cap) ?_ ?_
    ·simp [execOp,h,resolve,hc,this,Deferred.ofValue,invoke]
    ·have h1:=(VRs.lits (ρ:=ρ) first.toList).append hva
     simpa using h1.append (VRs.lits (ρ:=ρ) cap.toList)
   ·trivial
  ·trivial
noncomputable def bNeq (P:Program) (H:Mem) (op:BinOp) (t:TypeId) (x y:Option AV) : R:=match op,x,y with
 | .neq,some (.ptr a i),some (.ptr b j)=>(match Nat.beq a b && Nat.beq i j,P.underlying t with
  | true,some (.pointer te)=>(match P.info? te with | some _=>.val (.lit (.bool false)) H | none=>.bad)
  | _,_=>.bad)
 | _,_,_=>.bad
theorem b_neq (s:Sim B G ρ H w) (he:EvR ρ ev e) {op:BinOp} {t r:TypeId} {x y:Operand} (h:o.op=.binOp op t x y r) : RS B G P ρ H w (bNeq P H op t (ev x) (ev y)) (execOp e o):=by
 unfold bNeq
 split
 ·rename_i a i b j hx hy
  split
  ·rename_i te hc ht
   split
   ·rename_i info hi
    simp only [Bool.and_eq_true] at hc
    have h1:a=b:=Nat.eq_of_beq_eq_true hc.1
    have h2:i=j:=Nat.eq_of_beq_eq_true hc.2
    subst h1 h2
    obtain ⟨b1,o1,k1,hr1,hu1⟩:=he _ _ hx
    obtain ⟨b2,o2,k2,hr2,hu2⟩:=he _ _ hy
    rw [hr1] at hr2
    cases hr2
    have key:=Lib.run_neq_ptr_same (P:=P) w ⟨b1,o1+i,none⟩ ht hi
    refine RS.quiet s (u:=.bool false) ?_ rfl
    have hg:(eqGuard .neq t x y (e x) (e y)).run P w=.ok () w:=eqGuard_ok (by rw [hu1]; simp) (by rw [hu2]; simp) w
    simp only [hu1,hu2] at hg
    simp [execOp,h,hg,hu1,hu2,key]
   ·trivial
  ·trivial
 ·trivial
noncomputable def opB0 (P:Program) (H:Mem) (ev:Ev) (o:Oper) : R:=match o.op with
 | .alloc t=>bAlloc P H t
 | .load t x=>bLoad P H t (ev x)
 | .store t a x=>bStore P H t (ev a) (ev x)
 | .convert a b x=>bConv P H a b (ev x)
 | .call c=>bCall P H ev c
 | .binOp op t x y _=>bNeq P H op t (ev x) (ev y)
 | _=>.bad
theorem opB0_sound (s:Sim B G ρ H w) (he:EvR ρ ev e) (hG:G=P.globals.size) : RS B G P ρ H w (opB0 P H ev o) (execOp e o):=by
 unfold opB0
 split
 ·rename_i h; exact b_alloc s h
 ·rename_i h; exact b_load s he h
 ·rename_i h; exact b_store s he h
 ·rename_i h; exact b_conv s he h
 ·rename_i h; exact b_call s he hG h
 ·rename_i h; exact b_neq s he h
 ·trivial
noncomputable def opB (P:Program) (H:Mem) (ev:Ev) (o:Oper) : R:=match opB0 P H ev o with
 | .bad=>opV P H ev o
 | r=>r
theorem opB_sound (s:Sim B G ρ H w) (he:EvR ρ ev e) (hG:G=P.globals.size) : RS B G P ρ H w (opB P H ev o) (execOp e o):=by
 have h0:=opB0_sound (P:=P) (o:=o) s he hG
 unfold opB
 split
 ·exact opV_sound s he hG
 ·exact h0
end Go.Ai
end
section
namespace Go.Ai
open Go.RowKit (Below)
abbrev J:=Option Nat
def jcode:J→Code
 | none=>.ret
 | some id=>.exit id
def jexit:J→Exit
 | none=>.ret
 | some id=>.exit id
inductive OutE where
 | norm (fr:Fr) (ys:List Nat) (p:Option J) (H:Mem)
 | jump (j:J) (fr:Fr) (ys:List Nat) (p:Option J) (H:Mem)
 | bad
inductive YOut where
 | ok (b:Bool) (p:Option J) (H:Mem)
 | bad
inductive ROut where
 | ok (j:Option J) (H:Mem)
 | bad
inductive KE where
 | mv
 | yl (args:Array Operand)
 | no
def kindE (o:Oper) (ys:List Nat) : KE:=match o.op with
 | .move (.tmp t)=>(match elemN t ys with | true=>.mv | false=>.no)
 | .call c=>(match c.callee with
  | .value (.tmp t)=>(match elemN t ys with | true=>.yl c.args | false=>.no)
  | _=>.no)
 | _=>.no
def noDfO (o:Oper) : Bool:=match o.op with | .defer _=>false | _=>true
def dropN (d:Nat) : List Nat→List Nat
 | []=>[]
 | t :: l=>match Nat.beq d t with | true=>dropN d l | false=>t :: dropN d l
def dropO (d:Option Tmp) (ys:List Nat) : List Nat:=match d with | none=>ys | some d=>dropN d ys
abbrev YF:=List AV→Mem→YOut
abbrev RF:=Operand→Array Tmp→Code→Code→Fr→Mem→ROut
abbrev KF:=Fr→List Nat→Option J→Mem→OutE
noncomputable def mvE (o:Oper) (fr:Fr) (ys:List Nat) (p:Option J) (H:Mem) (K:KF) : OutE:=match o.dst with
 | none=>.bad
 | some d=>match fr.get d with
  | none=>K fr (d :: ys) p H
  | some _=>.bad
noncomputable def ylE (yf:YF) (o:Oper) (args:Array Operand) (fr:Fr) (ys:List Nat) (p:Option J) (H:Mem) (K:KF) : OutE:=match p,evals fr.ev args.toList with
 | none,some vs=>match yf vs H with
  | .ok b p' H'=>K (fr.put o.dst (.lit (.bool b))) (dropO o.dst ys) p' H'
  | .bad=>.bad
 | _,_=>.bad
noncomputable def afE (callf:CallF) (o:Oper) (fr:Fr) (ys:List Nat) (p:Option J) (K:KF) (r:R) : OutE:=match r with
 | .val v H'=>K (fr.put o.dst v) (dropO o.dst ys) p H'
 | .skip H'=>K (fr.put o.dst (.lit undef)) (dropO o.dst ys) p H'
 | .enter f args H'=>match callf f args H' with
  | .ret v H''=>K (fr.put o.dst v) (dropO o.dst ys) p H''
  | _=>.bad
 | _=>.bad
noncomputable def opE (P:Program) (callf:CallF) (yf:YF) (o:Oper) (fr:Fr) (ys:List Nat) (p:Option J) (H:Mem) (K:KF) : OutE:=match kindE o ys with
 | .mv=>mvE o fr ys p H K
 | .yl args=>ylE yf o args fr ys p H K
 | .no=>match noDfO o with
  | true=>afE callf o fr ys p K (opB P H fr.ev o)
  | false=>.bad
noncomputable def wantE (ops:Array Oper) (o:Oper) (fr:Fr) : Option Bool:=match o.guard with
 | none=>some true
 | some g=>wantedG ops fr g
noncomputable def opsE (P:Program) (callf:CallF) (yf:YF) (ops:Array Oper) : List Oper→KF
 | [],fr,ys,p,H=>.norm fr ys p H
 | o :: l,fr,ys,p,H=>match wantE ops o fr with
  | some true=>opE P callf yf o fr ys p H (opsE P callf yf ops l)
  | some false=>opsE P callf yf ops l (fr.put o.dst (.lit undef)) (dropO o.dst ys) p H
  | none=>.bad
def thenE (r:OutE) (k:KF) : OutE:=match r with
 | .norm fr ys p H=>k fr ys p H
 | r=>r
def blockE (id:Nat) (r:OutE) : OutE:=match r with
 | .jump (some id') fr ys p H=>(match Nat.beq id' id with | true=>.norm fr ys p H | false=>.jump (some id') fr ys p H)
 | r=>r
abbrev LFE:=Code→KF
noncomputable def drawE (P:Program) (callf:CallF) (ops:Array Oper) (fr:Fr) (ys:List Nat) (p:Option J) (H:Mem) : OutE:=match ys,ops.toList.all noDfO with
 | [],true=>(match drawnF P callf ops fr H with
  | .norm fr' H'=>(match fr'.defers with | []=>.norm fr' [] p H' | _=>.bad)
  | _=>.bad)
 | _,_=>.bad
noncomputable def execE (P:Program) (callf:CallF) (yf:YF) (rf:RF) (loopf:LFE) : Code→KF
 | .skip,fr,ys,p,H=>.norm fr ys p H
 | .region _ ops draw,fr,ys,p,H=>(match draw with | true=>drawE P callf ops fr ys p H | false=>opsE P callf yf ops ops.toList fr ys p H)
 | .seq a b,fr,ys,p,H=>thenE (execE P callf yf rf loopf a fr ys p H) (execE P callf yf rf loopf b)
 | .cond c a b,fr,ys,p,H=>(match fr.ev c with
  | some (.lit (.bool true))=>execE P callf yf rf loopf a fr ys p H
  | some (.lit (.bool false))=>execE P callf yf rf loopf b fr ys p H
  | _=>.bad)
 | .block id b,fr,ys,p,H=>blockE id (execE P callf yf rf loopf b fr ys p H)
 | .loop b,fr,ys,p,H=>thenE (execE P callf yf rf loopf b fr ys p H) (loopf b)
 | .rangeFunc g ps asg body,fr,ys,p,H=>(match ys with
  | []=>(match rf g ps asg body fr H with
   | .ok none H'=>.norm fr [] p H'
   | .ok (some j) H'=>.jump j fr [] p H'
   | .bad=>.bad)
  | _=>.bad)
 | .exit id,fr,ys,p,H=>.jump (some id) fr ys p H
 | .label _,fr,ys,p,H=>.norm fr ys p H
 | .ret,fr,ys,p,H=>.jump none fr ys p H
 | _,_,_,_,_=>.bad
noncomputable def loopE (P:Program) (callf:CallF) (yf:YF) (rf:RF) : Nat→LFE
 | 0=>fun _ _ _ _ _=>.bad
 | m+1=>fun b fr ys p H=>thenE (execE P callf yf rf (loopE P callf yf rf m) b fr ys p H) (loopE P callf yf rf m b)
def FR (r:Option Nat) : Fence:={ Fence.wide with round:=r }
theorem callsFR {r:Option Nat} {m:Nat} {P:Program} {f:FuncId} {args:Array Value} {w:World} {R:Ending→World→Prop} (h:Calls P f args w R) : CallsIn (FR r) m P f args w R:=(callsIn_wide (n:=m)).2 h
theorem callsOfFR {r:Option Nat} {m:Nat} {P:Program} {f:FuncId} {args:Array Value} {w:World} {R:Ending→World→Prop} (h:CallsIn (FR r) m P f args w R) : Calls P f args w R:=(callsIn_wide (n:=m)).1 h
def Act.bare (a:Act) : Act:={ a with defers:=[] }
theorem bare_put (a:Act) (d:Option Tmp) (v:Value) : Act.bare (a.put d v)=(Act.bare a).put d v:=by cases d <;> rfl
theorem bare_eval (a:Act) : (Act.bare a).eval=a.eval:=by funext x; cases x <;> rfl
def KX (x:Option Nat) (w w' : World) : Prop:=(∀ (k:Nat) (o:Obj),w.heap[k]?=some o→isMk o=true→x≠some k→w'.heap[k]?=some o)∧w.drawn≤w'.drawn
theorem KX.refl (x:Option Nat) (w:World) : KX x w w:=⟨fun _ _ h _ _=>h,Nat.le_refl _⟩
theorem KX.trans {x:Option Nat} {a b c:World} (h:KX x a b) (k:KX x b c) : KX x a c:=⟨fun i o hi ho hx=>k.1 i o (h.1 i o hi ho hx) ho hx,Nat.le_trans h.2 k.2⟩
theorem KD.kx {x:Option Nat} {w w' : World} (h:KD w w') : KX x w w':=⟨fun i o hi ho _=>h.1 i o hi ho,h.2⟩
theorem KX.kd {w w' : World} (h:KX none w w') : KD w w':=⟨fun i o hi ho=>h.1 i o hi ho (by simp),h.2⟩
theorem Sim.mark {B G:Nat} {ρ:Rn} {H:Mem} {w w' : World} {l:Nat} {ob:Obj} (s:Sim B G ρ H w) (hl:w.heap[l]?=some ob) (ho:isMk ob=true) (hw:∀ k,k≠l→w'.heap[k]?=w.heap[k]?) (hsz:w.heap.size≤w'.heap.size) : Sim B G ρ H w':=by
 refine s.other hsz fun a x b o k hx hr=>hw b fun e=>?_
 subst e
 rcases s.blk a x hx with h | ⟨b',o',k',h,hb⟩
 ·rw [hr] at h; cases h
 ·rw [hr] at h; cases h
  cases x with
  | cells l own z=>obtain ⟨c,e,fz,h1,_⟩:=hb; rw [hl] at h1; cases h1; cases ho
  | map es clock=>obtain ⟨es',h1,_⟩:=hb; rw [hl] at h1; cases h1; cases ho
  | siter s pos=>have h1:=hb.1; rw [hl] at h1; cases h1; cases ho
  | typ T l ex=>obtain ⟨_,_,c,h1,_⟩:=hb; rw [hl] at h1; cases h1; cases ho
abbrev Inv:=Rn→Option J→List Deferred→World→Prop
def InvOK (I:Inv) : Prop:=∀ ρ ρ' p ds w w',I ρ p ds w→KD w w'→w.heap.size≤w'.heap.size→Sub ρ ρ'→I ρ' p ds w'
structure StE (B G n n0:Nat) (ρ0:Rn) (w0:World) (x:Option Nat) (l:Nat) (I:Inv) (ρ:Rn) (fr:Fr) (ys:List Nat) (p:Option J) (H:Mem) (a:Act) (w:World) : Prop where
 same:∀ a,a < n0→ρ a=ρ0 a
 keeps:KX x w0 w
 below:Below B w0 w
 sim:Sim B G ρ H w
 frel:FRel n ρ fr (Act.bare a)
 le:n0≤H.next
 inv:I ρ p a.defers w
 ysl:∀ t,t∈ys→t < n∧fr.get t=none∧a.tmps.getD t undef=.func (.yield l) #[] #[]
def PostE (B G n n0:Nat) (ρ0:Rn) (w0:World) (x:Option Nat) (l:Nat) (I:Inv) (out:OutE) : Exit→Act→World→Prop:=fun e a' w'=>match out with
 | .norm fr ys p H=>e=.normal∧∃ ρ',StE B G n n0 ρ0 w0 x l I ρ' fr ys p H a' w'
 | .jump j fr ys p H=>e=jexit j∧∃ ρ',StE B G n n0 ρ0 w0 x l I ρ' fr ys p H a' w'
 | .bad=>False
def YOK (B G:Nat) (P:Program) (r x:Option Nat) (l m:Nat) (I:Inv) (yf:YF) : Prop:=∀ vs H b p' H',yf vs H=.ok b p' H'→∀ (ρ:Rn) (us:Array Value) (ds:List Deferred) (w:World),Sim B G ρ H w→VRs ρ vs us.toList→I ρ none ds w →
 ∃ f tm asg bd,(Instr.yield l us).run P w=.ok (.round l f tm asg bd) w ∧
  RoundIn (FR r) m P l f tm asg bd w fun e w'=>e=.returned (.bool b)∧∃ ρ',(∀ a,a < H.next→ρ' a=ρ a)∧KX x w w'∧Below B w w'∧Sim B G ρ' H' w'∧H.next≤H'.next∧I ρ' p' ds w'
def rOut (j:Option J) (fr:Fr) (p:Option J) (H:Mem) : OutE:=match j with | none=>.norm fr [] p H | some j=>.jump j fr [] p H
def ROK (B G n n0:Nat) (P:Program) (r x:Option Nat) (l m:Nat) (I:Inv) (rf:RF) : Prop:=∀ g ps asg body fr H j H',rf g ps asg body fr H=.ok j H' →
 ∀ (ρ0:Rn) (w0:World) (ρ:Rn) (p:Option J) (a:Act) (w:World),StE B G n n0 ρ0 w0 x l I ρ fr [] p H a w →
  (Code.rangeFunc g ps asg body).wpIn (FR r) m P (PostE B G n n0 ρ0 w0 x l I (rOut j fr p H')) a w
variable {B G n n0 m l:Nat} {P:Program} {ρ0 ρ:Rn} {w0 w:World} {x r:Option Nat} {I:Inv} {fr:Fr} {ys:List Nat} {p:Option J} {H:Mem} {a:Act}
theorem StE.st (s:StE B G n n0 ρ0 w0 x l I ρ fr ys p H a w) : St B G n H.next ρ w ρ fr H (Act.bare a) w:=⟨Ext.refl _ _ _ _,s.sim,s.frel,Nat.le_refl _⟩
theorem StE.ev (s:StE B G n n0 ρ0 w0 x l I ρ fr ys p H a w) : EvR ρ fr.ev a.eval:=by rw [← bare_eval]; exact s.st.ev
theorem mem_dropN {d t:Nat} : ∀ {l:List Nat},t∈dropN d l→t∈l∧t≠d
 | y :: l,h=>by
  unfold dropN at h
  split at h
  ·obtain ⟨h1,h2⟩:=mem_dropN h; exact ⟨by simp [h1],h2⟩
  ·rename_i hb
   rcases List.mem_cons.1 h with rfl | h
   ·refine ⟨by simp,fun e=>?_⟩
    subst e; simp at hb
   ·obtain ⟨h1,h2⟩:=mem_dropN h; exact ⟨by simp [h1],h2⟩
theorem ysl_put {d:Option Tmp} {v:AV} {u yv:Value} (h:∀ t,t∈ys→t < n∧fr.get t=none∧a.tmps.getD t undef=yv) :
  ∀ t,t∈dropO d ys→t < n∧(fr.put d v).get t=none∧(a.put d u).tmps.getD t undef=yv:=by
 intro t ht
 cases d with
 | none=>exact h t ht
 | some d =>
  obtain ⟨h1,h2⟩:=mem_dropN ht
  obtain ⟨h3,h4,h5⟩:=h t h1
  refine ⟨h3,?_,?_⟩
  ·cases hg:(fr.put (some d) v).get t with
   | none=>rfl
   | some y =>
    rcases Fr.get_upd hg with ⟨rfl,_⟩ | ⟨_,hy⟩
    ·exact absurd rfl h2
    ·rw [h4] at hy; cases hy
  ·show (a.tmps.setIfInBounds d u).getD t undef=yv
   rw [Array.getD_eq_getD_getElem?] at h5 ⊢
   rw [Array.getElem?_setIfInBounds_ne (Ne.symm h2)]
   exact h5
theorem StE.step {ρ' : Rn} {H' : Mem} {w' : World} {v:AV} {u:Value} {d:Option Tmp} {p' : Option J} (s:StE B G n n0 ρ0 w0 x l I ρ fr ys p H a w) (h1:∀ a,a < H.next→ρ' a=ρ a) (h2:KX x w w') (h3:Below B w w') (hs:Sim B G ρ' H' w')
  (hv:VR ρ' v u) (hn:H.next≤H'.next) (hd:∀ t,d=some t→t < n) (hI:I ρ' p' a.defers w') : StE B G n n0 ρ0 w0 x l I ρ' (fr.put d v) (dropO d ys) p' H' (a.put d u) w':=by
 have hsub:Sub ρ ρ':=by
  intro a x hx
  rw [h1 a ?_]; · exact hx
  rcases Nat.lt_or_ge a H.next with k | k
  ·exact k
  ·rw [s.sim.fresh a k] at hx; cases hx
 refine ⟨fun b hb=>(h1 b (Nat.lt_of_lt_of_le hb s.le)).trans (s.same b hb),s.keeps.trans h2,s.below.trans h3,hs,?_,Nat.le_trans s.le hn,by rw [put_defers]; exact hI,ysl_put s.ysl⟩
 rw [bare_put]
 exact (s.frel.mono hsub).put hd hv
theorem elemN_of {i:Nat} : ∀ {l:List Nat},elemN i l=true→i∈l
 | j :: l,h=>by
  unfold elemN at h
  split at h
  ·rename_i hb; simp [Nat.eq_of_beq_eq_true hb]
  ·simp [elemN_of h]
theorem opE_sound {callf:CallF} {yf:YF} {ops:Array Oper} {o:Oper} {rest:List Oper} {K:KF} {out:OutE} (hc:CallOK B G P callf) (hG:G=P.globals.size) (hy:∀ m,YOK B G P r x l m I yf)
  (hI:InvOK I) (hdst:dstOk n o=true) (s:StE B G n n0 ρ0 w0 x l I ρ fr ys p H a w)
  (hk:∀ fr' ys' p' H' ρ' a' w',StE B G n n0 ρ0 w0 x l I ρ' fr' ys' p' H' a' w'→K fr' ys' p' H'=out→wpListIn (FR r) m P ops (PostE B G n n0 ρ0 w0 x l I out) rest a' w')
  (hout:opE P callf yf o fr ys p H K=out) (hne:out≠.bad) :
  o.wpIn (FR r) m P a w (wpListIn (FR r) m P ops (PostE B G n n0 ρ0 w0 x l I out) rest) (PostE B G n n0 ρ0 w0 x l I out):=by
 refine ⟨fun _ _=>trivial,?_⟩
 have hd:=dstOk_lt hdst
 unfold opE at hout
 split at hout
 ·
  rename_i hkd
  unfold kindE at hkd
  split at hkd
  ·rename_i t hop
   split at hkd
   ·rename_i ht
    obtain ⟨h1,h2,h3⟩:=s.ysl t (elemN_of ht)
    have hrun:(o.semAt (FR r).round a.eval).run P w=.ok (.value (.func (.yield l) #[] #[])) w:=by
     rw [Oper.semAt_eq _ _ _ (by rw [hop]; simp)]
     have:a.eval (.tmp t)=.func (.yield l) #[] #[]:=h3
     simp [execOp,hop,this]
    rw [hrun]
    show wpListIn _ _ _ _ _ _ (a.put o.dst _) w
    unfold mvE at hout
    split at hout
    ·exact absurd hout.symm hne
    ·rename_i d hdd
     split at hout
     ·rename_i hg
      refine hk fr (d :: ys) p H ρ _ w ⟨s.same,s.keeps,s.below,s.sim,?_,s.le,by rw [put_defers]; exact s.inv,?_⟩ hout
      ·rw [hdd]
       refine ⟨fun j v hj hjn=>?_,s.frel.dfr,?_,s.frel.only⟩
       ·have hjd:j≠d:=fun e=>by rw [e,hg] at hj; cases hj
        have:=s.frel.slot j v hj hjn
        show VR ρ v ((a.tmps.setIfInBounds d _).getD j undef)
        rw [Array.getD_eq_getD_getElem?,Array.getElem?_setIfInBounds_ne (Ne.symm hjd),← Array.getD_eq_getD_getElem?]
        exact this
       ·show n≤(a.tmps.setIfInBounds d _).size
        simp; exact s.frel.size
      ·intro j hj
       rw [hdd]
       have hdn:=hd d hdd
       have hsz:d < a.tmps.size:=Nat.lt_of_lt_of_le hdn s.frel.size
       by_cases hjd:j=d
       ·subst hjd
        refine ⟨hdn,hg,?_⟩
        show (a.tmps.setIfInBounds j _).getD j undef=_
        rw [Array.getD_eq_getD_getElem?]
        simp [hsz]
       ·have hj' : j∈ys:=by simpa [hjd] using hj
        obtain ⟨k1,k2,k3⟩:=s.ysl j hj'
        refine ⟨k1,k2,?_⟩
        show (a.tmps.setIfInBounds d _).getD j undef=_
        rw [Array.getD_eq_getD_getElem?,Array.getElem?_setIfInBounds_ne (Ne.symm hjd),← Array.getD_eq_getD_getElem?]
        exact k3
     ·exact absurd hout.symm hne
   ·cases hkd
  ·split at hkd
   ·split at hkd <;> cases hkd
   ·cases hkd
  ·cases hkd
 ·
  rename_i args hkd
  unfold kindE at hkd
  split at hkd
  ·split at hkd <;> cases hkd
  ·rename_i c hop
   split at hkd
   ·rename_i t hcal
    split at hkd
    ·rename_i ht
     cases hkd
     obtain ⟨h1,h2,h3⟩:=s.ysl t (elemN_of ht)
     unfold ylE at hout
     split at hout
     ·rename_i vs hvs
      split at hout
      ·rename_i b p' H' hyf
       have hva:VRs ρ vs (c.args.map a.eval).toList:=by simpa using evals_VRs s.ev hvs
       obtain ⟨f,tm,asg,bd,hrun,hround⟩:=hy (m - 1) vs H b p' H' hyf ρ (c.args.map a.eval) a.defers w s.sim hva s.inv
       have hrun2:(o.semAt (FR r).round a.eval).run P w=.ok (.round l f tm asg bd) w:=by
        rw [Oper.semAt_eq _ _ _ (by rw [hop]; simp)]
        have:a.eval (.tmp t)=.func (.yield l) #[] #[]:=h3
        simp only [execOp,hop,resolve,hcal,this,Deferred.ofValue,Sem.run_bind,Sem.run_pure,Result.andThen_ok,invoke]
        simpa using hrun
       rw [hrun2,Oper.uponIn_round]
       refine ⟨fun h=>(by cases h),hround.mono fun e w' he=>?_⟩
       obtain ⟨rfl,ρ',g1,g2,g3,g4,g5,g6⟩:=he
       exact hk _ _ _ _ _ _ _ (s.step (v:=.lit (.bool b)) (u:=.bool b) g1 g2 g3 g4 rfl g5 hd g6) hout
      ·exact absurd hout.symm hne
     ·exact absurd hout.symm hne
    ·cases hkd
   ·cases hkd
  ·cases hkd
 ·rename_i hkd
  split at hout
  ·rename_i hnd
   have hop:∀ c,o.op≠.defer c:=by
    intro c hc
    unfold noDfO at hnd
    rw [hc] at hnd
    cases hnd
   rw [Oper.semAt_eq _ _ _ hop]
   have hrs:=opB_sound (o:=o) s.sim s.ev hG
   unfold afE at hout
   cases hr:opB P H fr.ev o with
   | val v H' =>
    rw [hr] at hrs hout
    obtain ⟨ρ',u,w',h1,h2,h3,h4,h5⟩:=hrs
    rw [h1]
    exact hk _ _ _ _ _ _ _ (s.step h2.same h2.keeps.kx h2.below h3 h4 h5 hd (hI _ _ _ _ _ _ s.inv h2.keeps h2.below.size (h2.sub s.sim))) hout
   | skip H' =>
    rw [hr] at hrs hout
    obtain ⟨ρ',w',h1,h2,h3,h5⟩:=hrs
    rw [h1]
    exact hk _ _ _ _ _ _ _ (s.step h2.same h2.keeps.kx h2.below h3 (undef_VR _) h5 hd (hI _ _ _ _ _ _ s.inv h2.keeps h2.below.size (h2.sub s.sim))) hout
   | enter f args H' =>
    rw [hr] at hrs hout
    obtain ⟨us,h1,h2,rfl⟩:=hrs
    rw [h1,Oper.uponIn_enter]
    refine ⟨fun h=>(by cases h),?_⟩
    cases hcall:callf f args H' with
    | ret v H2 =>
     dsimp only at hout
     rw [hcall] at hout
     have:=hc f args H' (by rw [hcall]; simp) ρ us w s.sim h2
     rw [hcall] at this
     refine (callsFR this).mono fun e w' he=>?_
     cases e with
     | returned u =>
      obtain ⟨ρ',g1,g2,g3,g4⟩:=he
      exact hk _ _ _ _ _ _ _ (s.step g1.same g1.keeps.kx g1.below g2 g3 g4 hd (hI _ _ _ _ _ _ s.inv g1.keeps g1.below.size (g1.sub s.sim))) hout
     | panicked chain=>exact he.elim
     | outgrown=>exact he.elim
    | panic v H2=>dsimp only at hout; rw [hcall] at hout; exact absurd hout.symm hne
    | bad=>dsimp only at hout; rw [hcall] at hout; exact absurd hout.symm hne
   | dfr fn cap args H'=>rw [hr] at hout; exact absurd hout.symm hne
   | recover=>rw [hr] at hout; exact absurd hout.symm hne
   | panic v H'=>rw [hr] at hout; exact absurd hout.symm hne
   | bad=>rw [hr] at hout; exact absurd hout.symm hne
  ·exact absurd hout.symm hne
theorem wantE_sound {ops:Array Oper} {o:Oper} {b:Bool} (s:StE B G n n0 ρ0 w0 x l I ρ fr ys p H a w) (h:wantE ops o fr=some b) : Region.wanted o (yielded ops a.tmps)=b:=by
 unfold wantE at h
 cases hg:o.guard with
 | none=>rw [hg] at h; cases h; simp [Region.wanted,hg]
 | some g=>rw [hg] at h; exact wantedG_sound (a:=Act.bare a) s.st hg h
theorem opsE_sound {callf:CallF} {yf:YF} {ops:Array Oper} (hc:CallOK B G P callf) (hG:G=P.globals.size) (hy:∀ m,YOK B G P r x l m I yf) (hI:InvOK I) {out:OutE} (hne:out≠.bad) :
  ∀ (li:List Oper) (fr:Fr) (ys:List Nat) (p:Option J) (H:Mem) (ρ:Rn) (a:Act) (w:World),(∀ o∈li,dstOk n o=true)→StE B G n n0 ρ0 w0 x l I ρ fr ys p H a w→opsE P callf yf ops li fr ys p H=out →
   wpListIn (FR r) m P ops (PostE B G n n0 ρ0 w0 x l I out) li a w
 | [],fr,ys,p,H,ρ,a,w,_,s,h=>by
  have h' : OutE.norm fr ys p H=out:=h
  subst h'
  exact wpListIn_nil ⟨rfl,ρ,s⟩
 | o :: li,fr,ys,p,H,ρ,a,w,hd,s,h=>by
  have hdo:=hd o (by simp)
  unfold opsE at h
  unfold wpListIn
  split at h
  ·rename_i hw
   rw [if_pos (wantE_sound s hw)]
   exact opE_sound hc hG hy hI hdo s (fun fr' ys' p' H' ρ' a' w' s' hk=>opsE_sound hc hG hy hI hne li fr' ys' p' H' ρ' a' w' (fun o ho=>hd o (by simp [ho])) s' hk) h hne
  ·rename_i hw
   rw [if_neg (by rw [wantE_sound s hw]; simp)]
   exact ⟨fun _ _=>trivial,opsE_sound hc hG hy hI hne li _ _ _ _ ρ _ _ (fun o ho=>hd o (by simp [ho])) (s.step (fun _ _=>rfl) (KX.refl _ _) (Below.refl _ _) s.sim (undef_VR _) (Nat.le_refl _) (dstOk_lt hdo) s.inv) h⟩
  ·exact absurd h.symm hne
def Act.df (a:Act) (x:List Deferred) : Act:={ a with defers:=x }
theorem df_put (a:Act) (x:List Deferred) (d:Option Tmp) (v:Value) : (Act.df a x).put d v=Act.df (a.put d v) x:=by cases d <;> rfl
theorem df_eval (a:Act) (x:List Deferred) : (Act.df a x).eval=a.eval:=by funext y; cases y <;> rfl
theorem rowsFR {row:String} {args:Array Value} {w:World} {R:Value→World→Prop} (h:Rows P row args w R) : RowsIn (FR r) m P row args w R :=
 fun c cs _=>let ⟨v,w',hr,s⟩:=h c cs; ⟨v,w',hr,stepsIn_wide.2 s⟩
theorem opsIn_of {ops:Array Oper} {Q:Exit→Act→World→Prop} (hnd:ops.toList.all noDfO=true) (hQ:¬LetsOut Q) (D0:List Deferred) : ∀ (li:List Nat) (a:Act) (x:List Deferred) (w:World),a.defers=x++D0→wpOps P ops Q li (Act.df a x) w →
  wpOpsIn (FR r) m P ops (fun e a' w'=>∃ y,a'.defers=y++D0∧Q e (Act.df a' y) w') li a w
 | [],a,x,w,ha,h=>⟨x,ha,h⟩
 | i :: li,a,x,w,ha,h=>by
  unfold wpOps at h
  unfold wpOpsIn
  cases ho:ops[i]? with
  | none=>rw [ho] at h; exact opsIn_of hnd hQ D0 li a x w ha h
  | some o =>
   rw [ho] at h
   dsimp only at h ⊢
   have hno:=List.all_eq_true.1 hnd o (List.mem_of_getElem? (toList_at.2 ho))
   have hop:∀ c,o.op≠.defer c:=by
    intro c hc
    unfold noDfO at hno
    rw [hc] at hno
    cases hno
   have hdd:∀ d v,(a.put d v).defers=x++D0:=fun d v=>by rw [put_defers]; exact ha
   split at h
   ·rename_i hw
    rw [if_pos (show Region.wanted o (yielded ops a.tmps)=true from hw)]
    rcases h with h | ⟨_,h2⟩
    ·refine ⟨fun _ _=>trivial,?_⟩
     rw [Oper.semAt_eq _ _ _ hop]
     unfold Oper.wp at h
     rw [df_eval] at h
     unfold Oper.upon at h
     split at h
     ·rename_i hr; rw [hr]; rw [df_put] at h; exact opsIn_of hnd hQ D0 li _ x _ (hdd _ _) h
     ·rename_i hr; rw [hr]; rw [df_put] at h; exact opsIn_of hnd hQ D0 li _ x _ (hdd _ _) h
     ·rename_i d w' hr
      rw [hr,Oper.uponIn_defer]
      refine opsIn_of hnd hQ D0 li _ (d :: x) _ (by rw [put_defers]; simp [ha]) ?_
      have e:Act.df (({ a with defers:=d :: a.defers } : Act).put o.dst undef) (d :: x)=({ Act.df a x with defers:=d :: (Act.df a x).defers } : Act).put o.dst undef:=by
       cases o.dst <;> rfl
      rw [e]; exact h
     ·rename_i f args w' hr
      rw [hr,Oper.uponIn_enter]
      refine ⟨fun h=>(by cases h),(callsFR h).mono fun e w2 he=>?_⟩
      cases e with
      | returned v=>dsimp only at he ⊢; rw [df_put] at he; exact opsIn_of hnd hQ D0 li _ x _ (hdd _ _) he
      | panicked c=>exact ⟨x,ha,he⟩
      | outgrown=>exact absurd he hQ
     ·rename_i row args w' hr
      rw [hr,Oper.uponIn_row]
      refine ⟨fun h=>(by cases h),(rowsFR h).mono fun v w2 he=>?_⟩
      rw [df_put] at he; exact opsIn_of hnd hQ D0 li _ x _ (hdd _ _) he
     ·rename_i v w' hr
      rw [hr]; exact ⟨x,ha,h⟩
     ·exact h.elim
    ·exact absurd h2 hQ
   ·rename_i hw
    rw [if_neg (show ¬Region.wanted o (yielded ops a.tmps)=true from hw)]
    refine ⟨fun _ _=>trivial,opsIn_of hnd hQ D0 li _ x _ (hdd _ _) ?_⟩
    rw [← df_put]; exact h
theorem uponIn_monoQ {o:Oper} {next next' : Act→World→Prop} {Q Q' : Exit→Act→World→Prop} (hn:∀ a w,next a w→next' a w) (hq:∀ e a w,Q e a w→Q' e a w) {F:Fence} {re:Result Next} (h:o.uponIn F m P a next Q re) : o.uponIn F m P a next' Q' re:=by
 have hl:LetsOut Q→LetsOut Q':=fun ⟨a,w,h⟩=>⟨a,w,hq _ _ _ h⟩
 unfold Oper.uponIn at h ⊢
 split at h
 ·exact hn _ _ h
 ·exact hn _ _ h
 ·exact hn _ _ h
 ·refine ⟨h.1,h.2.mono fun e w' he=>?_⟩
  cases e with
  | returned v=>exact hn _ _ he
  | panicked c=>exact hq _ _ _ he
  | outgrown=>exact hl he
 ·exact ⟨h.1,h.2.mono fun v w' he=>hn _ _ he⟩
 ·refine ⟨h.1,h.2.mono fun e w' he=>?_⟩
  cases e with
  | returned v=>exact hn _ _ he
  | panicked c=>exact hq _ _ _ he
  | outgrown=>exact hl he
 ·exact hq _ _ _ h
 ·exact h.elim
theorem wpOpsIn_monoQ {F:Fence} {ops:Array Oper} {Q Q' : Exit→Act→World→Prop} (hq:∀ e a w,Q e a w→Q' e a w) : ∀ (l:List Nat) (a:Act) (w:World),wpOpsIn F m P ops Q l a w→wpOpsIn F m P ops Q' l a w
 | [],a,w,h=>hq _ _ _ h
 | i :: l,a,w,h=>by
  unfold wpOpsIn at h ⊢
  cases ho:ops[i]? with
  | none=>rw [ho] at h; exact wpOpsIn_monoQ hq l a w h
  | some o =>
   rw [ho] at h
   dsimp only at h ⊢
   split at h
   ·rename_i hw
    rw [if_pos hw]
    exact ⟨h.1,uponIn_monoQ (wpOpsIn_monoQ hq l) hq h.2⟩
   ·rename_i hw
    rw [if_neg hw]
    exact ⟨h.1,wpOpsIn_monoQ hq l _ _ h.2⟩
theorem drawE_sound {callf:CallF} {ops:Array Oper} {id:Nat} (hcs:∀ B,CallOK B G P callf) (hG:G=P.globals.size) (hI:InvOK I) (hd:dstsOk n (.region id ops true)=true)
  (s:StE B G n n0 ρ0 w0 x l I ρ fr ys p H a w) (hne:drawE P callf ops fr ys p H≠.bad) : (Code.region id ops true).wpIn (FR r) m P (PostE B G n n0 ρ0 w0 x l I (drawE P callf ops fr ys p H)) a w:=by
 unfold drawE at hne ⊢
 split at hne
 ·rename_i hnd
  split at hne
  ·rename_i fr' H' hr
   split at hne
   case h_2=>exact absurd rfl hne
   rename_i hfd
   refine wpIn_region_draw fun t=>?_
   have hq:¬LetsOut (OutPost B G n H.next ρ w (drawnF P callf ops fr H)):=by
    rintro ⟨a',w',h⟩
    rw [hr] at h
    exact h.elim
   have key:=opsIn_of (r:=r) (m:=m) hnd hq a.defers _ a [] _ rfl (drawnF_ops (id:=id) hcs hG s.st hd (by rw [hr]; simp) t)
   refine wpOpsIn_monoQ ?_ _ _ _ key
   rintro e a' w' ⟨y,hy,h⟩
   rw [hr] at h
   cases e with
   | normal =>
    obtain ⟨ρ',s'⟩:=h
    have hy0:y=[]:=by
     have h1:DR ρ' fr'.defers y:=s'.frel.dfr
     rw [hfd] at h1; exact h1
    subst hy0
    refine ⟨rfl,ρ',fun b hb=>(s'.ext.same b (Nat.lt_of_lt_of_le hb s.le)).trans (s.same b hb),s.keeps.trans s'.ext.keeps.kx,s.below.trans s'.ext.below,s'.sim,s'.frel,Nat.le_trans s.le s'.le,?_,by simp⟩
    have hy' : a'.defers=a.defers:=by simpa using hy
    rw [hy']
    exact hI _ _ _ _ _ _ s.inv s'.ext.keeps s'.ext.below.size (s'.ext.sub s.sim)
   | _=>exact h.elim
  ·exact absurd rfl hne
 ·exact absurd rfl hne
end Go.Ai
end
