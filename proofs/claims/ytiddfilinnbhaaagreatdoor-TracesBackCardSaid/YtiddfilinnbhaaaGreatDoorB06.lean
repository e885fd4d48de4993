/- A small verified interpreter over names, its proofs, and what was proved with it. No condition. -/
import Derived.Lib.Builder
import Derived.Laws.Externs
import Derived.RangeFuncRecord
import Derived.RangeFuncIn
import Derived.TacticsIn
import Derived.Shelf.SlSortCmp.WholeK
import Derived.Test.YtiddfilinnbhaaaGreatDoorB05
import Derived.Test.YtiddfilinnbhaaaGreatDoorB02
set_option linter.all false
set_option linter.deprecated false
section
namespace Go.Ai
section
variable {P:Program} {H:Mem} {ev:Ev} {d:Option Tmp} {ty:TypeId} {p:String} {af:Array Edge} {g:Option (Nat×Bool)}
theorem op_slice_hm {t:TypeId} {x hi mx:Operand} : opV P H ev ⟨d,.slice t x none (some hi) (some mx),ty,p,af,g⟩=ex3 P H ev ⟨d,.slice t x none (some hi) (some mx),ty,p,af,g⟩ x hi mx (ev x) (ev hi) (ev mx) rfl rfl rfl:=(rfl)
theorem bounds_hm {i:Int} {n:Nat} {k:IntKind} (h1:i=n) : bounds none (some (.lit (.int k i))) (some (.lit (.int k i))) n n=some (0,n,n):=by
 unfold bounds natOr
 dsimp only
 rw [natOf_int (by omega),h1]
 simp only [okMx,Int.toNat_natCast,Nat.ble_eq_true_of_le (Nat.le_refl n),Nat.ble_eq_true_of_le (Nat.zero_le _),Bool.and_true]
theorem bounds_hm' {i:Int} {n c:Nat} {k:IntKind} (h1:i=n) (h2:n≤c) : bounds none (some (.lit (.int k i))) (some (.lit (.int k i))) n c=some (0,n,n):=by
 unfold bounds natOr
 dsimp only
 rw [natOf_int (by omega),h1]
 simp only [okMx,Int.toNat_natCast,Nat.ble_eq_true_of_le (Nat.le_refl n),Nat.ble_eq_true_of_le h2,Nat.ble_eq_true_of_le (Nat.zero_le _),Bool.and_true]
theorem slice_slq_hm {t:TypeId} {x hi mx:Operand} {a off n c:Nat} {k:IntKind} {i:Int} {hx:ev x=some (.slq a off n c)} {hh:ev hi=some (.lit (.int k i))} {hm:ev mx=some (.lit (.int k i))} (he:(elSz P t).map (·.1)=some none) (h1:i=n) (h2:0 < n) :
  ex3 P H ev ⟨d,.slice t x none (some hi) (some mx),ty,p,af,g⟩ x hi mx (some (.slq a off n c)) (some (.lit (.int k i))) (some (.lit (.int k i))) hx hh hm=.val (.sl a off n n) H:=by
 show opV P H ev _=_
 show oSlice P H ev _ t (ev x) none (some hi) (some mx)=_
 unfold oSlice
 rw [generic_none (x:=x) (by simp [Op.operands]) (fun v' h=>by rw [hx] at h; cases h; rfl),hx]
 obtain ⟨q,hq,hq2⟩:=Option.map_eq_some_iff.1 he
 obtain ⟨q1,q2⟩:=q
 dsimp only at hq2
 subst hq2
 obtain ⟨e,i',h3,h4,h5⟩:=elSz_inv hq
 dsimp only
 unfold oSliceN evOpt
 dsimp only
 rw [hh,hm]
 dsimp only
 rw [sliceOp_slice h3 h4]
 unfold sliceN
 dsimp only
 rw [bounds_hm h1]
 unfold sliceSl
 have hb:Nat.beq n 0=false:=by
  cases hb:Nat.beq n 0 with
  | false=>rfl
  | true=>have:=Nat.eq_of_beq_eq_true hb; omega
 dsimp only
 rw [hb]
 simp [natK_eq,ofOpt]
theorem slice_sl_hm {t:TypeId} {x hi mx:Operand} {a off n c:Nat} {k:IntKind} {i:Int} {hx:ev x=some (.sl a off n c)} {hh:ev hi=some (.lit (.int k i))} {hm:ev mx=some (.lit (.int k i))} (he:(elSz P t).map (·.1)=some none) (h1:i=n) (h2:0 < n) (h3:n≤c) :
  ex3 P H ev ⟨d,.slice t x none (some hi) (some mx),ty,p,af,g⟩ x hi mx (some (.sl a off n c)) (some (.lit (.int k i))) (some (.lit (.int k i))) hx hh hm=.val (.sl a off n n) H:=by
 show opV P H ev _=_
 show oSlice P H ev _ t (ev x) none (some hi) (some mx)=_
 unfold oSlice
 rw [generic_none (x:=x) (by simp [Op.operands]) (fun v' h=>by rw [hx] at h; cases h; rfl),hx]
 obtain ⟨q,hq,hq2⟩:=Option.map_eq_some_iff.1 he
 obtain ⟨q1,q2⟩:=q
 dsimp only at hq2
 subst hq2
 obtain ⟨e,i',h3,h4,h5⟩:=elSz_inv hq
 dsimp only
 unfold oSliceN evOpt
 dsimp only
 rw [hh,hm]
 dsimp only
 rw [sliceOp_slice h3 h4]
 unfold sliceN
 dsimp only
 rw [bounds_hm' h1 (by assumption)]
 unfold sliceSl
 have hb:Nat.beq n 0=false:=by
  cases hb:Nat.beq n 0 with
  | false=>rfl
  | true=>have:=Nat.eq_of_beq_eq_true hb; omega
 dsimp only
 rw [hb]
 simp [natK_eq,ofOpt]
theorem slice_nil_hm {t:TypeId} {x hi mx:Operand} {hx:ev x=some (.lit (.slice none 0 0))} {hh:ev hi=some (.lit (.int .i64 0))} {hm:ev mx=some (.lit (.int .i64 0))} (he:(elSz P t).map (·.1)=some none) :
  ex3 P H ev ⟨d,.slice t x none (some hi) (some mx),ty,p,af,g⟩ x hi mx (some (.lit (.slice none 0 0))) (some (.lit (.int .i64 0))) (some (.lit (.int .i64 0))) hx hh hm=.val (.lit (.slice none 0 0)) H:=by
 show opV P H ev _=_
 show oSlice P H ev _ t (ev x) none (some hi) (some mx)=_
 unfold oSlice
 rw [generic3 (r:=.slice none 0 0) (x:=x) (y:=hi) (z:=mx) (by simp [Op.operands]) hx hh hm fun ρ e1 e2 e3=>?_]
 show pureV P (do pure (Next.value (← Instr.sliceAt t (ρ x) none (some (ρ hi)) (some (ρ mx)))))=_
 rw [e1,e2,e3]
 obtain ⟨q,hq,hq2⟩:=Option.map_eq_some_iff.1 he
 obtain ⟨q1,q2⟩:=q
 dsimp only at hq2
 subst hq2
 obtain ⟨e,i,ht,hi',h5⟩:=elSz_inv hq
 have key:pureV P (Instr.slice t (.slice none 0 0) none (some (.int .i64 0)) (some (.int .i64 0)))=some (.slice none 0 0):=by
  unfold Instr.slice
  refine (pureV_then (m:=underlying t) (a:=TypeDesc.slice e) (pureV_underlying ht)).trans ?_
  dsimp only
  refine (pureV_then (a:=(0,0,0)) ?_).trans ?_
  ·rfl
  ·refine (pureV_then (m:=sizeOf e) (a:=i.size) ?_).trans ?_
   ·exact (pureV_then (pureV_info hi')).trans rfl
   ·rfl
 have key2:pureV P (Instr.sliceAt t (.slice none 0 0) none (some (.int .i64 0)) (some (.int .i64 0)))=some (.slice none 0 0):=by
  unfold Instr.sliceAt
  refine (pureV_then (m:=underlying t) (a:=TypeDesc.slice e) (pureV_underlying ht)).trans ?_
  exact key
 rw [pureV_then key2]
 rfl
attribute [simp] op_slice_hm slice_slq_hm slice_sl_hm slice_nil_hm
end
end Go.Ai
end
section
namespace Go.Ai
section
variable {P:Program} {H:Mem} {ev:Ev} {d:Option Tmp} {ty:TypeId} {p:String} {af:Array Edge} {g:Option (Nat×Bool)} {x y:Operand} {s t:TypeId} {size bytes:Nat}
theorem ap_nilR {a off n m:Nat} {hx:ev x=some (.sl a off n m)} {hy:ev y=some (.lit (.slice none 0 0))} (hp:(apI P s t).isSome=true) :
  ex2 P H ev ⟨d,.call ⟨.builtin .append,#[x,y],#[s,t]⟩,ty,p,af,g⟩ x y (some (.sl a off n m)) (some (.lit (.slice none 0 0))) hx hy=.val (.sl a off n m) H:=by
 cases hq:apI P s t with
 | none=>rw [hq] at hp; cases hp
 | some q =>
  obtain ⟨q1,q2⟩:=q
  show opV P H ev _=_
  rw [append_of hx hy hq]
  rfl
attribute [simp] ap_nilR
end
end Go.Ai
end
section
namespace Go.Ai
open Go.RowKit (Below)
variable {B G:Nat} {ρ:Rn} {H:Mem} {w:World} {P:Program} {ev:Ev} {e:Operand→Value} {o:Oper}
theorem BR.flat {T:TypeId} {l:List AV} {ex:Bool} {b q k:Nat} (h:BR B ρ (.typ T l ex) b q k w) : BR B ρ (.cells l true 0) b q k w:=by
 obtain ⟨rfl,hB,c,hb,hc,_⟩:=h
 exact ⟨c,T,(0,0),hb,fun i v hi=>let ⟨u,hu,hv⟩:=hc i v hi; ⟨u,by simpa using hu,hv⟩,fun _=>⟨hB,fun j _ h=>by omega,by simp,.inl rfl⟩⟩
noncomputable def isBld (P:Program) (t:TypeId) : Bool:=match P.underlying t with
 | some (.struct fs)=>match fs[0]? with
  | some f=>match P.underlying f.type with
   | some (.pointer u)=>Nat.beq u t
   | _=>false
  | none=>false
 | _=>false
noncomputable def bAlloc (P:Program) (H:Mem) (t:TypeId) : R:=match isBld P t with
 | true=>(match zeroL P t with | some l=>H.newK (.typ t l true) fun H'=>.val (.ptr H.next 0) H' | none=>.bad)
 | false=>.bad
noncomputable def bLoad (P:Program) (H:Mem) (t:TypeId) (a:Option AV) : R:=match a with
 | some (.ptr n off)=>(match H.get n with
  | some (.typ _ l _)=>ofOpt H (loadB (tIsAgg P t) (some (.cells l true 0)) off)
  | _=>.bad)
 | _=>.bad
noncomputable def bStore (P:Program) (H:Mem) (t:TypeId) (a x:Option AV) : R:=match a,x with
 | some (.ptr n off),some v=>(match H.get n,tIsAgg P t with
  | some (.typ T l true),some (_,size)=>(match Nat.beq (len (cellsOf v)) size && allOne (cellsOf v) with
   | true=>putCellsK .bad l off (cellsOf v) fun l'=>H.setK n (.typ T l' true) .skip
   | false=>.bad)
  | _,_=>.bad)
 | _,_=>.bad
noncomputable def bConv (P:Program) (H:Mem) (src dst:TypeId) (x:Option AV) : R:=match x with
 | some (.ptr n 0)=>(match H.get n with
  | some (.typ T l true)=>(match P.underlying src,P.underlying dst with
   | some (.pointer t),some .unsafePointer=>(match P.info? t with
    | some j=>(match Nat.beq j.size 0,Nat.beq l.length 0 with | false,false=>.val (.ptr n 0) H | _,_=>.bad)
    | none=>.bad)
   | some .unsafePointer,some (.pointer u)=>(match P.info? u,liesAt P P.depth T (l.length / P.cellsOf T) 0 u 1 with
    | some _,true=>.val (.ptr n 0) H
    | _,_=>.bad)
   | _,_=>.bad)
  | _=>.bad)
 | _=>.bad
theorem b_alloc (s:Sim B G ρ H w) {t:TypeId} (h:o.op=.alloc t) : RS B G P ρ H w (bAlloc P H t) (execOp e o):=by
 unfold bAlloc
 split
 ·split
  ·rename_i l hl
   unfold zeroL at hl
   split at hl
   ·rename_i i hi
    split at hl
    ·rename_i zv hz
     cases hl
     rw [Mem.newK_eq]
     have hc:VRs (upd ρ H.next (w.heap.size,0,0)) (zv.cells.toList.map .lit) zv.cells.toList:=VRs.lits _
     refine ⟨upd ρ H.next (w.heap.size,0,0),.pointer (some ⟨w.heap.size,0,none⟩),{ w with heap:=w.heap.push (.cells zv.cells t) },by simp [execOp,h,Instr.alloc,newVar,newRow,run_zero hi hz],Ext.alloc ρ _ _ w _ _ rfl rfl rfl rfl s.base,?_,⟨_,_,_,upd_same _ _ _,rfl⟩,Nat.le_succ _⟩
     refine s.alloc _ _ 0 _ rfl ⟨rfl,s.base,zv.cells,by simp,fun i v hi=>?_,fun _=>by simp,fun h=>by cases h⟩
     obtain ⟨u,hu,hv⟩:=hc.get i hi
     exact ⟨u,by simpa using hu,hv⟩
    ·cases hl
   ·cases hl
  ·trivial
 ·trivial
theorem b_load (s:Sim B G ρ H w) (he:EvR ρ ev e) {t:TypeId} {x:Operand} (h:o.op=.load t x) : RS B G P ρ H w (bLoad P H t (ev x)) (execOp e o):=by
 unfold bLoad
 split
 ·rename_i n off hx
  split
  ·rename_i T l ex hg
   refine RS.ofOpt s fun v hv=>?_
   obtain ⟨b,q,k,hr,hu⟩:=he _ _ hx
   obtain ⟨r,hr2,hvr⟩:=loadB_sound hv (s.at hg hr).flat
   exact ⟨r,by simp [execOp,h,hu,hr2],hvr⟩
  ·trivial
 ·trivial
theorem b_store (s:Sim B G ρ H w) (he:EvR ρ ev e) {t:TypeId} {a x:Operand} (h:o.op=.store t a x) : RS B G P ρ H w (bStore P H t (ev a) (ev x)) (execOp e o):=by
 unfold bStore
 split
 ·rename_i n off v hp hv
  split
  ·rename_i T l bl size hg ht
   split
   ·rename_i hcond
    rw [putCellsK_eq]
    split
    ·rename_i hle
     rw [Mem.setK_eq]
     simp only [Bool.and_eq_true] at hcond
     have hsz:len (cellsOf v)=size:=Nat.eq_of_beq_eq_true hcond.1
     rw [len_eq] at hsz
     obtain ⟨b,q,k,hr,hu⟩:=he _ _ hp
     have hcells:=(he _ _ hv).cells
     obtain ⟨rfl,hB,c,hb,hc,hex,_⟩:=s.at hg hr
     have hcs:=hex rfl
     have hlen:=hcells.length
     obtain ⟨w',c',hrun,hb',hcs',hcl,hoth,hws,h2,h3,h4⟩:=run_storeAll (P:=P) b (0+off) T (0,0) (e x).cells.toList 0 c w hb (fun j _ hj=>by omega) (by omega) (allOne_VRs hcells hcond.2)
     refine ⟨ρ,w',?_,⟨fun _ _=>rfl,KD.turn hb rfl (fun q hq=>hoth q hq),h2,h3,h4,by omega,fun q hq=>hoth q (by omega)⟩,?_,Nat.le_refl _⟩
     ·have hlen2:(e x).cells.size=size:=by simp at hlen; omega
      have hrun' : (storeCells ⟨b,off,none⟩ (e x).cells.toList).run P w=.ok () w':=by simpa using hrun
      simp [execOp,h,Instr.storeAt,Instr.sureAddr,hu,storeVar,(run_agg ht _).2,hlen2,hrun']
     ·refine s.set hg hr rfl rfl (by omega) (fun b' hb2 _=>hoth b' hb2) ⟨rfl,hB,c',hb',?_,fun _=>?_,fun h=>by cases h⟩
      ·intro i v2 hi
       rw [hcl]
       by_cases h1:i < off
       ·rw [if_neg (by omega)]
        apply hc
        rw [List.append_assoc,List.getElem?_append_left (by simp; omega)] at hi
        rw [List.getElem?_take,if_pos h1] at hi; exact hi
       ·by_cases h2:i < off+(cellsOf v).length
        ·rw [if_pos (by omega)]
         rw [List.append_assoc,List.getElem?_append_right (by simp; omega),List.getElem?_append_left (by simp; omega)] at hi
         have e1:min off l.length=off:=by omega
         simp only [List.length_take,e1] at hi
         obtain ⟨u,hu,huv⟩:=hcells.get _ hi
         refine ⟨u,?_,huv⟩
         rw [← hu]; congr 1; omega
        ·rw [if_neg (by omega)]
         apply hc
         rw [List.getElem?_append_right (by simp; omega)] at hi
         have e1:min off l.length=off:=by omega
         simp only [List.length_append,List.length_take,e1,List.getElem?_drop] at hi
         rw [← hi]; congr 1; omega
      ·rw [hcs',hcs]; simp; omega
    ·trivial
   ·trivial
  ·trivial
 ·trivial
theorem b_conv (s:Sim B G ρ H w) (he:EvR ρ ev e) {src dst:TypeId} {x:Operand} (h:o.op=.convert src dst x) : RS B G P ρ H w (bConv P H src dst (ev x)) (execOp e o):=by
 unfold bConv
 split
 ·rename_i n hx
  split
  ·rename_i T l hg
   obtain ⟨b,q,k,hr,hu⟩:=he _ _ hx
   obtain ⟨rfl,hB,c,hb,hc,hex,_⟩:=s.at hg hr
   have hcs:=hex rfl
   have hsh:w.shape? b=some (T,c.size):=by simp [World.shape?,hb]
   split
   ·rename_i t hs hd
    split
    ·rename_i j hj
     split
     ·rename_i h1 h2
      have hj0:j.size≠0:=fun e=>by rw [e] at h1; cases h1
      have hl0:l.length≠0:=fun e=>by rw [e] at h2; cases h2
      have key:=Lib.run_to_unsafe (P:=P) w ⟨b,0,none⟩ hs hd hj hj0 hsh (by show 0 < c.size; omega)
      refine RS.quiet s (u:=.pointer (some ⟨b,0,none⟩)) ?_ ⟨b,0,k,hr,rfl⟩
      simp [execOp,h,hu,key]
     ·trivial
    ·trivial
   ·rename_i u hs hd
    split
    ·rename_i j hj hlies
     have key:=Lib.run_from_unsafe (P:=P) w ⟨b,0,none⟩ hs hd hj hsh (by rw [hcs]; exact hlies)
     refine RS.quiet s (u:=.pointer (some ⟨b,0,none⟩)) ?_ ⟨b,0,k,hr,rfl⟩
     simp [execOp,h,hu,key]
    ·trivial
   ·trivial
  ·trivial
 ·trivial
noncomputable def newTyp (H:Mem) (el:TypeId) (l:List AV) (n:Nat) : Option (AV×Mem):=H.newK (.typ el l false) fun H'=>some (.slq H.next 0 n 0,H')
noncomputable def appT (H:Mem) (el:TypeId) (bytes n:Nat) (st:AV) (new:List AV) : Option (AV×Mem) :=
 match Nat.beq (len new) n && allOne new with
 | true=>match st with
  | .lit (.slice none 0 0)=>(match small n 0 bytes with | true=>newTyp H el new n | false=>none)
  | .slq a 0 k 0=>(match H.get a with
   | some (.typ T l false)=>(match Nat.beq T el && (Nat.beq k (len l) && small (k+n) 0 bytes) with
    | true=>appK l new fun l'=>H.delK a fun H'=>newTyp H' el l' (k+n)
    | false=>none)
   | _=>none)
  | _=>none
 | false=>none
theorem vs_newTyp {l:List AV} {cells:Array Value} {el:TypeId} {m:Sem Value} {n cap:Nat} (s:Sim B G ρ H w) (hn:n≤cap) (hc:VRs ρ l cells.toList) (rest:Array Value)
  (hl:l.length=n) (hrest:rest.size=cap - n)
  (hrun:m.run P w=.ok (.slice (some ⟨w.heap.size,0,none⟩) n cap) (w.drew.alloc (.cells (cells++rest) el))) : VS B G P ρ H w (newTyp H el l n) m:=by
 unfold newTyp
 rw [Mem.newK_eq]
 intro v H' e; cases e
 have hcl:cells.size=n:=by have:=hc.length; simp at this; omega
 refine ⟨upd ρ H.next (w.heap.size,0,cap),_,_,hrun,Ext.alloc ρ _ _ w _ (.cells (cells++rest) el) rfl rfl rfl rfl s.base,?_,⟨_,_,_,upd_same _ _ _,by omega,rfl⟩,Nat.le_succ _⟩
 refine s.alloc _ (.cells (cells++rest) el) cap _ rfl ⟨rfl,s.base,cells++rest,alloc_at w _ _ rfl,?_,fun h=>(by cases h),fun _=>⟨?_,by omega⟩⟩
 ·intro i v hi
  obtain ⟨u,hu,hv⟩:=hc.get i hi
  have hlt:i < cells.size:=by
   have:=(List.getElem?_eq_some_iff.1 hu).1; simpa using this
  exact ⟨u,by rw [Array.getElem?_append_left hlt]; simpa using hu,hv.mono (sub_upd s.none)⟩
 ·simp [hrest,hcl]; omega
section app
variable {argTypes:Array TypeId} {args:Array Value} {ty sT xT el:TypeId} {dx:TypeDesc} {i:TypeInfo} {zv:Value} {n:Nat} {x:AV} {xu su:Value} {st:AV} {new:List AV}
theorem appT_core {cs:Array Value} (hzs:zv.cells.size=1) (s:Sim B G ρ H w) (hsv:VR ρ st su) (hn0:n≠0) (hi1:i.size=1) (hcs:VRs ρ new cs.toList)
  (hin:∀ {base:Option Addr} {sLen sCap:Nat},su=.slice base sLen sCap→sLen+n≤sCap→(Builtin.append_ argTypes ty args).run P w =
   ((match base with | some a=>storeCells (a.add (sLen * i.size)) cs.toList | none=>pure ()).run P w).andThen fun _ w'=>.ok (.slice base (sLen+n) sCap) w')
  (hgrow:∀ {base:Option Addr} {sLen sCap:Nat} {old:Array Value},su=.slice base sLen sCap→sCap < sLen+n→small (sLen+n) sCap i.bytes=true →
   (Builtin.firstCells i.size sLen (.slice base sLen sCap)).run P w.drew=.ok old w.drew→∃ cap,sLen+n≤cap∧(Builtin.append_ argTypes ty args).run P w =
   .ok (.slice (some ⟨w.heap.size,0,none⟩) (sLen+n) cap) (w.drew.alloc (.cells (old++(cs++Builtin.zeroCells zv.cells (cap - (sLen+n)))) el))) :
  VS B G P ρ H w (appT H el i.bytes n st new) (Builtin.append_ argTypes ty args):=by
 unfold appT
 split
 ·rename_i hl0
  simp only [Bool.and_eq_true] at hl0
  have hl' : new.length=n:=by rw [← len_eq]; exact Nat.eq_of_beq_eq_true hl0.1
  have hone:=allOne_VRs hcs hl0.2
  have hcsz:cs.size=n:=by have:=hcs.length; simp at this; omega
  split
  ·cases hsv
   split
   ·rename_i hsm
    obtain ⟨cap,hcap,hrun⟩:=hgrow rfl (by omega) (by simpa using hsm) (old:=#[]) rfl
    simp only [Nat.zero_add] at hrun hcap
    refine vs_newTyp (el:=el) s hcap hcs (Builtin.zeroCells zv.cells (cap - n)) hl' (by rw [zeroCells_size,hzs,Nat.mul_one]) ?_
    rw [hrun]; simp
   ·exact vs_none
  ·rename_i a k
   obtain ⟨b,q,K,hr,hle,rfl⟩:=hsv
   split
   ·rename_i T l hb
    obtain ⟨rfl,hB,c,hbb,hcc,_,hK⟩:=s.at hb hr
    obtain ⟨hcK,hlK⟩:=hK rfl
    split
    ·rename_i h1
     simp only [Bool.and_eq_true] at h1
     have hT:T=el:=Nat.eq_of_beq_eq_true h1.1
     subst hT
     have hkl:k=l.length:=by rw [← len_eq]; exact Nat.eq_of_beq_eq_true h1.2.1
     have hsm:=h1.2.2
     rw [appK_eq,Mem.delK_eq]
     obtain ⟨us,hul,hus,hcell⟩:=(s.at hb hr).flat.sub (off:=0) (n:=k) (by omega)
     have hus' : VRs ρ l us:=by
      have:(l.drop 0).take k=l:=by rw [List.drop_zero,hkl,List.take_length]
      rw [this] at hus; exact hus
     simp only [Nat.sub_zero,Nat.add_zero,Nat.zero_add] at hle hin hgrow hcell ⊢
     by_cases hfit:k+n≤K
     ·obtain ⟨w',c',hst,hb',hcz,hcells,hoth,hws,g2,g3,g4⟩:=run_storeAll (P:=P) b k T (0,0) cs.toList 0 c w hbb (fun j _ hj=>by omega) (by simp; omega) hone
      unfold newTyp
      rw [Mem.newK_eq]
      intro v H' e0; cases e0
      have srm:=s.rm a
      have hext:Ext B H.next ρ w (upd ρ H.next (b,0,K)) w':=⟨fun j hj=>upd_ne _ _ (by omega),KD.turn hbb rfl (fun j hj=>hoth j hj),g2,g3,g4,by omega,fun j hj=>hoth j (by omega)⟩
      refine ⟨upd ρ H.next (b,0,K),.slice (some ⟨b,0,none⟩) (k+n) K,w',?_,hext,?_,⟨b,0,K,upd_same _ _ _,by omega,by simp⟩,Nat.le_succ _⟩
      ·rw [hin rfl hfit]
       simp only [add_none,hi1,Nat.mul_one,Nat.zero_add,hst]
       rfl
      ·refine srm.add (by omega) ?_ ⟨rfl,hB,c',hb',?_,fun h=>(by cases h),fun _=>⟨by omega,by rw [List.length_append]; omega⟩⟩
       ·intro j y b1 o1 k1 hy hrj
        obtain ⟨hne,hy⟩:=Mem.get_rm hy
        have hbne:b1≠b:=by
         rintro rfl
         exact s.inj a j _ y b1 0 K o1 k1 hb hy (Ne.symm hne) rfl hr hrj
        exact ⟨hbne,hoth b1 hbne⟩
       ·intro j v hj
        have hsub:=sub_upd (x:=(b,0,K)) s.none
        by_cases hj1:j < k
        ·rw [List.getElem?_append_left (by omega)] at hj
         obtain ⟨u,hu,huv⟩:=hcc _ _ hj
         refine ⟨u,?_,huv.mono hsub⟩
         rw [hcells,if_neg (by omega),← hu]
        ·rw [List.getElem?_append_right (by omega),← hkl] at hj
         obtain ⟨u,hu,huv⟩:=hcs.get _ hj
         have hjlt:=(List.getElem?_eq_some_iff.1 hu).1
         refine ⟨u,?_,huv.mono hsub⟩
         rw [hcells,if_pos (by omega),← hu]; congr 1
     ·have hfit' : K < k+n:=by omega
      have hold:(Builtin.firstCells i.size k (.slice (some ⟨b,0,none⟩) k K)).run P w.drew=.ok us.toArray w.drew:=by
       rw [Builtin.firstCells,hi1,Nat.mul_one,← hul]
       exact run_loadAll us fun j v hj=>by rw [Nat.zero_add]; exact hcell j v hj
      have hsm' : small (k+n) K i.bytes=true:=by
       simp only [small,Bool.and_eq_true,decide_eq_true_eq] at hsm ⊢
       omega
      obtain ⟨cap',hcap,hrun⟩:=hgrow rfl hfit' hsm' hold
      refine vs_newTyp (el:=T) (H:=H.rm a) (s.rm a) hcap (cells:=us.toArray++cs) (by simpa using hus'.append hcs) (Builtin.zeroCells zv.cells (cap' - (k+n))) ?_ (by rw [zeroCells_size,hzs,Nat.mul_one]) ?_
      ·rw [List.length_append]; omega
      ·rw [hrun]; simp
    ·exact vs_none
   ·exact vs_none
  ·exact vs_none
 ·exact vs_none
end app
noncomputable def bAppend (P:Program) (H:Mem) (c:Call) (args:List AV) : R:=match args,c.argTypes[0]? with
 | [st,x],some sT=>(match elemOfSlice P sT,appended P c.argTypes[1]?,lenOf x with
  | some (el,size,bytes),true,some n=>(match P.underlying el with
   | some (.int .u8)=>(match Nat.beq size 1 && Nat.blt 0 n,firstL H size n x with
    | true,some new=>(match appT H el bytes n st new with | some (v,H')=>.val v H' | none=>.bad)
    | _,_=>.bad)
   | _=>.bad)
  | _,_,_=>.bad)
 | _,_=>.bad
theorem b_append (s:Sim B G ρ H w) (he:EvR ρ ev e) {c:Call} (h:o.op=.call c) (hc:c.callee=.builtin .append) {args:List AV} (hargs:evals ev c.args.toList=some args) : RS B G P ρ H w (bAppend P H c args) (execOp e o):=by
 have hva:VRs ρ args (c.args.map e).toList:=by simpa using evals_VRs he hargs
 unfold bAppend
 split
 ·rename_i st x sT hsT
  obtain ⟨su,xu,hl,hsv,hxv⟩:=hva.two
  have ha0:(c.args.map e)[0]?=some su:=by rw [← Array.getElem?_toList,hl]; rfl
  have ha1:(c.args.map e)[1]?=some xu:=by rw [← Array.getElem?_toList,hl]; rfl
  split
  ·rename_i el size bytes n hel happ hn
   split
   ·split
    ·rename_i new hs1 hf
     simp only [Bool.and_eq_true] at hs1
     have hs1' : size=1:=Nat.eq_of_beq_eq_true hs1.1
     have hn0:n≠0:=by
      rintro rfl
      exact absurd hs1.2 (by decide)
     obtain ⟨hd,i,zv,hi,rfl,rfl,hz,hzs⟩:=elemOf_sound hel
     unfold appended at happ
     cases hx:c.argTypes[1]? with
     | none=>rw [hx] at happ; cases happ
     | some xT =>
      rw [hx] at happ
      have hdx:∃ dx,P.underlying xT=some dx∧∀ k,dx≠.int k:=by
       dsimp only at happ
       split at happ
       ·rename_i e' h1; exact ⟨_,h1,by simp⟩
       ·rename_i h1; exact ⟨_,h1,by simp⟩
       ·cases happ
      obtain ⟨dx,hxd,hni⟩:=hdx
      obtain ⟨cs,hfc,hcs⟩:=firstL_sound (P:=P) s hf hxv
      have hlen:=lenOf_sound (P:=P) hn hxv w
      have key:VS B G P ρ H w (appT H el i.bytes n st new) (Builtin.append_ c.argTypes o.type (c.args.map e)) :=
       appT_core (el:=el) (by rw [hzs,hs1']) s hsv hn0 hs1' hcs
        (fun e1 hfit=>run_append_in (P:=P) (w:=w) (ty:=o.type) hsT hx hd hxd hni hi (by rw [ha0,e1]) ha1 hlen hfit (hfc w rfl))
        (fun e1 hgt hsm hold=>run_append_grow (P:=P) (w:=w) (ty:=o.type) hsT hx hd hxd hni hi hz (by rw [ha0,e1]) ha1 hlen hgt hsm hold (hfc _ rfl))
      split
      ·rename_i v H' hr
       obtain ⟨ρ',r,w',g1,g2,g3,g4,g5⟩:=key v H' hr
       exact ⟨ρ',r,w',by rw [exec_builtin h hc]; simp [builtin,g1],g2,g3,g4,g5⟩
      ·trivial
    ·trivial
   ·trivial
  ·trivial
 ·trivial
theorem find_noEscape {fn:Func} (h:fn.name = "internal/abi.NoEscape") : Extern.find fn=some Extern.AbiNoEscape.same:=by
 unfold Extern.find
 rw [h]
 kernel_rfl
noncomputable def pureG {α:Type} (P:Program) (H:Mem) : Sem α→Option α
 | .pure a=>some a
 | .program k=>pureG P H (k P)
 | .mark _ k=>pureG P H k
 | .choose q k=>if q.forced then pureG P H (k 0) else none
 | .load _ ⟨g,off,none⟩ k=>match Nat.blt g P.globals.size,H.get g with
  | true,some (.cells l _ _)=>(match nth l off with | some (.lit v)=>pureG P H (k v) | _=>none)
  | _,_=>none
 | _=>none
theorem pureG_run {α:Type} (s:Sim B G ρ H w) (hG:G=P.globals.size) : ∀ {m:Sem α} {a:α},pureG P H m=some a→m.run P w=.ok a w:=by
 intro m
 induction m with
 | pure b=>intro a h; simp only [pureG] at h; cases h; rfl
 | program k ih=>intro a h; simp only [pureG] at h; exact ih _ h
 | mark m k ih=>intro a h; simp only [pureG] at h; exact ih h
 | choose q k ih =>
  intro a h
  simp only [pureG] at h
  split at h
  ·rename_i hq; simp only [Sem.run,hq,if_true]; exact ih _ h
  ·cases h
 | load md ad k ih =>
  intro a h
  obtain ⟨g,off,sp⟩:=ad
  cases sp with
  | some x=>simp [pureG] at h
  | none =>
   simp only [pureG] at h
   split at h
   ·rename_i l own z hlt hg
    split at h
    ·rename_i v hv
     have h9:g+1≤P.globals.size:=by simpa [Nat.blt,Nat.ble_eq] using hlt
     have hr:=s.glob g _ (by rw [hG]; exact h9) hg
     obtain ⟨c,e,fz,hb,hc,_⟩:=s.at hg hr
     rw [nth_eq] at hv
     obtain ⟨u,hu,hvu⟩:=hc _ _ hv
     have huv:u=v:=hvu
     subst huv
     rw [Nat.zero_add] at hu
     simp only [Sem.run,cell_of hb hu]
     exact ih _ h
    ·cases h
   ·cases h
 | _=>intro a h; simp [pureG] at h
noncomputable def bExt (P:Program) (H:Mem) (g:FuncId) (args:List AV) : R:=match P.funcs[g]? with
 | some fn=>(match fn.body.isNone && !(fn.name == "runtime.NumGoroutine"),Extern.findNext fn with
  | true,none=>(match fn.name == "internal/abi.NoEscape",args with
   | true,[v]=>.val v H
   | _,_=>(match Extern.find fn,litAll args with
    | some en,some vs=>(match pureG P H (en vs.toArray) with | some u=>.val (.lit u) H | none=>.bad)
    | _,_=>.bad))
  | _,_=>.bad)
 | none=>.bad
theorem b_ext (s:Sim B G ρ H w) (hG:G=P.globals.size) {g:FuncId} {args:List AV} {us:Array Value} {m:Sem Next} (hm:m.run P w=(callFunc g us).run P w) (hv:VRs ρ args us.toList) : RS B G P ρ H w (bExt P H g args) m:=by
 unfold bExt
 split
 ·rename_i fn hfn
  split
  ·rename_i hb hnx
   simp only [Bool.and_eq_true,Bool.not_eq_true'] at hb
   split
   ·rename_i v hname
    have hname' : fn.name = "internal/abi.NoEscape":=by simpa using hname
    have hrun:=run_callFunc_extern hfn hb.2 hb.1 hnx (find_noEscape hname') us w
    obtain ⟨u,us',hl,hvu,hnil⟩:=hv
    have hus' : us'=[]:=hnil
    subst hus'
    have hus:us=#[u]:=by rw [← Array.toArray_toList (xs:=us),hl]
    subst hus
    refine RS.quiet s (u:=u) ?_ hvu
    rw [hm,hrun]
    rfl
   ·split
    ·rename_i en vs hen hlit
     split
     ·rename_i u hp
      have hl:=litAll_VRs hlit hv
      have hus:us=vs.toArray:=by rw [← hl]
      have hrun:=run_callFunc_extern hfn hb.2 hb.1 hnx hen us w
      refine RS.quiet s (u:=u) ?_ rfl
      rw [hm,hrun,hus,pureG_run s hG hp]
      rfl
     ·trivial
    ·trivial
  ·trivial
 ·trivial
noncomputable def bCall (P:Program) (H:Mem) (ev:Ev) (c:Call) : R:=match evals ev c.args.toList with
 | none=>.bad
 | some args=>(match c.callee with
  | .builtin .append=>bAppend P H c args
  | .value f=>(match ev f with
   | some (.lit (.func (.func g) first cap))=>bExt P H g (first.toList.map .lit++args++cap.toList.map .lit)
   | _=>.bad)
  | _=>.bad)
theorem b_call (s:Sim B G ρ H w) (he:EvR ρ ev e) (hG:G=P.globals.size) {c:Call} (h:o.op=.call c) : RS B G P ρ H w (bCall P H ev c) (execOp e o):=by
 unfold bCall
 split
 ·trivial
 ·rename_i args hargs
  have hva:VRs ρ args (c.args.map e).toList:=by simpa using evals_VRs he hargs
  split
  ·rename_i hc
   exact b_append s he h hc hargs
  ·rename_i f hc
   split
   ·rename_i g first cap hf
    have:=he _ _ hf
    simp only [VR] at this
    refine b_ext s hG (us:=first++c.args.map e++cap) ?_ ?_
    ·simp [execOp,h,resolve,hc,this,Deferred.ofValue,invoke]
    ·have h1:=(VRs.lits (ρ:=ρ) first.toList).append hva
     simpa using h1.append (VRs.lits (ρ:=ρ) cap.toList)
   ·trivial
  ·trivial
noncomputable def bNeq (P:Program) (H:Mem) (op:BinOp) (t:TypeId) (x y:Option AV) : R:=match op,x,y with
 | .neq,some (.ptr a i),some (.ptr b j)=>(match Nat.beq a b && Nat.beq i j,P.underlying t with
  | true,some (.pointer te)=>(match P.info? te with | some _=>.val (.lit (.bool false)) H | none=>.bad)
  | _,_=>.bad)
 | _,_,_=>.bad
theorem b_neq (s:Sim B G ρ H w) (he:EvR ρ ev e) {op:BinOp} {t r:TypeId} {x y:Operand} (h:o.op=.binOp op t x y r) : RS B G P ρ H w (bNeq P H op t (ev x) (ev y)) (execOp e o):=by
 unfold bNeq
 split
 ·rename_i a i b j hx hy
  split
  ·rename_i te hc ht
   split
   ·rename_i info hi
    simp only [Bool.and_eq_true] at hc
    have h1:a=b:=Nat.eq_of_beq_eq_true hc.1
    have h2:i=j:=Nat.eq_of_beq_eq_true hc.2
    subst h1 h2
    obtain ⟨b1,o1,k1,hr1,hu1⟩:=he _ _ hx
    obtain ⟨b2,o2,k2,hr2,hu2⟩:=he _ _ hy
    rw [hr1] at hr2
    cases hr2
    have key:=Lib.run_neq_ptr_same (P:=P) w ⟨b1,o1+i,none⟩ ht hi
    refine RS.quiet s (u:=.bool false) ?_ rfl
    have hg:(eqGuard .neq t x y (e x) (e y)).run P w=.ok () w:=eqGuard_ok (by rw [hu1]; simp) (by rw [hu2]; simp) w
    simp only [hu1,hu2] at hg
    simp [execOp,h,hg,hu1,hu2,key]
   ·trivial
  ·trivial
 ·trivial
noncomputable def opB0 (P:Program) (H:Mem) (ev:Ev) (o:Oper) : R:=match o.op with
 | .alloc t=>bAlloc P H t
 | .load t x=>bLoad P H t (ev x)
 | .store t a x=>bStore P H t (ev a) (ev x)
 | .convert a b x=>bConv P H a b (ev x)
 | .call c=>bCall P H ev c
 | .binOp op t x y _=>bNeq P H op t (ev x) (ev y)
 | _=>.bad
theorem opB0_sound (s:Sim B G ρ H w) (he:EvR ρ ev e) (hG:G=P.globals.size) : RS B G P ρ H w (opB0 P H ev o) (execOp e o):=by
 unfold opB0
 split
 ·rename_i h; exact b_alloc s h
 ·rename_i h; exact b_load s he h
 ·rename_i h; exact b_store s he h
 ·rename_i h; exact b_conv s he h
 ·rename_i h; exact b_call s he hG h
 ·rename_i h; exact b_neq s he h
 ·trivial
noncomputable def opB (P:Program) (H:Mem) (ev:Ev) (o:Oper) : R:=match opB0 P H ev o with
 | .bad=>opV P H ev o
 | r=>r
theorem opB_sound (s:Sim B G ρ H w) (he:EvR ρ ev e) (hG:G=P.globals.size) : RS B G P ρ H w (opB P H ev o) (execOp e o):=by
 have h0:=opB0_sound (P:=P) (o:=o) s he hG
 unfold opB
 split
 ·exact opV_sound s he hG
 ·exact h0
end Go.Ai
end
section
namespace Go.Ai
open Go.RowKit (Below)
abbrev J:=Option Nat
def jcode:J→Code
 | none=>.ret
 | some id=>.exit id
def jexit:J→Exit
 | none=>.ret
 | some id=>.exit id
inductive OutE where
 | norm (fr:Fr) (ys:List Nat) (p:Option J) (H:Mem)
 | jump (j:J) (fr:Fr) (ys:List Nat) (p:Option J) (H:Mem)
 | bad
inductive YOut where
 | ok (b:Bool) (p:Option J) (H:Mem)
 | bad
inductive ROut where
 | ok (j:Option J) (H:Mem)
 | bad
inductive KE where
 | mv
 | yl (args:Array Operand)
 | no
def kindE (o:Oper) (ys:List Nat) : KE:=match o.op with
 | .move (.tmp t)=>(match elemN t ys with | true=>.mv | false=>.no)
 | .call c=>(match c.callee with
  | .value (.tmp t)=>(match elemN t ys with | true=>.yl c.args | false=>.no)
  | _=>.no)
 | _=>.no
def noDfO (o:Oper) : Bool:=match o.op with | .defer _=>false | _=>true
def dropN (d:Nat) : List Nat→List Nat
 | []=>[]
 | t :: l=>match Nat.beq d t with | true=>dropN d l | false=>t :: dropN d l
def dropO (d:Option Tmp) (ys:List Nat) : List Nat:=match d with | none=>ys | some d=>dropN d ys
abbrev YF:=List AV→Mem→YOut
abbrev RF:=Operand→Array Tmp→Code→Code→Fr→Mem→ROut
abbrev KF:=Fr→List Nat→Option J→Mem→OutE
noncomputable def mvE (o:Oper) (fr:Fr) (ys:List Nat) (p:Option J) (H:Mem) (K:KF) : OutE:=match o.dst with
 | none=>.bad
 | some d=>match fr.get d with
  | none=>K fr (d :: ys) p H
  | some _=>.bad
noncomputable def ylE (yf:YF) (o:Oper) (args:Array Operand) (fr:Fr) (ys:List Nat) (p:Option J) (H:Mem) (K:KF) : OutE:=match p,evals fr.ev args.toList with
 | none,some vs=>match yf vs H with
  | .ok b p' H'=>K (fr.put o.dst (.lit (.bool b))) (dropO o.dst ys) p' H'
  | .bad=>.bad
 | _,_=>.bad
noncomputable def afE (callf:CallF) (o:Oper) (fr:Fr) (ys:List Nat) (p:Option J) (K:KF) (r:R) : OutE:=match r with
 | .val v H'=>K (fr.put o.dst v) (dropO o.dst ys) p H'
 | .skip H'=>K (fr.put o.dst (.lit undef)) (dropO o.dst ys) p H'
 | .enter f args H'=>match callf f args H' with
  | .ret v H''=>K (fr.put o.dst v) (dropO o.dst ys) p H''
  | _=>.bad
 | _=>.bad
noncomputable def opE (P:Program) (callf:CallF) (yf:YF) (o:Oper) (fr:Fr) (ys:List Nat) (p:Option J) (H:Mem) (K:KF) : OutE:=match kindE o ys with
 | .mv=>mvE o fr ys p H K
 | .yl args=>ylE yf o args fr ys p H K
 | .no=>match noDfO o with
  | true=>afE callf o fr ys p K (opB P H fr.ev o)
  | false=>.bad
noncomputable def wantE (ops:Array Oper) (o:Oper) (fr:Fr) : Option Bool:=match o.guard with
 | none=>some true
 | some g=>wantedG ops fr g
noncomputable def opsE (P:Program) (callf:CallF) (yf:YF) (ops:Array Oper) : List Oper→KF
 | [],fr,ys,p,H=>.norm fr ys p H
 | o :: l,fr,ys,p,H=>match wantE ops o fr with
  | some true=>opE P callf yf o fr ys p H (opsE P callf yf ops l)
  | some false=>opsE P callf yf ops l (fr.put o.dst (.lit undef)) (dropO o.dst ys) p H
  | none=>.bad
def thenE (r:OutE) (k:KF) : OutE:=match r with
 | .norm fr ys p H=>k fr ys p H
 | r=>r
def blockE (id:Nat) (r:OutE) : OutE:=match r with
 | .jump (some id') fr ys p H=>(match Nat.beq id' id with | true=>.norm fr ys p H | false=>.jump (some id') fr ys p H)
 | r=>r
abbrev LFE:=Code→KF
noncomputable def drawE (P:Program) (callf:CallF) (ops:Array Oper) (fr:Fr) (ys:List Nat) (p:Option J) (H:Mem) : OutE:=match ys,ops.toList.all noDfO with
 | [],true=>(match drawnF P callf ops fr H with
  | .norm fr' H'=>(match fr'.defers with | []=>.norm fr' [] p H' | _=>.bad)
  | _=>.bad)
 | _,_=>.bad
noncomputable def execE (P:Program) (callf:CallF) (yf:YF) (rf:RF) (loopf:LFE) : Code→KF
 | .skip,fr,ys,p,H=>.norm fr ys p H
 | .region _ ops draw,fr,ys,p,H=>(match draw with | true=>drawE P callf ops fr ys p H | false=>opsE P callf yf ops ops.toList fr ys p H)
 | .seq a b,fr,ys,p,H=>thenE (execE P callf yf rf loopf a fr ys p H) (execE P callf yf rf loopf b)
 | .cond c a b,fr,ys,p,H=>(match fr.ev c with
  | some (.lit (.bool true))=>execE P callf yf rf loopf a fr ys p H
  | some (.lit (.bool false))=>execE P callf yf rf loopf b fr ys p H
  | _=>.bad)
 | .block id b,fr,ys,p,H=>blockE id (execE P callf yf rf loopf b fr ys p H)
 | .loop b,fr,ys,p,H=>thenE (execE P callf yf rf loopf b fr ys p H) (loopf b)
 | .rangeFunc g ps asg body,fr,ys,p,H=>(match ys with
  | []=>(match rf g ps asg body fr H with
   | .ok none H'=>.norm fr [] p H'
   | .ok (some j) H'=>.jump j fr [] p H'
   | .bad=>.bad)
  | _=>.bad)
 | .exit id,fr,ys,p,H=>.jump (some id) fr ys p H
 | .label _,fr,ys,p,H=>.norm fr ys p H
 | .ret,fr,ys,p,H=>.jump none fr ys p H
 | _,_,_,_,_=>.bad
noncomputable def loopE (P:Program) (callf:CallF) (yf:YF) (rf:RF) : Nat→LFE
 | 0=>fun _ _ _ _ _=>.bad
 | m+1=>fun b fr ys p H=>thenE (execE P callf yf rf (loopE P callf yf rf m) b fr ys p H) (loopE P callf yf rf m b)
def FR (r:Option Nat) : Fence:={ Fence.wide with round:=r }
theorem callsFR {r:Option Nat} {m:Nat} {P:Program} {f:FuncId} {args:Array Value} {w:World} {R:Ending→World→Prop} (h:Calls P f args w R) : CallsIn (FR r) m P f args w R:=(callsIn_wide (n:=m)).2 h
theorem callsOfFR {r:Option Nat} {m:Nat} {P:Program} {f:FuncId} {args:Array Value} {w:World} {R:Ending→World→Prop} (h:CallsIn (FR r) m P f args w R) : Calls P f args w R:=(callsIn_wide (n:=m)).1 h
def Act.bare (a:Act) : Act:={ a with defers:=[] }
theorem bare_put (a:Act) (d:Option Tmp) (v:Value) : Act.bare (a.put d v)=(Act.bare a).put d v:=by cases d <;> rfl
theorem bare_eval (a:Act) : (Act.bare a).eval=a.eval:=by funext x; cases x <;> rfl
def KX (x:Option Nat) (w w' : World) : Prop:=(∀ (k:Nat) (o:Obj),w.heap[k]?=some o→isMk o=true→x≠some k→w'.heap[k]?=some o)∧w.drawn≤w'.drawn
theorem KX.refl (x:Option Nat) (w:World) : KX x w w:=⟨fun _ _ h _ _=>h,Nat.le_refl _⟩
theorem KX.trans {x:Option Nat} {a b c:World} (h:KX x a b) (k:KX x b c) : KX x a c:=⟨fun i o hi ho hx=>k.1 i o (h.1 i o hi ho hx) ho hx,Nat.le_trans h.2 k.2⟩
theorem KD.kx {x:Option Nat} {w w' : World} (h:KD w w') : KX x w w':=⟨fun i o hi ho _=>h.1 i o hi ho,h.2⟩
theorem KX.kd {w w' : World} (h:KX none w w') : KD w w':=⟨fun i o hi ho=>h.1 i o hi ho (by simp),h.2⟩
theorem Sim.mark {B G:Nat} {ρ:Rn} {H:Mem} {w w' : World} {l:Nat} {ob:Obj} (s:Sim B G ρ H w) (hl:w.heap[l]?=some ob) (ho:isMk ob=true) (hw:∀ k,k≠l→w'.heap[k]?=w.heap[k]?) (hsz:w.heap.size≤w'.heap.size) : Sim B G ρ H w':=by
 refine s.other hsz fun a x b o k hx hr=>hw b fun e=>?_
 subst e
 rcases s.blk a x hx with h | ⟨b',o',k',h,hb⟩
 ·rw [hr] at h; cases h
 ·rw [hr] at h; cases h
  cases x with
  | cells l own z=>obtain ⟨c,e,fz,h1,_⟩:=hb; rw [hl] at h1; cases h1; cases ho
  | map es clock=>obtain ⟨es',h1,_⟩:=hb; rw [hl] at h1; cases h1; cases ho
  | siter s pos=>have h1:=hb.1; rw [hl] at h1; cases h1; cases ho
  | typ T l ex=>obtain ⟨_,_,c,h1,_⟩:=hb; rw [hl] at h1; cases h1; cases ho
abbrev Inv:=Rn→Option J→List Deferred→World→Prop
def InvOK (I:Inv) : Prop:=∀ ρ ρ' p ds w w',I ρ p ds w→KD w w'→w.heap.size≤w'.heap.size→Sub ρ ρ'→I ρ' p ds w'
structure StE (B G n n0:Nat) (ρ0:Rn) (w0:World) (x:Option Nat) (l:Nat) (I:Inv) (ρ:Rn) (fr:Fr) (ys:List Nat) (p:Option J) (H:Mem) (a:Act) (w:World) : Prop where
 same:∀ a,a < n0→ρ a=ρ0 a
 keeps:KX x w0 w
 below:Below B w0 w
 sim:Sim B G ρ H w
 frel:FRel n ρ fr (Act.bare a)
 le:n0≤H.next
 inv:I ρ p a.defers w
 ysl:∀ t,t∈ys→t < n∧fr.get t=none∧a.tmps.getD t undef=.func (.yield l) #[] #[]
def PostE (B G n n0:Nat) (ρ0:Rn) (w0:World) (x:Option Nat) (l:Nat) (I:Inv) (out:OutE) : Exit→Act→World→Prop:=fun e a' w'=>match out with
 | .norm fr ys p H=>e=.normal∧∃ ρ',StE B G n n0 ρ0 w0 x l I ρ' fr ys p H a' w'
 | .jump j fr ys p H=>e=jexit j∧∃ ρ',StE B G n n0 ρ0 w0 x l I ρ' fr ys p H a' w'
 | .bad=>False
def YOK (B G:Nat) (P:Program) (r x:Option Nat) (l m:Nat) (I:Inv) (yf:YF) : Prop:=∀ vs H b p' H',yf vs H=.ok b p' H'→∀ (ρ:Rn) (us:Array Value) (ds:List Deferred) (w:World),Sim B G ρ H w→VRs ρ vs us.toList→I ρ none ds w →
 ∃ f tm asg bd,(Instr.yield l us).run P w=.ok (.round l f tm asg bd) w ∧
  RoundIn (FR r) m P l f tm asg bd w fun e w'=>e=.returned (.bool b)∧∃ ρ',(∀ a,a < H.next→ρ' a=ρ a)∧KX x w w'∧Below B w w'∧Sim B G ρ' H' w'∧H.next≤H'.next∧I ρ' p' ds w'
def rOut (j:Option J) (fr:Fr) (p:Option J) (H:Mem) : OutE:=match j with | none=>.norm fr [] p H | some j=>.jump j fr [] p H
def ROK (B G n n0:Nat) (P:Program) (r x:Option Nat) (l m:Nat) (I:Inv) (rf:RF) : Prop:=∀ g ps asg body fr H j H',rf g ps asg body fr H=.ok j H' →
 ∀ (ρ0:Rn) (w0:World) (ρ:Rn) (p:Option J) (a:Act) (w:World),StE B G n n0 ρ0 w0 x l I ρ fr [] p H a w →
  (Code.rangeFunc g ps asg body).wpIn (FR r) m P (PostE B G n n0 ρ0 w0 x l I (rOut j fr p H')) a w
variable {B G n n0 m l:Nat} {P:Program} {ρ0 ρ:Rn} {w0 w:World} {x r:Option Nat} {I:Inv} {fr:Fr} {ys:List Nat} {p:Option J} {H:Mem} {a:Act}
theorem StE.st (s:StE B G n n0 ρ0 w0 x l I ρ fr ys p H a w) : St B G n H.next ρ w ρ fr H (Act.bare a) w:=⟨Ext.refl _ _ _ _,s.sim,s.frel,Nat.le_refl _⟩
theorem StE.ev (s:StE B G n n0 ρ0 w0 x l I ρ fr ys p H a w) : EvR ρ fr.ev a.eval:=by rw [← bare_eval]; exact s.st.ev
theorem mem_dropN {d t:Nat} : ∀ {l:List Nat},t∈dropN d l→t∈l∧t≠d
 | y :: l,h=>by
  unfold dropN at h
  split at h
  ·obtain ⟨h1,h2⟩:=mem_dropN h; exact ⟨by simp [h1],h2⟩
  ·rename_i hb
   rcases List.mem_cons.1 h with rfl | h
   ·refine ⟨by simp,fun e=>?_⟩
    subst e; simp at hb
   ·obtain ⟨h1,h2⟩:=mem_dropN h; exact ⟨by simp [h1],h2⟩
theorem ysl_put {d:Option Tmp} {v:AV} {u yv:Value} (h:∀ t,t∈ys→t < n∧fr.get t=none∧a.tmps.getD t undef=yv) :
  ∀ t,t∈dropO d ys→t < n∧(fr.put d v).get t=none∧(a.put d u).tmps.getD t undef=yv:=by
 intro t ht
 cases d with
 | none=>exact h t ht
 | some d =>
  obtain ⟨h1,h2⟩:=mem_dropN ht
  obtain ⟨h3,h4,h5⟩:=h t h1
  refine ⟨h3,?_,?_⟩
  ·cases hg:(fr.put (some d) v).get t with
   | none=>rfl
   | some y =>
    rcases Fr.get_upd hg with ⟨rfl,_⟩ | ⟨_,hy⟩
    ·exact absurd rfl h2
    ·rw [h4] at hy; cases hy
  ·show (a.tmps.setIfInBounds d u).getD t undef=yv
   rw [Array.getD_eq_getD_getElem?] at h5 ⊢
   rw [Array.getElem?_setIfInBounds_ne (Ne.symm h2)]
   exact h5
theorem StE.step {ρ' : Rn} {H' : Mem} {w' : World} {v:AV} {u:Value} {d:Option Tmp} {p' : Option J} (s:StE B G n n0 ρ0 w0 x l I ρ fr ys p H a w) (h1:∀ a,a < H.next→ρ' a=ρ a) (h2:KX x w w') (h3:Below B w w') (hs:Sim B G ρ' H' w')
  (hv:VR ρ' v u) (hn:H.next≤H'.next) (hd:∀ t,d=some t→t < n) (hI:I ρ' p' a.defers w') : StE B G n n0 ρ0 w0 x l I ρ' (fr.put d v) (dropO d ys) p' H' (a.put d u) w':=by
 have hsub:Sub ρ ρ':=by
  intro a x hx
  rw [h1 a ?_]; · exact hx
  rcases Nat.lt_or_ge a H.next with k | k
  ·exact k
  ·rw [s.sim.fresh a k] at hx; cases hx
 refine ⟨fun b hb=>(h1 b (Nat.lt_of_lt_of_le hb s.le)).trans (s.same b hb),s.keeps.trans h2,s.below.trans h3,hs,?_,Nat.le_trans s.le hn,by rw [put_defers]; exact hI,ysl_put s.ysl⟩
 rw [bare_put]
 exact (s.frel.mono hsub).put hd hv
theorem elemN_of {i:Nat} : ∀ {l:List Nat},elemN i l=true→i∈l
 | j :: l,h=>by
  unfold elemN at h
  split at h
  ·rename_i hb; simp [Nat.eq_of_beq_eq_true hb]
  ·simp [elemN_of h]
theorem opE_sound {callf:CallF} {yf:YF} {ops:Array Oper} {o:Oper} {rest:List Oper} {K:KF} {out:OutE} (hc:CallOK B G P callf) (hG:G=P.globals.size) (hy:∀ m,YOK B G P r x l m I yf)
  (hI:InvOK I) (hdst:dstOk n o=true) (s:StE B G n n0 ρ0 w0 x l I ρ fr ys p H a w)
  (hk:∀ fr' ys' p' H' ρ' a' w',StE B G n n0 ρ0 w0 x l I ρ' fr' ys' p' H' a' w'→K fr' ys' p' H'=out→wpListIn (FR r) m P ops (PostE B G n n0 ρ0 w0 x l I out) rest a' w')
  (hout:opE P callf yf o fr ys p H K=out) (hne:out≠.bad) :
  o.wpIn (FR r) m P a w (wpListIn (FR r) m P ops (PostE B G n n0 ρ0 w0 x l I out) rest) (PostE B G n n0 ρ0 w0 x l I out):=by
 refine ⟨fun _ _=>trivial,?_⟩
 have hd:=dstOk_lt hdst
 unfold opE at hout
 split at hout
 ·
  rename_i hkd
  unfold kindE at hkd
  split at hkd
  ·rename_i t hop
   split at hkd
   ·rename_i ht
    obtain ⟨h1,h2,h3⟩:=s.ysl t (elemN_of ht)
    have hrun:(o.semAt (FR r).round a.eval).run P w=.ok (.value (.func (.yield l) #[] #[])) w:=by
     rw [Oper.semAt_eq _ _ _ (by rw [hop]; simp)]
     have:a.eval (.tmp t)=.func (.yield l) #[] #[]:=h3
     simp [execOp,hop,this]
    rw [hrun]
    show wpListIn _ _ _ _ _ _ (a.put o.dst _) w
    unfold mvE at hout
    split at hout
    ·exact absurd hout.symm hne
    ·rename_i d hdd
     split at hout
     ·rename_i hg
      refine hk fr (d :: ys) p H ρ _ w ⟨s.same,s.keeps,s.below,s.sim,?_,s.le,by rw [put_defers]; exact s.inv,?_⟩ hout
      ·rw [hdd]
       refine ⟨fun j v hj hjn=>?_,s.frel.dfr,?_,s.frel.only⟩
       ·have hjd:j≠d:=fun e=>by rw [e,hg] at hj; cases hj
        have:=s.frel.slot j v hj hjn
        show VR ρ v ((a.tmps.setIfInBounds d _).getD j undef)
        rw [Array.getD_eq_getD_getElem?,Array.getElem?_setIfInBounds_ne (Ne.symm hjd),← Array.getD_eq_getD_getElem?]
        exact this
       ·show n≤(a.tmps.setIfInBounds d _).size
        simp; exact s.frel.size
      ·intro j hj
       rw [hdd]
       have hdn:=hd d hdd
       have hsz:d < a.tmps.size:=Nat.lt_of_lt_of_le hdn s.frel.size
       by_cases hjd:j=d
       ·subst hjd
        refine ⟨hdn,hg,?_⟩
        show (a.tmps.setIfInBounds j _).getD j undef=_
        rw [Array.getD_eq_getD_getElem?]
        simp [hsz]
       ·have hj' : j∈ys:=by simpa [hjd] using hj
        obtain ⟨k1,k2,k3⟩:=s.ysl j hj'
        refine ⟨k1,k2,?_⟩
        show (a.tmps.setIfInBounds d _).getD j undef=_
        rw [Array.getD_eq_getD_getElem?,Array.getElem?_setIfInBounds_ne (Ne.symm hjd),← Array.getD_eq_getD_getElem?]
        exact k3
     ·exact absurd hout.symm hne
   ·cases hkd
  ·split at hkd
   ·split at hkd <;> cases hkd
   ·cases hkd
  ·cases hkd
 ·
  rename_i args hkd
  unfold kindE at hkd
  split at hkd
  ·split at hkd <;> cases hkd
  ·rename_i c hop
   split at hkd
   ·rename_i t hcal
    split at hkd
    ·rename_i ht
     cases hkd
     obtain ⟨h1,h2,h3⟩:=s.ysl t (elemN_of ht)
     unfold ylE at hout
     split at hout
     ·rename_i vs hvs
      split at hout
      ·rename_i b p' H' hyf
       have hva:VRs ρ vs (c.args.map a.eval).toList:=by simpa using evals_VRs s.ev hvs
       obtain ⟨f,tm,asg,bd,hrun,hround⟩:=hy (m - 1) vs H b p' H' hyf ρ (c.args.map a.eval) a.defers w s.sim hva s.inv
       have hrun2:(o.semAt (FR r).round a.eval).run P w=.ok (.round l f tm asg bd) w:=by
        rw [Oper.semAt_eq _ _ _ (by rw [hop]; simp)]
        have:a.eval (.tmp t)=.func (.yield l) #[] #[]:=h3
        simp only [execOp,hop,resolve,hcal,this,Deferred.ofValue,Sem.run_bind,Sem.run_pure,Result.andThen_ok,invoke]
        simpa using hrun
       rw [hrun2,Oper.uponIn_round]
       refine ⟨fun h=>(by cases h),hround.mono fun e w' he=>?_⟩
       obtain ⟨rfl,ρ',g1,g2,g3,g4,g5,g6⟩:=he
       exact hk _ _ _ _ _ _ _ (s.step (v:=.lit (.bool b)) (u:=.bool b) g1 g2 g3 g4 rfl g5 hd g6) hout
      ·exact absurd hout.symm hne
     ·exact absurd hout.symm hne
    ·cases hkd
   ·cases hkd
  ·cases hkd
 ·rename_i hkd
  split at hout
  ·rename_i hnd
   have hop:∀ c,o.op≠.defer c:=by
    intro c hc
    unfold noDfO at hnd
    rw [hc] at hnd
    cases hnd
   rw [Oper.semAt_eq _ _ _ hop]
   have hrs:=opB_sound (o:=o) s.sim s.ev hG
   unfold afE at hout
   cases hr:opB P H fr.ev o with
   | val v H' =>
    rw [hr] at hrs hout
    obtain ⟨ρ',u,w',h1,h2,h3,h4,h5⟩:=hrs
    rw [h1]
    exact hk _ _ _ _ _ _ _ (s.step h2.same h2.keeps.kx h2.below h3 h4 h5 hd (hI _ _ _ _ _ _ s.inv h2.keeps h2.below.size (h2.sub s.sim))) hout
   | skip H' =>
    rw [hr] at hrs hout
    obtain ⟨ρ',w',h1,h2,h3,h5⟩:=hrs
    rw [h1]
    exact hk _ _ _ _ _ _ _ (s.step h2.same h2.keeps.kx h2.below h3 (undef_VR _) h5 hd (hI _ _ _ _ _ _ s.inv h2.keeps h2.below.size (h2.sub s.sim))) hout
   | enter f args H' =>
    rw [hr] at hrs hout
    obtain ⟨us,h1,h2,rfl⟩:=hrs
    rw [h1,Oper.uponIn_enter]
    refine ⟨fun h=>(by cases h),?_⟩
    cases hcall:callf f args H' with
    | ret v H2 =>
     dsimp only at hout
     rw [hcall] at hout
     have:=hc f args H' (by rw [hcall]; simp) ρ us w s.sim h2
     rw [hcall] at this
     refine (callsFR this).mono fun e w' he=>?_
     cases e with
     | returned u =>
      obtain ⟨ρ',g1,g2,g3,g4⟩:=he
      exact hk _ _ _ _ _ _ _ (s.step g1.same g1.keeps.kx g1.below g2 g3 g4 hd (hI _ _ _ _ _ _ s.inv g1.keeps g1.below.size (g1.sub s.sim))) hout
     | panicked chain=>exact he.elim
     | outgrown=>exact he.elim
    | panic v H2=>dsimp only at hout; rw [hcall] at hout; exact absurd hout.symm hne
    | bad=>dsimp only at hout; rw [hcall] at hout; exact absurd hout.symm hne
   | dfr fn cap args H'=>rw [hr] at hout; exact absurd hout.symm hne
   | recover=>rw [hr] at hout; exact absurd hout.symm hne
   | panic v H'=>rw [hr] at hout; exact absurd hout.symm hne
   | bad=>rw [hr] at hout; exact absurd hout.symm hne
  ·exact absurd hout.symm hne
theorem wantE_sound {ops:Array Oper} {o:Oper} {b:Bool} (s:StE B G n n0 ρ0 w0 x l I ρ fr ys p H a w) (h:wantE ops o fr=some b) : Region.wanted o (yielded ops a.tmps)=b:=by
 unfold wantE at h
 cases hg:o.guard with
 | none=>rw [hg] at h; cases h; simp [Region.wanted,hg]
 | some g=>rw [hg] at h; exact wantedG_sound (a:=Act.bare a) s.st hg h
theorem opsE_sound {callf:CallF} {yf:YF} {ops:Array Oper} (hc:CallOK B G P callf) (hG:G=P.globals.size) (hy:∀ m,YOK B G P r x l m I yf) (hI:InvOK I) {out:OutE} (hne:out≠.bad) :
  ∀ (li:List Oper) (fr:Fr) (ys:List Nat) (p:Option J) (H:Mem) (ρ:Rn) (a:Act) (w:World),(∀ o∈li,dstOk n o=true)→StE B G n n0 ρ0 w0 x l I ρ fr ys p H a w→opsE P callf yf ops li fr ys p H=out →
   wpListIn (FR r) m P ops (PostE B G n n0 ρ0 w0 x l I out) li a w
 | [],fr,ys,p,H,ρ,a,w,_,s,h=>by
  have h' : OutE.norm fr ys p H=out:=h
  subst h'
  exact wpListIn_nil ⟨rfl,ρ,s⟩
 | o :: li,fr,ys,p,H,ρ,a,w,hd,s,h=>by
  have hdo:=hd o (by simp)
  unfold opsE at h
  unfold wpListIn
  split at h
  ·rename_i hw
   rw [if_pos (wantE_sound s hw)]
   exact opE_sound hc hG hy hI hdo s (fun fr' ys' p' H' ρ' a' w' s' hk=>opsE_sound hc hG hy hI hne li fr' ys' p' H' ρ' a' w' (fun o ho=>hd o (by simp [ho])) s' hk) h hne
  ·rename_i hw
   rw [if_neg (by rw [wantE_sound s hw]; simp)]
   exact ⟨fun _ _=>trivial,opsE_sound hc hG hy hI hne li _ _ _ _ ρ _ _ (fun o ho=>hd o (by simp [ho])) (s.step (fun _ _=>rfl) (KX.refl _ _) (Below.refl _ _) s.sim (undef_VR _) (Nat.le_refl _) (dstOk_lt hdo) s.inv) h⟩
  ·exact absurd h.symm hne
def Act.df (a:Act) (x:List Deferred) : Act:={ a with defers:=x }
theorem df_put (a:Act) (x:List Deferred) (d:Option Tmp) (v:Value) : (Act.df a x).put d v=Act.df (a.put d v) x:=by cases d <;> rfl
theorem df_eval (a:Act) (x:List Deferred) : (Act.df a x).eval=a.eval:=by funext y; cases y <;> rfl
theorem rowsFR {row:String} {args:Array Value} {w:World} {R:Value→World→Prop} (h:Rows P row args w R) : RowsIn (FR r) m P row args w R :=
 fun c cs _=>let ⟨v,w',hr,s⟩:=h c cs; ⟨v,w',hr,stepsIn_wide.2 s⟩
theorem opsIn_of {ops:Array Oper} {Q:Exit→Act→World→Prop} (hnd:ops.toList.all noDfO=true) (hQ:¬LetsOut Q) (D0:List Deferred) : ∀ (li:List Nat) (a:Act) (x:List Deferred) (w:World),a.defers=x++D0→wpOps P ops Q li (Act.df a x) w →
  wpOpsIn (FR r) m P ops (fun e a' w'=>∃ y,a'.defers=y++D0∧Q e (Act.df a' y) w') li a w
 | [],a,x,w,ha,h=>⟨x,ha,h⟩
 | i :: li,a,x,w,ha,h=>by
  unfold wpOps at h
  unfold wpOpsIn
  cases ho:ops[i]? with
  | none=>rw [ho] at h; exact opsIn_of hnd hQ D0 li a x w ha h
  | some o =>
   rw [ho] at h
   dsimp only at h ⊢
   have hno:=List.all_eq_true.1 hnd o (List.mem_of_getElem? (toList_at.2 ho))
   have hop:∀ c,o.op≠.defer c:=by
    intro c hc
    unfold noDfO at hno
    rw [hc] at hno
    cases hno
   have hdd:∀ d v,(a.put d v).defers=x++D0:=fun d v=>by rw [put_defers]; exact ha
   split at h
   ·rename_i hw
    rw [if_pos (show Region.wanted o (yielded ops a.tmps)=true from hw)]
    rcases h with h | ⟨_,h2⟩
    ·refine ⟨fun _ _=>trivial,?_⟩
     rw [Oper.semAt_eq _ _ _ hop]
     unfold Oper.wp at h
     rw [df_eval] at h
     unfold Oper.upon at h
     split at h
     ·rename_i hr; rw [hr]; rw [df_put] at h; exact opsIn_of hnd hQ D0 li _ x _ (hdd _ _) h
     ·rename_i hr; rw [hr]; rw [df_put] at h; exact opsIn_of hnd hQ D0 li _ x _ (hdd _ _) h
     ·rename_i d w' hr
      rw [hr,Oper.uponIn_defer]
      refine opsIn_of hnd hQ D0 li _ (d :: x) _ (by rw [put_defers]; simp [ha]) ?_
      have e:Act.df (({ a with defers:=d :: a.defers } : Act).put o.dst undef) (d :: x)=({ Act.df a x with defers:=d :: (Act.df a x).defers } : Act).put o.dst undef:=by
       cases o.dst <;> rfl
      rw [e]; exact h
     ·rename_i f args w' hr
      rw [hr,Oper.uponIn_enter]
      refine ⟨fun h=>(by cases h),(callsFR h).mono fun e w2 he=>?_⟩
      cases e with
      | returned v=>dsimp only at he ⊢; rw [df_put] at he; exact opsIn_of hnd hQ D0 li _ x _ (hdd _ _) he
      | panicked c=>exact ⟨x,ha,he⟩
      | outgrown=>exact absurd he hQ
     ·rename_i row args w' hr
      rw [hr,Oper.uponIn_row]
      refine ⟨fun h=>(by cases h),(rowsFR h).mono fun v w2 he=>?_⟩
      rw [df_put] at he; exact opsIn_of hnd hQ D0 li _ x _ (hdd _ _) he
     ·rename_i v w' hr
      rw [hr]; exact ⟨x,ha,h⟩
     ·exact h.elim
    ·exact absurd h2 hQ
   ·rename_i hw
    rw [if_neg (show ¬Region.wanted o (yielded ops a.tmps)=true from hw)]
    refine ⟨fun _ _=>trivial,opsIn_of hnd hQ D0 li _ x _ (hdd _ _) ?_⟩
    rw [← df_put]; exact h
theorem uponIn_monoQ {o:Oper} {next next' : Act→World→Prop} {Q Q' : Exit→Act→World→Prop} (hn:∀ a w,next a w→next' a w) (hq:∀ e a w,Q e a w→Q' e a w) {F:Fence} {re:Result Next} (h:o.uponIn F m P a next Q re) : o.uponIn F m P a next' Q' re:=by
 have hl:LetsOut Q→LetsOut Q':=fun ⟨a,w,h⟩=>⟨a,w,hq _ _ _ h⟩
 unfold Oper.uponIn at h ⊢
 split at h
 ·exact hn _ _ h
 ·exact hn _ _ h
 ·exact hn _ _ h
 ·refine ⟨h.1,h.2.mono fun e w' he=>?_⟩
  cases e with
  | returned v=>exact hn _ _ he
  | panicked c=>exact hq _ _ _ he
  | outgrown=>exact hl he
 ·exact ⟨h.1,h.2.mono fun v w' he=>hn _ _ he⟩
 ·refine ⟨h.1,h.2.mono fun e w' he=>?_⟩
  cases e with
  | returned v=>exact hn _ _ he
  | panicked c=>exact hq _ _ _ he
  | outgrown=>exact hl he
 ·exact hq _ _ _ h
 ·exact h.elim
theorem wpOpsIn_monoQ {F:Fence} {ops:Array Oper} {Q Q' : Exit→Act→World→Prop} (hq:∀ e a w,Q e a w→Q' e a w) : ∀ (l:List Nat) (a:Act) (w:World),wpOpsIn F m P ops Q l a w→wpOpsIn F m P ops Q' l a w
 | [],a,w,h=>hq _ _ _ h
 | i :: l,a,w,h=>by
  unfold wpOpsIn at h ⊢
  cases ho:ops[i]? with
  | none=>rw [ho] at h; exact wpOpsIn_monoQ hq l a w h
  | some o =>
   rw [ho] at h
   dsimp only at h ⊢
   split at h
   ·rename_i hw
    rw [if_pos hw]
    exact ⟨h.1,uponIn_monoQ (wpOpsIn_monoQ hq l) hq h.2⟩
   ·rename_i hw
    rw [if_neg hw]
    exact ⟨h.1,wpOpsIn_monoQ hq l _ _ h.2⟩
theorem drawE_sound {callf:CallF} {ops:Array Oper} {id:Nat} (hcs:∀ B,CallOK B G P callf) (hG:G=P.globals.size) (hI:InvOK I) (hd:dstsOk n (.region id ops true)=true)
  (s:StE B G n n0 ρ0 w0 x l I ρ fr ys p H a w) (hne:drawE P callf ops fr ys p H≠.bad) : (Code.region id ops true).wpIn (FR r) m P (PostE B G n n0 ρ0 w0 x l I (drawE P callf ops fr ys p H)) a w:=by
 unfold drawE at hne ⊢
 split at hne
 ·rename_i hnd
  split at hne
  ·rename_i fr' H' hr
   split at hne
   case h_2=>exact absurd rfl hne
   rename_i hfd
   refine wpIn_region_draw fun t=>?_
   have hq:¬LetsOut (OutPost B G n H.next ρ w (drawnF P callf ops fr H)):=by
    rintro ⟨a',w',h⟩
    rw [hr] at h
    exact h.elim
   have key:=opsIn_of (r:=r) (m:=m) hnd hq a.defers _ a [] _ rfl (drawnF_ops (id:=id) hcs hG s.st hd (by rw [hr]; simp) t)
   refine wpOpsIn_monoQ ?_ _ _ _ key
   rintro e a' w' ⟨y,hy,h⟩
   rw [hr] at h
   cases e with
   | normal =>
    obtain ⟨ρ',s'⟩:=h
    have hy0:y=[]:=by
     have h1:DR ρ' fr'.defers y:=s'.frel.dfr
     rw [hfd] at h1; exact h1
    subst hy0
    refine ⟨rfl,ρ',fun b hb=>(s'.ext.same b (Nat.lt_of_lt_of_le hb s.le)).trans (s.same b hb),s.keeps.trans s'.ext.keeps.kx,s.below.trans s'.ext.below,s'.sim,s'.frel,Nat.le_trans s.le s'.le,?_,by simp⟩
    have hy' : a'.defers=a.defers:=by simpa using hy
    rw [hy']
    exact hI _ _ _ _ _ _ s.inv s'.ext.keeps s'.ext.below.size (s'.ext.sub s.sim)
   | _=>exact h.elim
  ·exact absurd rfl hne
 ·exact absurd rfl hne
end Go.Ai
end
section
namespace Go.Ai
open Go.RowKit (Below)
variable {B G n n0 m l:Nat} {P:Program} {ρ0 ρ:Rn} {w0 w:World} {x r:Option Nat} {I:Inv} {fr:Fr} {ys:List Nat} {p:Option J} {H:Mem} {a:Act}
def LWR (r:Option Nat) (P:Program) (c:Code) (Q:Exit→Act→World→Prop) (a:Act) (w:World) : Prop :=
 ∀ (b:Frame) (k:List Item) (cs:List Frame),b.roundOf=r→∃ e a' w',Q e a' w'∧ArrivesIn (Machine.fenced P (FR r)) P (lone (b.atR a (.code c :: .inLoop c :: k)) cs w) b k cs e a' w'
theorem room_FR (n:Nat) : (FR r).room n:=fun _ h=>by cases h
theorem fencedFR {b:Frame} {k:List Item} {cs:List Frame} (hr:b.roundOf=r) (ha:(b.atR a k).about P w=none) : (lone (b.atR a k) cs w).fenced P (FR r):=fenced_calm (n:=0) (F:=FR r) trivial (room_FR _) ha
theorem LWR.wp {c:Code} {Q:Exit→Act→World→Prop} (h:LWR r P c Q a w) : (Code.loop c).wpIn (FR r) m P Q a w :=
 fun b k cs hro _ _=>let ⟨e,a',w',q,s⟩:=h b k cs hro; ⟨e,a',w',q,.of_steps (.one (fencedFR hro rfl) stepR_loop) s⟩
theorem LWR.unroll {c:Code} {Q:Exit→Act→World→Prop} (h:c.wpIn (FR r) m P (Exit.then (LWR r P c Q) Q) a w) : LWR r P c Q a w:=by
 intro b k cs hro
 obtain ⟨e,a₁,w₁,hq,harr⟩:=h b (.inLoop c :: k) cs hro trivial (room_FR _)
 cases e with
 | normal =>
  obtain ⟨e₂,a₂,w₂,hq₂,harr₂⟩:=hq b k cs hro
  exact ⟨e₂,a₂,w₂,hq₂,.of_steps (StepsIn.trans harr (.one (fencedFR hro rfl) stepR_inLoop)) harr₂⟩
 | exit id=>exact ⟨_,a₁,w₁,hq,.pass (x:=.inLoop c) rfl (fun _ _=>.inl (by simp)) harr⟩
 | goto l=>exact ⟨_,a₁,w₁,hq,.pass (x:=.inLoop c) rfl (fun _ _=>.inl (by simp)) harr⟩
 | ret=>exact ⟨_,a₁,w₁,hq,.pass (x:=.inLoop c) rfl (fun _ _=>.inl (by simp)) harr⟩
 | panic ch=>exact ⟨_,a₁,w₁,hq,.pass (x:=.inLoop c) rfl (fun _ _=>.inl (by simp)) harr⟩
 | outgrown=>exact ⟨_,a₁,w₁,hq,.pass (x:=.inLoop c) rfl (fun _ _=>.inl (by simp)) harr⟩
def GoodE (B G n n0:Nat) (P:Program) (r x:Option Nat) (l m:Nat) (I:Inv) (ex:KF) (c:Code) : Prop :=
 ∀ (ρ0:Rn) (w0:World) (ρ:Rn) (fr:Fr) (ys:List Nat) (p:Option J) (H:Mem) (a:Act) (w:World),dstsOk n c=true→StE B G n n0 ρ0 w0 x l I ρ fr ys p H a w→ex fr ys p H≠.bad →
  c.wpIn (FR r) m P (PostE B G n n0 ρ0 w0 x l I (ex fr ys p H)) a w
def LoopE (B G n n0:Nat) (P:Program) (r x:Option Nat) (l:Nat) (I:Inv) (loopf:LFE) : Prop :=
 ∀ (b:Code) (ρ0:Rn) (w0:World) (ρ:Rn) (fr:Fr) (ys:List Nat) (p:Option J) (H:Mem) (a:Act) (w:World),dstsOk n b=true→StE B G n n0 ρ0 w0 x l I ρ fr ys p H a w→loopf b fr ys p H≠.bad →
  LWR r P b (PostE B G n n0 ρ0 w0 x l I (loopf b fr ys p H)) a w
theorem thenE_post {o:OutE} {k:KF} {K:Act→World→Prop} (hne:thenE o k≠.bad)
  (hk:∀ fr' ys' p' H' ρ' a' w',o=.norm fr' ys' p' H'→StE B G n n0 ρ0 w0 x l I ρ' fr' ys' p' H' a' w'→k fr' ys' p' H'≠.bad→K a' w') :
  ∀ e a' w',PostE B G n n0 ρ0 w0 x l I o e a' w'→Exit.then K (PostE B G n n0 ρ0 w0 x l I (thenE o k)) e a' w':=by
 intro e a' w' h
 cases o with
 | norm fr' ys' p' H'=>obtain ⟨rfl,ρ',s'⟩:=h; exact hk _ _ _ _ ρ' a' w' rfl s' hne
 | jump j fr' ys' p' H' =>
  have h0:=h
  obtain ⟨rfl,ρ',s'⟩:=h0
  cases j <;> exact h
 | bad=>exact absurd rfl hne
theorem good_loopE {callf:CallF} {yf:YF} {rf:RF} {loopf:LFE} {b:Code} (hl:LoopE B G n n0 P r x l I loopf) (hb:GoodE B G n n0 P r x l m I (execE P callf yf rf loopf b) b) (ρ0:Rn) (w0:World) (ρ:Rn) (fr:Fr) (ys:List Nat) (p:Option J) (H:Mem) (a:Act) (w:World)
  (hd:dstsOk n b=true) (s:StE B G n n0 ρ0 w0 x l I ρ fr ys p H a w) (hne:thenE (execE P callf yf rf loopf b fr ys p H) (loopf b)≠.bad) :
  LWR r P b (PostE B G n n0 ρ0 w0 x l I (thenE (execE P callf yf rf loopf b fr ys p H) (loopf b))) a w:=by
 have hr:execE P callf yf rf loopf b fr ys p H≠.bad:=fun h=>hne (by rw [h]; rfl)
 refine LWR.unroll (m:=m) (Code.wpIn_mono (thenE_post hne fun fr' ys' p' H' ρ' a' w' hr' s' hk=>?_) (hb ρ0 w0 ρ fr ys p H a w hd s hr))
 rw [hr']
 exact hl b ρ0 w0 ρ' fr' ys' p' H' a' w' hd s' hk
theorem execE_sound {callf:CallF} {yf:YF} {rf:RF} {loopf:LFE} (hcs:∀ B,CallOK B G P callf) (hG:G=P.globals.size) (hy:∀ m,YOK B G P r x l m I yf) (hI:InvOK I)
  (hrf:ROK B G n n0 P r x l m I rf) (hl:LoopE B G n n0 P r x l I loopf) : ∀ c:Code,GoodE B G n n0 P r x l m I (execE P callf yf rf loopf c) c:=by
 intro c
 induction c with
 | skip=>intro ρ0 w0 ρ fr ys p H a w hd s hne; exact wpIn_skip ⟨rfl,ρ,s⟩
 | region id ops draw =>
  intro ρ0 w0 ρ fr ys p H a w hd s hne
  cases draw with
  | false =>
   refine wpIn_region_list (opsE_sound (hcs B) hG hy hI hne ops.toList fr ys p H ρ a w ?_ s rfl)
   exact fun o ho=>List.all_eq_true.1 hd o ho
  | true=>exact drawE_sound hcs hG hI hd s hne
 | seq c1 c2 ih1 ih2 =>
  intro ρ0 w0 ρ fr ys p H a w hd s hne
  have he:execE P callf yf rf loopf (.seq c1 c2) fr ys p H=thenE (execE P callf yf rf loopf c1 fr ys p H) (execE P callf yf rf loopf c2):=rfl
  rw [he] at hne ⊢
  simp only [dstsOk,Bool.and_eq_true] at hd
  have hr:execE P callf yf rf loopf c1 fr ys p H≠.bad:=fun h=>hne (by rw [h]; rfl)
  refine wpIn_seq (Code.wpIn_mono (thenE_post hne fun fr' ys' p' H' ρ' a' w' hr' s' hk=>?_) (ih1 ρ0 w0 ρ fr ys p H a w hd.1 s hr))
  rw [hr']
  exact ih2 ρ0 w0 ρ' fr' ys' p' H' a' w' hd.2 s' hk
 | cond cnd c1 c2 ih1 ih2 =>
  intro ρ0 w0 ρ fr ys p H a w hd s hne
  simp only [dstsOk,Bool.and_eq_true] at hd
  have he:execE P callf yf rf loopf (.cond cnd c1 c2) fr ys p H=(match fr.ev cnd with
   | some (.lit (.bool true))=>execE P callf yf rf loopf c1 fr ys p H
   | some (.lit (.bool false))=>execE P callf yf rf loopf c2 fr ys p H
   | _=>.bad):=rfl
  rw [he] at hne ⊢
  split at hne
  ·rename_i hev
   exact wpIn_cond_true (s.ev _ _ hev) (ih1 ρ0 w0 ρ fr ys p H a w hd.1 s hne)
  ·rename_i hev
   exact wpIn_cond_false (s.ev _ _ hev) (ih2 ρ0 w0 ρ fr ys p H a w hd.2 s hne)
  ·exact absurd rfl hne
 | block id b ih =>
  intro ρ0 w0 ρ fr ys p H a w hd s hne
  have he:execE P callf yf rf loopf (.block id b) fr ys p H=blockE id (execE P callf yf rf loopf b fr ys p H):=rfl
  rw [he] at hne ⊢
  have hr:execE P callf yf rf loopf b fr ys p H≠.bad:=fun h=>hne (by rw [h]; rfl)
  refine wpIn_block (Code.wpIn_mono ?_ (ih ρ0 w0 ρ fr ys p H a w hd s hr))
  intro e a' w' h
  generalize execE P callf yf rf loopf b fr ys p H=o at h hne ⊢
  cases o with
  | norm fr' ys' p' H'=>obtain ⟨rfl,h'⟩:=h; exact ⟨rfl,h'⟩
  | jump j fr' ys' p' H' =>
   obtain ⟨rfl,ρ',s'⟩:=h
   cases j with
   | none=>exact ⟨rfl,ρ',s'⟩
   | some id2 =>
    unfold blockE
    dsimp only [jexit]
    split
    ·rename_i hb
     have:=Nat.eq_of_beq_eq_true hb
     subst this
     simp only [Exit.inBlock,if_true]
     exact ⟨rfl,ρ',s'⟩
    ·rename_i hb
     have hne2:id2≠id:=by intro h0; subst h0; simp at hb
     simp only [Exit.inBlock,hne2,if_false]
     exact ⟨rfl,ρ',s'⟩
  | bad=>exact absurd rfl hne
 | loop b ih =>
  intro ρ0 w0 ρ fr ys p H a w hd s hne
  exact (good_loopE hl ih ρ0 w0 ρ fr ys p H a w hd s hne).wp
 | rangeFunc g ps c1 c2 ih1 ih2 =>
  intro ρ0 w0 ρ fr ys p H a w hd s hne
  cases ys with
  | cons y ys=>exact absurd rfl hne
  | nil =>
   have he:execE P callf yf rf loopf (.rangeFunc g ps c1 c2) fr [] p H=(match rf g ps c1 c2 fr H with
    | .ok none H'=>.norm fr [] p H'
    | .ok (some j) H'=>.jump j fr [] p H'
    | .bad=>.bad):=rfl
   rw [he] at hne ⊢
   split at hne
   ·rename_i H' hrr; exact hrf _ _ _ _ _ _ _ _ hrr ρ0 w0 ρ p a w s
   ·rename_i j H' hrr; exact hrf _ _ _ _ _ _ _ _ hrr ρ0 w0 ρ p a w s
   ·exact absurd rfl hne
 | exit id=>intro ρ0 w0 ρ fr ys p H a w hd s hne; exact wpIn_exit ⟨rfl,ρ,s⟩
 | scope b ih=>intro ρ0 w0 ρ fr ys p H a w hd s hne; exact absurd rfl hne
 | label l=>intro ρ0 w0 ρ fr ys p H a w hd s hne; exact wpIn_label ⟨rfl,ρ,s⟩
 | goto l=>intro ρ0 w0 ρ fr ys p H a w hd s hne; exact absurd rfl hne
 | ret=>intro ρ0 w0 ρ fr ys p H a w hd s hne; exact wpIn_ret ⟨rfl,ρ,s⟩
 | refuse why=>intro ρ0 w0 ρ fr ys p H a w hd s hne; exact absurd rfl hne
theorem loopE_sound {callf:CallF} {yf:YF} {rf:RF} (hcs:∀ B,CallOK B G P callf) (hG:G=P.globals.size) (hy:∀ m,YOK B G P r x l m I yf) (hI:InvOK I)
  (hrf:∀ m,ROK B G n n0 P r x l m I rf) : ∀ k,LoopE B G n n0 P r x l I (loopE P callf yf rf k)
 | 0=>fun b ρ0 w0 ρ fr ys p H a w hd s hne=>absurd rfl hne
 | k+1=>fun b ρ0 w0 ρ fr ys p H a w hd s hne=>good_loopE (m:=0) (loopE_sound hcs hG hy hI hrf k) (execE_sound hcs hG hy hI (hrf 0) (loopE_sound hcs hG hy hI hrf k) b) ρ0 w0 ρ fr ys p H a w hd s hne
end Go.Ai
end
section
namespace Go.Ai
open Go.RowKit (Below)
variable {B G n n0 m l:Nat} {P:Program} {ρ0 ρ:Rn} {w0 w:World} {x r:Option Nat} {I:Inv} {fr fr0:Fr} {ys:List Nat} {p:Option J} {H:Mem} {a:Act} {callf:CallF} {fid D:Nat} {tm:Array Value} {ps:Array Tmp} {asg body:Code} {fuel:Nat}
theorem below_putObj {o:Obj} (hB:B≤l) : Below B w (w.putObj l o):=⟨rfl,rfl,rfl,by simp,fun k hk=>World.putObj_heap_other (by omega)⟩
theorem kx_putObj {o:Obj} : KX (some l) w (w.putObj l o):=⟨fun k ob hk ho hx=>by
 rw [World.putObj_heap_other (fun e=>hx (by rw [e]))]; exact hk,Nat.le_refl _⟩
theorem sim_putObj {o ob:Obj} (s:Sim B G ρ H w) (hl:w.heap[l]?=some ob) (ho:isMk ob=true) : Sim B G ρ H (w.putObj l o) :=
 s.mark hl ho (fun k hk=>World.putObj_heap_other hk) (by simp)
noncomputable def yBad:YF:=fun _ _=>.bad
noncomputable def rBad:RF:=fun _ _ _ _ _ _=>.bad
theorem yBad_ok (m:Nat) : YOK B G P r x l m I yBad:=fun _ _ _ _ _ h=>by cases h
theorem rBad_ok (m:Nat) : ROK B G n n0 P r x l m I rBad:=fun _ _ _ _ _ _ _ _ h=>by cases h
noncomputable def putPs:List Tmp→List AV→Fr→Fr
 | t :: ts,v :: vs,fr=>putPs ts vs (fr.upd t v)
 | _,_,fr=>fr
theorem putPs_ok:∀ {ps:List Tmp} {vs:List AV} {us:List Value} {fr:Fr} {tm:Array Value},(∀ t∈ps,t < n)→VRs ρ vs us→FRel n ρ fr { tmps:=tm,defers:=[] } →
  FRel n ρ (putPs ps vs fr) { tmps:=(ps.zip us).foldl (fun tmps (t,a)=>tmps.setIfInBounds t a) tm,defers:=[] }
 | [],vs,us,fr,tm,_,_,h=>by simpa [putPs] using h
 | t :: ts,[],us,fr,tm,_,hv,h=>by cases hv; simpa [putPs] using h
 | t :: ts,v :: vs,us,fr,tm,ht,hv,h=>by
  obtain ⟨u,us',rfl,h1,h2⟩:=hv
  have:=FRel.put (d:=some t) h (fun j hj=>by cases hj; exact ht t (by simp)) h1
  exact putPs_ok (ps:=ts) (vs:=vs) (us:=us') (fr:=fr.upd t v) (tm:=tm.setIfInBounds t u) (fun j hj=>ht j (by simp [hj])) h2 this
def recL (fid:FuncId) (tm:Array Value) (ps:Array Tmp) (asg body:Code) (D:Nat) (st:LoopState) (pd:Option Code) : Loop:={ state:=st,pending:=pd,fn:=fid,tmps:=tm,params:=ps,assign:=asg,body:=body,defers:=D }
def IR (fid:FuncId) (tm:Array Value) (ps:Array Tmp) (asg body:Code) (D l:Nat) (st:LoopState) : Inv:=fun _ _ ds w=>ds=[]∧w.heap[l]?=some (.loop (recL fid tm ps asg body D st none))
def stOf (p:Option J) : LoopState:=match p with | none=>.ready | some _=>.done
def II (n:Nat) (fr0:Fr) (fid:FuncId) (tm:Array Value) (ps:Array Tmp) (asg body:Code) (D l:Nat) : Inv:=fun ρ p ds w=>ds=[]∧FRel n ρ fr0 { tmps:=tm,defers:=[] }∧w.heap[l]?=some (.loop (recL fid tm ps asg body D (stOf p) (p.map jcode)))
theorem IR_ok {st:LoopState} : InvOK (IR fid tm ps asg body D l st):=fun _ _ _ _ _ _ h hk _ _=>⟨h.1,hk.1 _ _ h.2 rfl⟩
theorem II_ok:InvOK (II n fr0 fid tm ps asg body D l):=fun _ _ _ _ _ _ h hk _ hs=>⟨h.1,h.2.1.mono hs,hk.1 _ _ h.2.2 rfl⟩
noncomputable def yfR (P:Program) (callf:CallF) (fuel:Nat) (ps:Array Tmp) (asg body:Code) (fr0:Fr) : YF:=fun vs H=>match Nat.beq vs.length ps.size with
 | true=>(match execE P callf yBad rBad (loopE P callf yBad rBad fuel) asg (putPs ps.toList vs fr0) [] none H with
  | .norm fr1 ys1 p1 H1=>(match execE P callf yBad rBad (loopE P callf yBad rBad fuel) body fr1 ys1 p1 H1 with
   | .norm _ _ _ H2=>.ok true none H2
   | .jump j _ _ _ H2=>.ok false (some j) H2
   | .bad=>.bad)
  | _=>.bad)
 | false=>.bad
theorem subOf {ρ' : Rn} (s:Sim B G ρ H w) (h:∀ a,a < H.next→ρ' a=ρ a) : Sub ρ ρ':=by
 intro a y hy
 rw [h a ?_]; · exact hy
 rcases Nat.lt_or_ge a H.next with k | k
 ·exact k
 ·rw [s.fresh a k] at hy; cases hy
theorem yfR_ok (hcs:∀ B,CallOK B G P callf) (hG:G=P.globals.size) (hB:B≤l) (hps:∀ t∈ps.toList,t < n) (hda:dstsOk n asg=true) (hdb:dstsOk n body=true) (m:Nat) :
  YOK B G P none (some l) l m (II n fr0 fid tm ps asg body D l) (yfR P callf fuel ps asg body fr0):=by
 intro vs H b p' H' hyf ρ us ds w hs hv hI
 obtain ⟨rfl,hfr,hl⟩:=hI
 unfold yfR at hyf
 split at hyf
 ·rename_i hlen
  have hlen':=Nat.eq_of_beq_eq_true hlen
  have hsz:us.size=ps.size:=by have:=hv.length; simp at this; omega
  refine ⟨fid,_,asg,body,run_yield hl hsz,roundIn_of_wpIn trivial ?_⟩
  generalize htm:((recL fid tm ps asg body D (stOf none) (Option.map jcode none)).params.zip us).foldl (fun tmps (t,a)=>tmps.setIfInBounds t a) (recL fid tm ps asg body D (stOf none) (Option.map jcode none)).tmps=tm1
  have hfr1:FRel n ρ (putPs ps.toList vs fr0) { tmps:=tm1,defers:=[] }:=by
   have:=putPs_ok hps hv hfr
   rw [← htm]
   show FRel n ρ (putPs ps.toList vs fr0) { tmps:=(ps.zip us).foldl (fun tmps (t,a)=>tmps.setIfInBounds t a) tm,defers:=[] }
   rw [← Array.foldl_toList,Array.toList_zip]
   exact this
  have s0:StE B G n H.next ρ w none 0 (IR fid tm ps asg body D l .ready) ρ (putPs ps.toList vs fr0) [] none H { tmps:=tm1,defers:=[] } w :=
   ⟨fun _ _=>rfl,KX.refl _ _,Below.refl _ _,hs,hfr1,Nat.le_refl _,⟨rfl,hl⟩,by simp⟩
  split at hyf
  ·rename_i fr1 ys1 p1 H1 he1
   have key:asg.wpIn (FR (some l)) m P _ _ _:=execE_sound (r:=some l) (m:=m) hcs hG yBad_ok IR_ok (rBad_ok m) (loopE_sound hcs hG yBad_ok IR_ok rBad_ok fuel) asg ρ w ρ _ [] none H _ w hda s0 (by rw [he1]; simp)
   rw [he1] at key
   refine Code.wpIn_mono ?_ key
   rintro e a1 w1 ⟨rfl,ρ1,s1⟩
   obtain ⟨hds1,hl1⟩:=s1.inv
   refine ⟨_,run_beginRound hl1 rfl,?_⟩
   have hl2:(w1.putObj l (.loop { recL fid tm ps asg body D .ready none with state:=.busy })).heap[l]?=some (.loop (recL fid tm ps asg body D .busy none)):=World.putObj_heap_same (Array.getElem?_eq_some_iff.1 hl1).1
   generalize hw2:w1.putObj l (.loop { recL fid tm ps asg body D .ready none with state:=.busy })=w2 at hl2 ⊢
   have s2:StE B G n H1.next ρ1 w2 none 0 (IR fid tm ps asg body D l .busy) ρ1 fr1 ys1 p1 H1 a1 w2 :=
    ⟨fun _ _=>rfl,KX.refl _ _,Below.refl _ _,by rw [← hw2]; exact sim_putObj s1.sim hl1 rfl,s1.frel,Nat.le_refl _,⟨hds1,hl2⟩,s1.ysl⟩
   have fin:∀ {H2:Mem} {ρ2:Rn} {fr2:Fr} {ys2:List Nat} {q:Option J} {a2:Act} {w3:World} (j:Option J),StE B G n H1.next ρ1 w2 none 0 (IR fid tm ps asg body D l .busy) ρ2 fr2 ys2 q H2 a2 w3 →
     ∃ v w4,(Instr.endRound l (j.map jcode)).run P w3=.ok v w4∧(Ending.returned v=.returned (.bool j.isNone)∧∃ ρ',(∀ a,a < H.next→ρ' a=ρ a)∧KX (some l) w w4∧Below B w w4∧Sim B G ρ' H2 w4∧H.next≤H2.next∧II n fr0 fid tm ps asg body D l ρ' j [] w4):=by
    intro H2 ρ2 fr2 ys2 q a2 w3 j s3
    obtain ⟨_,hl3⟩:=s3.inv
    have hne:((j.map jcode).isNone)=j.isNone:=by cases j <;> rfl
    refine ⟨_,_,run_endRound _ hl3,by rw [hne],ρ2,fun b hb=>?_,?_,?_,sim_putObj s3.sim hl3 rfl,Nat.le_trans s1.le s3.le,rfl,?_,?_⟩
    ·exact (s3.same b (Nat.lt_of_lt_of_le hb s1.le)).trans (s1.same b hb)
    ·have k1:KX (some l) w w1:=⟨fun k o hk ho hx=>s1.keeps.1 k o hk ho (by simp),s1.keeps.2⟩
     have k2:KX (some l) w1 w2:=by rw [← hw2]; exact kx_putObj
     have k3:KX (some l) w2 w3:=⟨fun k o hk ho hx=>s3.keeps.1 k o hk ho (by simp),s3.keeps.2⟩
     exact ((k1.trans k2).trans k3).trans kx_putObj
    ·have k2:Below B w1 w2:=by rw [← hw2]; exact below_putObj hB
     exact ((s1.below.trans k2).trans s3.below).trans (below_putObj hB)
    ·exact hfr.mono (subOf hs fun b hb=>(s3.same b (Nat.lt_of_lt_of_le hb s1.le)).trans (s1.same b hb))
    ·rw [World.putObj_heap_same (Array.getElem?_eq_some_iff.1 hl3).1]
     cases j <;> rfl
   split at hyf
   ·rename_i fr2 ys2 p2 H2 he2
    cases hyf
    have key2:body.wpIn (FR (some l)) m P _ _ _:=execE_sound (r:=some l) (m:=m) hcs hG yBad_ok IR_ok (rBad_ok m) (loopE_sound hcs hG yBad_ok IR_ok rBad_ok fuel) body ρ1 w2 ρ1 _ _ _ H1 _ w2 hdb s2 (by rw [he2]; simp)
    rw [he2] at key2
    refine Code.wpIn_mono ?_ key2
    rintro e a2 w3 ⟨rfl,ρ2,s3⟩
    exact fin none s3
   ·rename_i j fr2 ys2 p2 H2 he2
    cases hyf
    have key2:body.wpIn (FR (some l)) m P _ _ _:=execE_sound (r:=some l) (m:=m) hcs hG yBad_ok IR_ok (rBad_ok m) (loopE_sound hcs hG yBad_ok IR_ok rBad_ok fuel) body ρ1 w2 ρ1 _ _ _ H1 _ w2 hdb s2 (by rw [he2]; simp)
    rw [he2] at key2
    refine Code.wpIn_mono ?_ key2
    rintro e a2 w3 ⟨rfl,ρ2,s3⟩
    cases j with
    | none=>exact fin (some none) s3
    | some id=>exact fin (some (some id)) s3
   ·cases hyf
  ·cases hyf
 ·cases hyf
end Go.Ai
end
section
namespace Go.Ai
open Go.RowKit (Below)
variable {B G n n0 m l l1 lo:Nat} {P:Program} {ρ0 ρ:Rn} {w0 w:World} {x r:Option Nat} {I:Inv} {fr fr0:Fr} {ys:List Nat} {p:Option J} {H:Mem} {a:Act} {callf:CallF} {fid D:Nat} {tm:Array Value} {ps:Array Tmp} {asg body:Code} {fuel:Nat}
noncomputable def itEnd (P:Program) (it:Func) (r:OutE) : ROut:=match r with
 | .norm fr _ p H=>(match resultsA P it fr H with | some _=>.ok p H | none=>.bad)
 | .jump none fr _ p H=>(match resultsA P it fr H with | some _=>.ok p H | none=>.bad)
 | _=>.bad
noncomputable def itE (P:Program) (callf:CallF) (fuel:Nat) (yf:YF) (f:FuncId) (cap:List AV) (H:Mem) : ROut:=match P.funcs[f]? with
 | some it=>(match it.body,hasBody P f with
  | some c,true=>(match dstsOk it.ntmps c,Nat.ble (len cap+1) it.ntmps with
   | true,true=>itEnd P it (execE P callf yf rBad (loopE P callf yf rBad fuel) c (putArgs cap (frame0 it.ntmps) 1) [0] none H)
   | _,_=>.bad)
  | _,_=>.bad)
 | none=>.bad
noncomputable def rfR (P:Program) (callf:CallF) (fuel n:Nat) : RF:=fun g ps asg body fr H=>match ps.toList.all (fun t=>Nat.blt t n),dstsOk n asg && dstsOk n body,fr.ev g with
 | true,true,some (.func (.func f) [] cap)=>itE P callf fuel (yfR P callf fuel ps asg body fr) f cap H
 | _,_,_=>.bad
def MKs (lo:Nat) : List Deferred→World→Prop
 | [],_=>True
 | d :: ds,w=>∃ D,d.target=.collected D∧lo≤D∧w.heap[D]?=some (.deferred (some []))∧(∀ d'∈ds,d'.target≠.collected D)∧MKs lo ds w
theorem MKs.keep {w w' : World} (hk:∀ D:Nat,w.heap[D]?=some (Obj.deferred (some []))→w'.heap[D]?=some (Obj.deferred (some []))) : ∀ {ds:List Deferred},MKs lo ds w→MKs lo ds w'
 | [],_=>trivial
 | _ :: _,⟨D,h1,h2,h3,h4,h5⟩=>⟨D,h1,h2,hk D h3,h4,MKs.keep hk h5⟩
theorem MKs.keepBut {w w' : World} {E:Nat} (hk:∀ D,D≠E→w'.heap[D]?=w.heap[D]?) : ∀ {ds:List Deferred},(∀ d'∈ds,d'.target≠.collected E)→MKs lo ds w→MKs lo ds w'
 | [],_,_=>trivial
 | d :: _,hE,⟨D,h1,h2,h3,h4,h5⟩=>⟨D,h1,h2,by rw [hk D (fun e=>hE d (by simp) (by rw [h1,e]))]; exact h3,h4,MKs.keepBut hk (fun d' h=>hE d' (by simp [h])) h5⟩
theorem MKs.lt {w:World} : ∀ {ds:List Deferred},MKs lo ds w→∀ d'∈ds,d'.target≠.collected w.heap.size
 | d :: ds,⟨D,h1,h2,h3,h4,h5⟩,d',hd=>by
  rcases List.mem_cons.1 hd with rfl | hd
  ·rw [h1]
   intro e
   cases e
   have:=(Array.getElem?_eq_some_iff.1 h3).1
   omega
  ·exact MKs.lt h5 d' hd
def IO (lo:Nat) : Inv:=fun _ p ds w=>p=none∧lo≤w.heap.size∧MKs lo ds w
theorem IO_ok:InvOK (IO lo):=fun _ _ _ _ _ _ h hk hz _=>⟨h.1,Nat.le_trans h.2.1 hz,h.2.2.keep fun D hD=>hk.1 D _ hD rfl⟩
theorem frame_it {cap:List AV} {cs:Array Value} {yv:Value} (hv:VRs ρ cap cs.toList) (hle:cap.length+1≤n) :
  FRel n ρ (putArgs cap (frame0 n) 1) { tmps:=#[yv]++cs++Array.replicate (n - (#[yv]++cs).size) undef,defers:=[] } ∧
  (∀ t,t∈[0]→t < n∧(putArgs cap (frame0 n) 1).get t=none∧(#[yv]++cs++Array.replicate (n - (#[yv]++cs).size) undef).getD t undef=yv):=by
 have hsz:cs.size=cap.length:=by have:=hv.length; simpa using this
 have hget:∀ t v,(putArgs cap (frame0 n) 1).get t=some v→1≤t∧cap[t - 1]?=some v:=by
  intro t v h
  rcases putArgs_get _ _ _ _ _ h with h1 | h1
  ·exact h1
  ·rw [get_frame0] at h1; cases h1
 refine ⟨⟨?_,?_,by simp; omega,?_⟩,?_⟩
 ·intro t v h _
  obtain ⟨h1,h2⟩:=hget t v h
  obtain ⟨u,hu,hvu⟩:=hv.get (t - 1) h2
  have hlt:t - 1 < cs.size:=by have:=(List.getElem?_eq_some_iff.1 hu).1; simpa using this
  rw [Array.getD_eq_getD_getElem?,Array.getElem?_append_left (by simp; omega),Array.getElem?_append_right (by simp; omega)]
  have:cs[t - 1]?=some u:=by simpa using hu
  simp only [List.size_toArray,List.length_singleton]
  rw [this]; exact hvu
 ·rw [putArgs_defers,defers_frame0]; rfl
 ·intro t v h
  obtain ⟨h1,h2⟩:=hget t v h
  have:=(List.getElem?_eq_some_iff.1 h2).1
  omega
 ·intro t ht
  have:t=0:=by simpa using ht
  subst this
  refine ⟨by omega,?_,?_⟩
  ·cases hg:(putArgs cap (frame0 n) 1).get 0 with
   | none=>rfl
   | some v=>have:=(hget 0 v hg).1; omega
  ·rw [Array.getD_eq_getD_getElem?,Array.getElem?_append_left (by simp; omega),Array.getElem?_append_left (by simp)]
   rfl
theorem rfR_ok (hcs:∀ B,CallOK B G P callf) (hG:G=P.globals.size) (m:Nat) : ROK B G n n0 P none none l1 m (IO lo) (rfR P callf fuel n):=by
 intro g ps asg body fr H j H' hrf ρ0 w0 ρ p a w s
 unfold rfR at hrf
 split at hrf
 ·rename_i f cap hps hds hev
  simp only [Bool.and_eq_true] at hds
  have hps' : ∀ t∈ps.toList,t < n:=fun t ht=>Nat.le_of_ble_eq_true (List.all_eq_true.1 hps t ht)
  obtain ⟨f',c',hu,h1,h2⟩:=s.ev _ _ hev
  have hf' : f'=#[]:=by cases f'; simp [VRs] at h1; simp [h1]
  subst hf'
  unfold itE at hrf
  split at hrf
  ·rename_i it hit
   split at hrf
   ·rename_i c hbd hbody
    split at hrf
    ·rename_i hdst hlen
     have hlen' : cap.length+1≤it.ntmps:=by rw [← len_eq]; exact Nat.le_of_ble_eq_true hlen
     refine wpIn_rangeFunc fun fn _=>?_
     have hen:=run_enterLoop_outer (P:=P) (w:=w) fn a.tmps ps asg body
     have hal:=World.alloc_heap_new (w.alloc (.deferred (some []))) (.loop { state:=.ready,pending:=none,fn:=fn,tmps:=a.tmps,params:=ps,assign:=asg,body:=body,defers:=w.heap.size })
     rw [World.size_alloc] at hal
     generalize hl0:w.heap.size+1=l at hen hal
     generalize hw1:(w.alloc (.deferred (some []))).alloc (.loop { state:=.ready,pending:=none,fn:=fn,tmps:=a.tmps,params:=ps,assign:=asg,body:=body,defers:=w.heap.size })=w1 at hen hal
     refine ⟨l,_,w1,{ target:=.fn (.func f) c',args:=#[.func (.yield l) #[] #[]] },w1,f,#[.func (.yield l) #[] #[]]++c',w1,hen,?_,fun _ _=>trivial,?_,fun h=>(by cases h),?_⟩
     ·have hcst:∀ v:Value,a.eval (.const v)=v:=fun _=>rfl
      simp [resolve,hu,Deferred.ofValue,hcst]
     ·exact hasBody_run hbody _ _
     ·
      have hsz1:w1.heap.size=w.heap.size+2:=by rw [← hw1]; simp
      have hdrw:w.drawn≤w1.drawn:=by rw [← hw1]; exact Nat.le_refl _
      have hold:∀ k,k < w.heap.size→w1.heap[k]?=w.heap[k]?:=by
       intro k hk
       rw [← hw1,Below.heap_alloc _ _ _ (by simp; omega),Below.heap_alloc _ _ _ hk]
      have hD:w1.heap[w.heap.size]?=some (.deferred (some [])):=by
       rw [← hw1,Below.heap_alloc _ _ _ (by simp),World.alloc_heap_new]
      have hl:w1.heap[l]?=some (.loop (recL fn a.tmps ps asg body w.heap.size .ready none)):=hal
      have hbw:Below B w w1:=by
       rw [← hw1]
       exact ((Below.refl B w).alloc s.sim.base _).alloc (by simp; have:=s.sim.base; omega) _
      have hsim1:Sim B G ρ H w1:=s.sim.other (by omega) fun a x b o k hx hr=>hold b (by
       rcases s.sim.blk a x hx with h | ⟨b',o',k',h,hb⟩
       ·rw [hr] at h; cases h
       ·rw [hr] at h; cases h; exact hb.lt)
      obtain ⟨hf1,hf2⟩:=frame_it (yv:=.func (.yield l) #[] #[]) h2 hlen'
      have hB:B≤l:=by have:=s.sim.base; omega
      have s1:StE B G it.ntmps H.next ρ w1 (some l) l (II n fr fn a.tmps ps asg body w.heap.size l) ρ (putArgs cap (frame0 it.ntmps) 1) [0] none H { tmps:=#[Value.func (.yield l) #[] #[]]++c'++Array.replicate (it.ntmps - (#[Value.func (.yield l) #[] #[]]++c').size) undef,defers:=[] } w1 :=
       ⟨fun _ _=>rfl,KX.refl _ _,Below.refl _ _,hsim1,hf1,Nat.le_refl _,⟨rfl,s.frel,hl⟩,hf2⟩
      have hne:execE P callf (yfR P callf fuel ps asg body fr) rBad (loopE P callf (yfR P callf fuel ps asg body fr) rBad fuel) c (putArgs cap (frame0 it.ntmps) 1) [0] none H≠.bad:=fun e=>by rw [e] at hrf; cases hrf
      have key:=execE_sound (r:=none) (x:=some l) (l:=l) (m:=m - 1) (I:=II n fr fn a.tmps ps asg body w.heap.size l) hcs hG (yfR_ok hcs hG hB hps' hds.1 hds.2) II_ok (rBad_ok _) (loopE_sound hcs hG (yfR_ok hcs hG hB hps' hds.1 hds.2) II_ok rBad_ok fuel) c ρ w1 ρ _ [0] none H _ w1 hdst s1 hne
      have fin:∀ {fr2:Fr} {ys2:List Nat} {p2:Option J} {H2:Mem} {ρ2:Rn} {a2:Act} {w3:World},StE B G it.ntmps H.next ρ w1 (some l) l (II n fr fn a.tmps ps asg body w.heap.size l) ρ2 fr2 ys2 p2 H2 a2 w3 →
        (match resultsA P it fr2 H2 with | some _=>ROut.ok p2 H2 | none=>.bad)=.ok j H'→a2.defers=[]∧∃ v,(results it a2.tmps).run P w3=.ok v w3 ∧
         rangePost (FR none) m P l (PostE B G n n0 ρ0 w0 none l1 (IO lo) (rOut j fr p H')) { a with defers:=[{ target:=.collected w.heap.size,args:=#[] }]++a.defers } (.returned v) w3:=by
       intro fr2 ys2 p2 H2 ρ2 a2 w3 s3 hres
       split at hres
       ·rename_i v hv
        cases hres
        obtain ⟨hd3,hfr3,hl3⟩:=s3.inv
        obtain ⟨u,hu1,hu2⟩:=results_sound s3.st hG hv
        refine ⟨hd3,u,hu1,_,_,run_endLoop hl3 (by cases j <;> simp [recL,stOf]),?_⟩
        have hkd:KD w (w3.putObj l (.loop { recL fn a.tmps ps asg body w.heap.size (stOf j) (j.map jcode) with state:=.exhausted })):=by
         refine ⟨fun k o hk ho=>?_,Nat.le_trans hdrw s3.keeps.2⟩
         have hlt:=(Array.getElem?_eq_some_iff.1 hk).1
         rw [World.putObj_heap_other (by omega)]
         exact s3.keeps.1 k o (by rw [hold k hlt]; exact hk) ho (by intro e; cases e; omega)
        have hsame:∀ a,a < H.next→ρ2 a=ρ a:=s3.same
        have s4:StE B G n n0 ρ0 w0 none l1 (IO lo) ρ2 fr [] p H' { a with defers:=[{ target:=.collected w.heap.size,args:=#[] }]++a.defers } (w3.putObj l (.loop { recL fn a.tmps ps asg body w.heap.size (stOf j) (j.map jcode) with state:=.exhausted })):=by
         refine ⟨fun b hb=>(hsame b (Nat.lt_of_lt_of_le hb s.le)).trans (s.same b hb),s.keeps.trans hkd.kx,((s.below.trans hbw).trans s3.below).trans (below_putObj hB),sim_putObj s3.sim hl3 rfl,s.frel.mono (subOf s.sim hsame),Nat.le_trans s.le s3.le,?_,by simp⟩
         obtain ⟨i1,i2,i3⟩:=s.inv
         have hz3:=s3.below.size
         refine ⟨i1,by simp; omega,w.heap.size,rfl,i2,?_,i3.lt,i3.keep fun D hD=>hkd.1 D _ hD rfl⟩
         rw [World.putObj_heap_other (by omega)]
         exact s3.keeps.1 _ _ hD rfl (by intro e; cases e; omega)
        cases j with
        | none=>exact ⟨rfl,ρ2,s4⟩
        | some j =>
         cases j with
         | none=>exact wpIn_ret ⟨rfl,ρ2,s4⟩
         | some id=>exact wpIn_exit ⟨rfl,ρ2,s4⟩
       ·cases hres
      refine callsIn_of_wp hit hbd trivial (Code.wpIn_mono ?_ key)
      intro e a2 w3 h
      generalize execE P callf (yfR P callf fuel ps asg body fr) rBad (loopE P callf (yfR P callf fuel ps asg body fr) rBad fuel) c (putArgs cap (frame0 it.ntmps) 1) [0] none H=o at h hrf
      cases o with
      | norm fr2 ys2 p2 H2=>obtain ⟨rfl,ρ2,s3⟩:=h; exact fin s3 hrf
      | jump jj fr2 ys2 p2 H2 =>
       cases jj with
       | none=>obtain ⟨rfl,ρ2,s3⟩:=h; exact fin s3 hrf
       | some id=>cases hrf
      | bad=>cases hrf
    ·cases hrf
   ·cases hrf
  ·cases hrf
 ·cases hrf
end Go.Ai
end
section
namespace Go.Ai
open Go.RowKit (Below)
variable {B G n n0 m l l1 lo:Nat} {P:Program} {ρ0 ρ:Rn} {w0 w wb:World} {x r:Option Nat} {I:Inv} {fr fr0:Fr} {ys:List Nat} {p:Option J} {H:Mem} {a:Act} {callf:CallF} {fuel:Nat}
theorem leaves_marks {fn:Func} {tmps:Array Value} {R:Ending→World→Prop} (hB:B≤lo) (hlo:wb.heap.size≤lo)
  (hR:∀ w',Sim B G ρ H w'→KD wb w'→Below B wb w'→∃ v,(results fn tmps).run P w'=.ok v w'∧R (.returned v) w') :
  ∀ (ds:List Deferred) (w:World),MKs lo ds w→Sim B G ρ H w→KD wb w→Below B wb w→LeavesInM (FR none) m P fn tmps R ds .returning w
 | [],w,_,h1,h2,h3=>hR w h1 h2 h3
 | d :: ds,w,⟨D,k1,k2,k3,k4,k5⟩,h1,h2,h3=>by
  refine ⟨by simp,.inl ⟨D,_,k1,run_takeDeferred k3,leaves_marks hB hlo hR ds _ (k5.keepBut (fun E hE=>World.putObj_heap_other hE) k4) (sim_putObj h1 k3 rfl) ?_ (h3.trans (below_putObj (Nat.le_trans hB k2)))⟩⟩
  refine ⟨fun k o hk ho=>?_,h2.2⟩
  have:=(Array.getElem?_eq_some_iff.1 hk).1
  rw [World.putObj_heap_other (by omega)]
  exact h2.1 k o hk ho
noncomputable def endE (P:Program) (fn:Func) (r:OutE) : COut:=match r with
 | .norm fr _ _ H=>(match resultsA P fn fr H with | some v=>.ret v H | none=>.bad)
 | .jump none fr _ _ H=>(match resultsA P fn fr H with | some v=>.ret v H | none=>.bad)
 | _=>.bad
noncomputable def enterEB (P:Program) (callf:CallF) (fuel:Nat) (fn:Func) (c:Code) (args:List AV) (H:Mem) : COut:=match dstsOk fn.ntmps c,Nat.ble (len args) fn.ntmps with
 | true,true=>endE P fn (putArgsK args (frame0 fn.ntmps) fun fr=>execE P callf yBad (rfR P callf fuel fn.ntmps) (loopE P callf yBad (rfR P callf fuel fn.ntmps) fuel) c fr [] none H)
 | _,_=>.bad
noncomputable def enterE (P:Program) (callf:CallF) (fuel:Nat) (f:FuncId) (args:List AV) (H:Mem) : COut:=match P.funcs[f]? with
 | some fn=>(match fn.body with
  | some c=>enterEB P callf fuel fn c args H
  | none=>.bad)
 | none=>.bad
theorem enterE_sound (hcs:∀ B,CallOK B G P callf) (hG:G=P.globals.size) : CallOK B G P (enterE P callf fuel):=by
 intro f args H hne ρ us w hs hv
 unfold enterE at hne ⊢
 split at hne
 ·rename_i fn hfn
  split at hne
  ·rename_i c hb
   unfold enterEB at hne ⊢
   split at hne
   ·rename_i hdst hlen
    rw [putArgsK_eq] at hne ⊢
    have hfe:=frame_entered (n:=fn.ntmps) hv (by rw [← len_eq]; exact Nat.le_of_ble_eq_true hlen)
    have s1:StE B G fn.ntmps H.next ρ w none 0 (IO w.heap.size) ρ (putArgs args (frame0 fn.ntmps) 0) [] none H { tmps:=us++Array.replicate (fn.ntmps - us.size) undef,defers:=[] } w :=
     ⟨fun _ _=>rfl,KX.refl _ _,Below.refl _ _,hs,hfe,Nat.le_refl _,⟨rfl,Nat.le_refl _,trivial⟩,by simp⟩
    have hr:execE P callf yBad (rfR P callf fuel fn.ntmps) (loopE P callf yBad (rfR P callf fuel fn.ntmps) fuel) c (putArgs args (frame0 fn.ntmps) 0) [] none H≠.bad:=fun h0=>hne (by rw [h0]; rfl)
    have key:=execE_sound (r:=none) (x:=none) (l:=0) (m:=0) (I:=IO w.heap.size) hcs hG yBad_ok IO_ok (rfR_ok hcs hG 0) (loopE_sound hcs hG yBad_ok IO_ok (rfR_ok hcs hG) fuel) c ρ w ρ _ [] none H _ w hdst s1 hr
    refine callsOfFR (r:=none) (m:=0) (callsIn_of_wp_marks hfn hb trivial (Code.wpIn_mono ?_ key))
    intro e a' w' h
    generalize execE P callf yBad (rfR P callf fuel fn.ntmps) (loopE P callf yBad (rfR P callf fuel fn.ntmps) fuel) c (putArgs args (frame0 fn.ntmps) 0) [] none H=o at h hne ⊢
    have fin:∀ {fr2:Fr} {ys2:List Nat} {p2:Option J} {H2:Mem} {ρ2:Rn},StE B G fn.ntmps H.next ρ w none 0 (IO w.heap.size) ρ2 fr2 ys2 p2 H2 a' w' →
      (match resultsA P fn fr2 H2 with | some v=>COut.ret v H2 | none=>.bad)≠.bad→LeavesInM (FR none) 0 P fn a'.tmps (CPost B G H.next ρ w (match resultsA P fn fr2 H2 with | some v=>COut.ret v H2 | none=>.bad)) a'.defers .returning w':=by
     intro fr2 ys2 p2 H2 ρ2 s2 hn
     split at hn
     ·rename_i v hv2
      obtain ⟨_,_,i3⟩:=s2.inv
      refine leaves_marks (wb:=w) (lo:=w.heap.size) (ρ:=ρ2) (H:=H2) hs.base (Nat.le_refl _) (fun w4 g1 g2 g3=>?_) a'.defers w' i3 s2.sim s2.keeps.kd s2.below
      obtain ⟨u,hu1,hu2⟩:=results_sound (⟨Ext.refl _ _ _ _,g1,s2.frel,Nat.le_refl _⟩ : St B G fn.ntmps H2.next ρ2 w4 ρ2 fr2 H2 (Act.bare a') w4) hG hv2
      exact ⟨u,hu1,ρ2,⟨s2.same,g2,g3⟩,g1,hu2,s2.le⟩
     ·exact absurd rfl hn
    cases o with
    | norm fr2 ys2 p2 H2=>obtain ⟨rfl,ρ2,s2⟩:=h; exact fin s2 hne
    | jump jj fr2 ys2 p2 H2 =>
     cases jj with
     | none=>obtain ⟨rfl,ρ2,s2⟩:=h; exact fin s2 hne
     | some id=>exact absurd rfl hne
    | bad=>exact absurd rfl hne
   ·exact absurd rfl hne
  ·exact absurd rfl hne
 ·exact absurd rfl hne
def hasRange:Code→Bool
 | .seq a b=>hasRange a || hasRange b
 | .cond _ a b=>hasRange a || hasRange b
 | .block _ b=>hasRange b
 | .loop b=>hasRange b
 | .scope b=>hasRange b
 | .rangeFunc _ _ _ _=>true
 | _=>false
noncomputable def enterG (P:Program) (use:FuncId→Code→Bool) (callf:CallF) (loopf:LoopF) (fuel:Nat) (f:FuncId) (args:List AV) (H:Mem) : COut:=match P.funcs[f]? with
 | some fn=>(match fn.body with
  | some c=>(match use f c with
   | true=>enterE P callf fuel f args H
   | false=>enterQ P callf loopf f args H)
  | none=>.bad)
 | none=>.bad
theorem enterG_sound {use:FuncId→Code→Bool} {callf:CallF} {loopf:LoopF} (hcs:∀ B,CallOK B G P callf) (hl:LoopOK B G P loopf) (hG:G=P.globals.size) : CallOK B G P (enterG P use callf loopf fuel):=by
 intro f args H hne
 unfold enterG at hne ⊢
 split at hne
 ·split at hne
  ·split at hne
   ·exact enterE_sound hcs hG f args H hne
   ·exact enterQ_sound hcs hl hG f args H hne
  ·exact absurd rfl hne
 ·exact absurd rfl hne
noncomputable def bothG (P:Program) (use:FuncId→Code→Bool) (O:CallF) (n:Nat) : CallF×LoopF :=
 Nat.rec (motive:=fun _=>CallF×LoopF) (fun _ _ _=>.bad,fun _ _ _=>.bad) (fun k ih=>(orC O (enterG P use ih.1 ih.2 k),execF P ih.1 ih.2)) n
noncomputable def callB (P:Program) (bl:List Nat) (O:CallF) (n:Nat) : CallF:=(bothG P (fun f c=>match elemN f bl with | true=>true | false=>hasRange c) O n).1
theorem bothG_sound {use:FuncId→Code→Bool} {O:CallF} (hO:∀ B,CallOK B G P O) (hG:G=P.globals.size) : ∀ n,(∀ B,CallOK B G P (bothG P use O n).1)∧∀ B,LoopOK B G P (bothG P use O n).2
 | 0=>⟨fun B f args H hne=>absurd rfl hne,fun B b n n0 ρ0 w0 ρ fr H a w hd s hne=>absurd rfl hne⟩
 | m+1=>by
  obtain ⟨hc,hl⟩:=bothG_sound hO hG m
  refine ⟨fun B=>orC_ok (hO B) (enterG_sound hc (hl B) hG),fun B b n n0 ρ0 w0 ρ fr H a w hd s hne=>?_⟩
  exact good_loopF (hl B) (execF_sound hc (hl B) hG b) n n0 ρ0 w0 ρ fr H a w hd s hne
theorem callB_ok {bl:List Nat} {O:CallF} (hO:∀ B,CallOK B G P O) (hG:G=P.globals.size) (fuel:Nat) : ∀ B,CallOK B G P (callB P bl O fuel):=(bothG_sound hO hG fuel).1
end Go.Ai
end
section
namespace Go.Ai
section
variable {P:Program} {H:Mem} {ev:Ev} {d:Option Tmp} {ty:TypeId} {p:String} {af:Array Edge} {g:Option (Nat×Bool)} {x y:Operand} {s t:TypeId} {size bytes:Nat}
open Classical in
noncomputable def apV (q:Option (Nat×Nat)) (sz off len:Nat) (cs:List AV) (ga gb blk:Option Blk) (H:Mem) (els:R) : R:=match q,ga with
 | some (size,bytes),some (.cells l0 _ _)=>if gb=blk∧size=sz∧0 < size∧bytes≤1048576∧off≤l0.length then .val (.slq H.next 0 len 0) (H.add (.cells cs true size)) else els
 | _,_=>els
theorem apV_congr {tk:Nat} (_h0:tick=tk) {q q' : Option (Nat×Nat)} {sz off len:Nat} {cs:List AV} {ga ga' gb gb' blk:Option Blk} {H:Mem} {els:R} (h1:q=q') (h2:ga=ga') (h3:gb=gb') : apV q sz off len cs ga gb blk H els=apV q' sz off len cs ga' gb' blk H els:=by rw [h1,h2,h3]
attribute [congr] apV_congr
theorem apV_ok {l0 cs:List AV} {own:Bool} {z len off n:Nat} {G:Nat→Option Blk} {els:R} {b:Option Blk} (h1:0 < size) (h2:bytes≤1048576) (h3:off≤l0.length) : apV (some (size,bytes)) size off len cs (some (.cells l0 own z)) b b ⟨.fn G,n⟩ els=.val (.slq n 0 len 0) ⟨.fn (gput G n (some (.cells cs true size))),n+1⟩:=if_pos ⟨rfl,rfl,h1,h2,h3⟩
attribute [simp] apV_ok
theorem firstL_rowV {a off n c size:Nat} {cs:List AV} {l:List AV} {own:Bool} {z:Nat} {v:AV} (hv:v=.sl a off n c∨v=.slq a off n c) (h:H.get a=some (.cells l own z)) (hc:(l.drop off).take (cs.length)=cs) (hl:off+cs.length≤l.length) (hn:cs.length=n * size) : firstL H size n v=some cs:=by
 rcases hv with rfl | rfl
 ·rw [firstL_sl h (by omega),← hn,hc]
 ·rw [firstL_slq h (by omega),← hn,hc]
end
section
variable {H:Mem}
theorem stS_one {l:List AV} {z:Nat} {ag:Bool} {a off:Nat} {v:AV} (h:off < l.length) (h1:oneC v=true) :
  stS (some (ag,1)) (some (.cells l true z)) H a off [v]=.skip (H.upd a (.cells (l.set off v) true z)):=by
 refine (stS_cells (size:=1) rfl (by simp [h1]) h).trans ?_
 have e:putL l off [v]=l.set off v:=by
  unfold putL
  rw [List.set_eq_take_append_cons_drop,if_pos h]
  simp
 rw [e]
theorem stS_slq {l:List AV} {z:Nat} {ag:Bool} {a off b o n c:Nat} (h:off < l.length) :
  stS (some (ag,1)) (some (.cells l true z)) H a off [.slq b o n c]=.skip (H.upd a (.cells (l.set off (.slq b o n c)) true z)):=stS_one h rfl
attribute [simp] stS_slq
end
theorem SliceV.ap0 {P:Program} {g:Nat→Option Blk} {b len sz:Nat} {sv:AV} {cs:List AV} (h:SliceV g b sv len cs) (hl:0 < len) (hlm:len≤1000000) (hcs:cs.length=len * sz) :
  ∃ a2 blk,a2 < b∧g a2=some blk∧∀ {H:Mem} {ev:Ev} {d:Option Tmp} {ty:TypeId} {p:String} {af:Array Edge} {gd:Option (Nat×Bool)} {x y:Operand} {s t:TypeId} {a off:Nat} {hx:ev x=some (.sl a off 0 0)} {hy:ev y=some sv},
   ex2 P H ev ⟨d,.call ⟨.builtin .append,#[x,y],#[s,t]⟩,ty,p,af,gd⟩ x y (some (.sl a off 0 0)) (some sv) hx hy=apV (apI P s t) sz off len cs (H.get a) (H.get a2) (some blk) H (opV P H ev ⟨d,.call ⟨.builtin .append,#[x,y],#[s,t]⟩,ty,p,af,gd⟩):=by
 rcases h with ⟨h1,_⟩ | ⟨a2,o2,ha2,hsv,l,own,z,hg,hle,hcut⟩
 ·omega
 ·refine ⟨a2,_,ha2,hg,?_⟩
  intro H ev d ty p af gd x y s t a off hx hy
  unfold apV
  split
  ·rename_i size bytes l0 ow zz h1 h2
   split
   ·rename_i h
    obtain ⟨hH,rfl,h4,h5,h6⟩:=h
    obtain ⟨k,rfl⟩ : ∃ k,len=k+1:=⟨len - 1,by omega⟩
    show opV P H ev _=_
    have hv:∃ c,sv=.sl a2 o2 (k+1) c∨sv=.slq a2 o2 (k+1) c:=by
     rcases hsv with ⟨c,rfl⟩ | ⟨c,rfl⟩
     ·exact ⟨c,.inl rfl⟩
     ·exact ⟨c,.inr rfl⟩
    obtain ⟨c,hv⟩:=hv
    have hn:lenOf sv=some (k+1):=by rcases hv with rfl | rfl <;> rfl
    rw [append_of hx hy h1,appendN_full (n:=k) hn h4 (firstL_rowV hv hH hcut hle hcs) hcs h2 (by omega) (by omega) (by omega) h5]
    simp
   ·rfl
  ·rfl
theorem SliceV.ap00 {P:Program} {g:Nat→Option Blk} {b:Nat} {sv:AV} {cs:List AV} (h:SliceV g b sv 0 cs) :
  ∀ {H:Mem} {ev:Ev} {d:Option Tmp} {ty:TypeId} {p:String} {af:Array Edge} {gd:Option (Nat×Bool)} {x y:Operand} {s t:TypeId} {a off:Nat} {hx:ev x=some (.sl a off 0 0)} {hy:ev y=some sv},(apI P s t).isSome=true →
   ex2 P H ev ⟨d,.call ⟨.builtin .append,#[x,y],#[s,t]⟩,ty,p,af,gd⟩ x y (some (.sl a off 0 0)) (some sv) hx hy=.val (.sl a off 0 0) H:=by
 intro H ev d ty p af gd x y s t a off hx hy hp
 have hn:lenOf sv=some 0:=by
  rcases h with ⟨_,_,rfl | rfl⟩ | ⟨a,off,_,⟨c,rfl⟩ | ⟨c,rfl⟩,_⟩ <;> rfl
 cases hq:apI P s t with
 | none=>rw [hq] at hp; cases hp
 | some q =>
  obtain ⟨q1,q2⟩:=q
  show opV P H ev _=_
  rw [append_of hx hy hq]
  unfold appendN
  rw [hn]
  rfl
end Go.Ai
end
section
namespace Go.Ai
def putR (l:List AV) (off:Nat) (new:List AV) : List AV:=l.take off++new++l.drop (off+new.length)
theorem putR_len {l new:List AV} {off:Nat} (h:off+new.length≤l.length) : (putR l off new).length=l.length:=by
 unfold putR
 rw [List.length_append,List.length_append,List.length_take,List.length_drop]; omega
theorem putR_take {l new:List AV} {off:Nat} (h:off+new.length≤l.length) : (putR l off new).take (off+new.length)=l.take off++new:=by
 unfold putR
 rw [List.take_append_of_le_length (by rw [List.length_append,List.length_take]; omega),List.take_of_length_le (by rw [List.length_append,List.length_take]; omega)]
section
variable {P:Program} {H:Mem} {ev:Ev} {d:Option Tmp} {ty:TypeId} {p:String} {af:Array Edge} {g:Option (Nat×Bool)} {x y:Operand} {s t:TypeId} {size bytes:Nat}
theorem oMakeSlice_ok {t e:TypeId} {size bytes:Nat} {z:List AV} {a b:Int} (he:elemOfSlice P t=some (e,size,bytes)) (hs:0 < size) (hb:bytes≤1048576) (hz:zeroL P e=some z) (h0:0≤a) (h1:a≤b) (h2:b≤1048576) :
  oMakeSlice P H t (some (.lit (.int .i64 a))) (some (.lit (.int .i64 b)))=.val (.sl H.next 0 a.toNat b.toNat) (H.add (.cells (rep z b.toNat) true 0)):=by
 unfold oMakeSlice
 rw [he]
 simp only [Option.bind_some,natOf_int h0,natOf_int (show (0:Int)≤b by omega)]
 have hc:(Nat.ble a.toNat b.toNat && Nat.ble b.toNat 1048576 && Nat.ble bytes 1048576)=true:=by
  rw [Nat.ble_eq_true_of_le (show a.toNat≤b.toNat by omega),Nat.ble_eq_true_of_le (show b.toNat≤1048576 by omega),Nat.ble_eq_true_of_le hb]; rfl
 rw [hc]
 by_cases h:b.toNat=0
 ·have e1:zeroFor P e (b.toNat * size)=some []:=by unfold zeroFor; rw [h,Nat.zero_mul]
  rw [e1]
  dsimp only
  rw [h]
  show newBlk H [] true _=_
  simp [newBlk,Mem.newK_eq,rep]
 ·have e1:zeroFor P e (b.toNat * size)=some z:=by
   unfold zeroFor
   have:Nat.beq (b.toNat * size) 0=false:=by
    cases hb:Nat.beq (b.toNat * size) 0 with
    | false=>rfl
    | true =>
     have:=Nat.eq_of_beq_eq_true hb
     rcases Nat.mul_eq_zero.1 this with h3 | h3 <;> omega
   rw [this]; exact hz
  rw [e1]
  dsimp only
  simp [newBlk,Mem.newK_eq]
theorem appendN_room {n k off a c:Nat} {x:AV} {new l:List AV} {z:Nat} (hn:lenOf x=some (n+1)) (hs:0 < size) (hf:firstL H size (n+1) x=some new) (hl:new.length=(n+1) * size)
  (hg:H.get a=some (.cells l true z)) (hc:k+(n+1)≤c) (hle:off+k * size+new.length≤l.length) (h4:allOne new=true) :
  appendN H size bytes (.sl a off k c) x=some (.sl a off (k+(n+1)) c,H.upd a (.cells (putR l (off+k * size) new) true z)):=by
 unfold appendN
 rw [hn]
 show (match Nat.beq size 0,firstL H size (n+1) x with | false,some new=>appTo H size bytes (n+1) (.sl a off k c) new | _,_=>none)=_
 have hb:Nat.beq size 0=false:=by
  cases hb:Nat.beq size 0 with
  | false=>rfl
  | true=>have:=Nat.eq_of_beq_eq_true hb; omega
 rw [hb,hf]
 dsimp only
 unfold appTo
 rw [len_eq,hl,Nat.beq_refl]
 dsimp only
 unfold appSl
 rw [Nat.ble_eq_true_of_le hc]
 dsimp only
 rw [hg]
 dsimp only
 unfold setCells
 rw [h4]
 dsimp only
 rw [putCellsK_eq,if_pos hle,Mem.setK_eq]
 rfl
noncomputable def apR (q:Option (Nat×Nat)) (k c off a:Nat) (ga gb:Option Blk) (H:Mem) (els:R) : R:=match q,ga,gb with
 | some (size,bytes),some (.cells r true z),some (.cells l _ _)=>if 0 < size∧l.length=size∧off+k * size+size≤r.length∧k < c∧allOne l=true then .val (.sl a off (k+1) c) (H.upd a (.cells (putR r (off+k * size) l) true z)) else els
 | _,_,_=>els
theorem ap_room {a b c c' off k:Nat} {hx:ev x=some (.sl a off k c)} {hy:ev y=some (.sl b 0 1 c')} (hkc:k < c) :
  ex2 P H ev ⟨d,.call ⟨.builtin .append,#[x,y],#[s,t]⟩,ty,p,af,g⟩ x y (some (.sl a off k c)) (some (.sl b 0 1 c')) hx hy=apR (apI P s t) k c off a (H.get a) (H.get b) H (opV P H ev ⟨d,.call ⟨.builtin .append,#[x,y],#[s,t]⟩,ty,p,af,g⟩):=by
 unfold apR
 split
 ·rename_i size bytes r z l own w h1 h2 h3
  split
  ·rename_i h
   obtain ⟨h4,h5,h6,h7,h8⟩:=h
   show opV P H ev _=_
   rw [append_of hx hy h1,appendN_room (n:=0) rfl h4 (firstL_row h3 (by omega)) (by omega) h2 (by omega) (by omega) h8]
  ·rfl
 ·rfl
theorem apR_congr {tk:Nat} (_h0:tick=tk) {q q' : Option (Nat×Nat)} {k c off a:Nat} {ga ga' gb gb' : Option Blk} {H:Mem} {els:R} (h1:q=q') (h2:ga=ga') (h3:gb=gb') : apR q k c off a ga gb H els=apR q' k c off a ga' gb' H els:=by rw [h1,h2,h3]
attribute [congr] apR_congr
theorem apR_ok {r l:List AV} {own:Bool} {z w k c off a n:Nat} {G:Nat→Option Blk} {els:R} (h1:0 < size) (h2:l.length=size) (h3:off+k * size+size≤r.length) (h4:k < c) (h5:allOne l=true) :
  apR (some (size,bytes)) k c off a (some (.cells r true z)) (some (.cells l own w)) ⟨.fn G,n⟩ els=.val (.sl a off (k+1) c) ⟨.fn (gput G a (some (.cells (putR r (off+k * size) l) true z))),n⟩:=if_pos ⟨h1,h2,h3,h4,h5⟩
attribute [simp] ap_room apR_ok
end
section
variable {P:Program} {H:Mem} {ev:Ev} {d:Option Tmp} {ty:TypeId} {p:String} {af:Array Edge} {g:Option (Nat×Bool)}
end
section
variable {P:Program} {H:Mem} {ev:Ev} {d:Option Tmp} {ty:TypeId} {p:String} {af:Array Edge} {g:Option (Nat×Bool)}
def sliceT (P:Program) (t:TypeId) : Bool:=match P.underlying t with | some (.slice _)=>true | _=>false
theorem sliceT_inv {t:TypeId} (h:sliceT P t=true) : ∃ e,P.underlying t=some (.slice e):=by
 unfold sliceT at h
 split at h
 ·exact ⟨_,by assumption⟩
 ·cases h
theorem bin_slnil {t rt:TypeId} {x y:Operand} {v:AV} (hx:ev x=some v) (hv:(∃ a o n c,v=.sl a o n c)∨(∃ a o n c,v=.slq a o n c)∨v=.es) (ht:sliceT P t=true) :
  binS P H ev ⟨d,.binOp .eql t x y rt,ty,p,af,g⟩ .eql t (some v) (some (.lit (.slice none 0 0)))=.val (.lit (.bool false)) H:=by
 obtain ⟨e,ht⟩:=sliceT_inv ht
 have hg:generic P ev ⟨d,.binOp .eql t x y rt,ty,p,af,g⟩=none :=
  generic_none (x:=x) (by simp [Op.operands]) fun v' h=>by rw [hx] at h; cases h; rcases hv with ⟨a,o,n,c,rfl⟩ | ⟨a,o,n,c,rfl⟩ | rfl <;> rfl
 have hb:binS P H ev ⟨d,.binOp .eql t x y rt,ty,p,af,g⟩ .eql t (some v) (some (.lit (.slice none 0 0)))=oBin P H ev ⟨d,.binOp .eql t x y rt,ty,p,af,g⟩ .eql t (some v) (some (.lit (.slice none 0 0))):=by
  rcases hv with ⟨a,o,n,c,rfl⟩ | ⟨a,o,n,c,rfl⟩ | rfl <;> rfl
 rw [hb]
 unfold oBin
 have hf:fast2 .eql (some v) (some (.lit (.slice none 0 0)))=none:=by
  rcases hv with ⟨a,o,n,c,rfl⟩ | ⟨a,o,n,c,rfl⟩ | rfl <;> rfl
 rw [hf,hg]
 dsimp only
 unfold oNilEq
 rw [ht]
 rcases hv with ⟨a,o,n,c,rfl⟩ | ⟨a,o,n,c,rfl⟩ | rfl <;> rfl
theorem bin_slN {t rt:TypeId} {x y:Operand} {a o n c:Nat} (hx:ev x=some (.sl a o n c)) (ht:sliceT P t=true) :
  binS P H ev ⟨d,.binOp .eql t x y rt,ty,p,af,g⟩ .eql t (some (.sl a o n c)) (some (.lit (.slice none 0 0)))=.val (.lit (.bool false)) H:=bin_slnil hx (.inl ⟨a,o,n,c,rfl⟩) ht
attribute [simp] bin_slN
end
theorem rep_len (z:List AV) : ∀ n,(rep z n).length=n * z.length
 | 0=>by simp [rep]
 | n+1=>by rw [rep_succ,List.length_append,rep_len z n,Nat.succ_mul]; omega
end Go.Ai
end
section
namespace Go.Ai
section
variable {P:Program} {H:Mem} {ev:Ev} {d:Option Tmp} {ty:TypeId} {p:String} {af:Array Edge} {g:Option (Nat×Bool)}
theorem slice_nil_hi {t:TypeId} {x hi:Operand} {hx:ev x=some (.lit (.slice none 0 0))} {hh:ev hi=some (.lit (.int .i64 0))} (he:(elSz P t).map (·.1)=some none) :
  ex2 P H ev ⟨d,.slice t x none (some hi) none,ty,p,af,g⟩ x hi (some (.lit (.slice none 0 0))) (some (.lit (.int .i64 0))) hx hh=.val (.lit (.slice none 0 0)) H:=by
 show opV P H ev _=_
 show oSlice P H ev _ t (ev x) none (some hi) none=_
 unfold oSlice
 rw [generic2 (r:=.slice none 0 0) (x:=x) (y:=hi) (by simp [Op.operands]) hx hh fun ρ e1 e2=>?_]
 show pureV P (do pure (Next.value (← Instr.sliceAt t (ρ x) none (some (ρ hi)) none)))=_
 rw [e1,e2]
 obtain ⟨q,hq,hq2⟩:=Option.map_eq_some_iff.1 he
 obtain ⟨q1,q2⟩:=q
 dsimp only at hq2
 subst hq2
 obtain ⟨e,i,ht,hi',h5⟩:=elSz_inv hq
 have key:pureV P (Instr.slice t (.slice none 0 0) none (some (.int .i64 0)) none)=some (.slice none 0 0):=by
  unfold Instr.slice
  refine (pureV_then (m:=underlying t) (a:=TypeDesc.slice e) (pureV_underlying ht)).trans ?_
  dsimp only
  refine (pureV_then (a:=(0,0,0)) ?_).trans ?_
  ·rfl
  ·refine (pureV_then (m:=sizeOf e) (a:=i.size) ?_).trans ?_
   ·exact (pureV_then (pureV_info hi')).trans rfl
   ·rfl
 have key2:pureV P (Instr.sliceAt t (.slice none 0 0) none (some (.int .i64 0)) none)=some (.slice none 0 0):=by
  unfold Instr.sliceAt
  refine (pureV_then (m:=underlying t) (a:=TypeDesc.slice e) (pureV_underlying ht)).trans ?_
  exact key
 rw [pureV_then key2]
 rfl
theorem slice_num {t:TypeId} {x hi:Operand} {v r:AV} {k:IntKind} {i:Int} {hx:ev x=some v} {hh:ev hi=some (.lit (.int k i))} (hl:toLit v=none) (he:(elSz P t).map (·.1)=some none) (hr:∀ size,sliceN size none (some (.lit (.int k i))) none v=some r) :
  ex2 P H ev ⟨d,.slice t x none (some hi) none,ty,p,af,g⟩ x hi (some v) (some (.lit (.int k i))) hx hh=.val r H:=by
 show opV P H ev _=_
 show oSlice P H ev _ t (ev x) none (some hi) none=_
 unfold oSlice
 rw [generic_none (x:=x) (by simp [Op.operands]) (fun v' h=>by rw [hx] at h; cases h; exact hl),hx]
 obtain ⟨q,hq,hq2⟩:=Option.map_eq_some_iff.1 he
 obtain ⟨q1,q2⟩:=q
 dsimp only at hq2
 subst hq2
 obtain ⟨e,i',h3,h4,h5⟩:=elSz_inv hq
 dsimp only
 unfold oSliceN evOpt
 dsimp only
 rw [hh]
 dsimp only
 rw [sliceOp_slice h3 h4,hr]
 rfl
end
section
variable {H:Mem}
attribute [simp] stS_one
theorem putR_at0 {l:List AV} {off:Nat} {u v:AV} (h:off+2≤l.length) : (putR l off [u,v])[off]?=some u:=by
 unfold putR
 rw [List.append_assoc,List.getElem?_append_right (by rw [List.length_take]; omega),List.length_take,Nat.min_eq_left (by omega),Nat.sub_self]
 rfl
theorem putR_at1 {l:List AV} {off:Nat} {u v:AV} (h:off+2≤l.length) : (putR l off [u,v])[off+1]?=some v:=by
 unfold putR
 rw [List.append_assoc,List.getElem?_append_right (by rw [List.length_take]; omega),List.length_take,Nat.min_eq_left (by omega),show off+1 - off=1 by omega]
 rfl
theorem putR_ne {l new:List AV} {off j:Nat} (h:off+new.length≤l.length) (h2:j < off∨off+new.length≤j) : (putR l off new)[j]?=l[j]?:=by
 unfold putR
 rcases h2 with h2 | h2
 ·rw [List.append_assoc,List.getElem?_append_left (by rw [List.length_take]; omega),List.getElem?_take,if_pos h2]
 ·rw [List.getElem?_append_right (by rw [List.length_append,List.length_take]; omega),List.length_append,List.length_take,Nat.min_eq_left (by omega),List.getElem?_drop,show off+new.length+(j - (off+new.length))=j by omega]
end
def CapV (sv:AV) : Prop:=∀ a o n c,sv=.sl a o n c→n≤c
theorem Row.takes {g:Nat→Option Blk} {a off:Nat} {cs:List AV} (h:Row g a off cs) (m:Nat) : Row g a off (cs.take m):=by
 obtain ⟨l,own,z,h1,h2,h3⟩:=h
 refine ⟨l,own,z,h1,?_,?_⟩
 ·rw [List.length_take]; omega
 ·rw [List.length_take]
  have:(List.take cs.length (List.drop off l)).take m=cs.take m:=by rw [h3]
  rw [List.take_take] at this
  simpa [Nat.min_comm] using this
theorem SliceV.cutP {P:Program} {g:Nat→Option Blk} {b len:Nat} {sv:AV} {cs:List AV} (h:SliceV g b sv len cs) (hc:CapV sv) {t:TypeId} (he:(elSz P t).map (·.1)=some none) {k sz:Nat} (hk:k≤len) :
  ∃ sv',(∀ {H:Mem} {ev:Ev} {d:Option Tmp} {ty:TypeId} {p:String} {af:Array Edge} {gd:Option (Nat×Bool)} {x hi:Operand} {hx:ev x=some sv} {hh:ev hi=some (.lit (.int .i64 (k:Int)))},
   ex2 P H ev ⟨d,.slice t x none (some hi) none,ty,p,af,gd⟩ x hi (some sv) (some (.lit (.int .i64 (k:Int)))) hx hh=.val sv' H)∧SliceV g b sv' k (cs.take (k * sz))∧CapV sv':=by
 rcases h with ⟨h1,h2,rfl | rfl⟩ | ⟨a,off,ha,⟨c,rfl⟩ | ⟨c,rfl⟩,hrow⟩
 ·obtain rfl:k=0:=by omega
  refine ⟨.lit (.slice none 0 0),?_,.inl ⟨rfl,by simp,.inl rfl⟩,fun _ _ _ _ e=>by cases e⟩
  intro H ev d ty p af gd x hi hx hh
  exact slice_nil_hi (hx:=hx) (hh:=hh) he
 ·obtain rfl:k=0:=by omega
  refine ⟨.es,?_,.inl ⟨rfl,by simp,.inr rfl⟩,fun _ _ _ _ e=>by cases e⟩
  intro H ev d ty p af gd x hi hx hh
  exact slice_num (hx:=hx) (hh:=hh) rfl he fun size=>rfl
 ·have hcc:=hc _ _ _ _ rfl
  by_cases h0:c=0
  ·obtain rfl:k=0:=by omega
   subst h0
   refine ⟨.sl a off 0 0,?_,.inr ⟨a,off,ha,.inl ⟨0,rfl⟩,hrow.takes _⟩,fun _ _ _ _ e=>by cases e; omega⟩
   intro H ev d ty p af gd x hi hx hh
   refine slice_num (hx:=hx) (hh:=hh) rfl he fun size=>?_
   unfold sliceN
   dsimp only
   have hb:bounds none (some (.lit (.int .i64 ((0:Nat) : Int)))) none len 0=some (0,0,0):=rfl
   rw [hb]
   rfl
  ·refine ⟨.sl a off k c,?_,.inr ⟨a,off,ha,.inl ⟨c,rfl⟩,hrow.takes _⟩,fun _ _ _ _ e=>by cases e; omega⟩
   intro H ev d ty p af gd x hi hx hh
   rw [slice_sl_hi he (by omega) (by omega) (by omega)]
   simp
 ·by_cases h0:len=0
  ·obtain rfl:k=0:=by omega
   subst h0
   refine ⟨.es,?_,.inl ⟨rfl,by simp,.inr rfl⟩,fun _ _ _ _ e=>by cases e⟩
   intro H ev d ty p af gd x hi hx hh
   refine slice_num (hx:=hx) (hh:=hh) rfl he fun size=>?_
   unfold sliceN
   dsimp only
   have hb:bounds none (some (.lit (.int .i64 ((0:Nat) : Int)))) none 0 0=some (0,0,0):=rfl
   rw [hb]
   rfl
  ·refine ⟨.slq a off k c,?_,.inr ⟨a,off,ha,.inr ⟨c,rfl⟩,hrow.takes _⟩,fun _ _ _ _ e=>by cases e⟩
   intro H ev d ty p af gd x hi hx hh
   rw [slice_slq_hi he (by omega) (by omega) (by omega)]
   simp
end Go.Ai
end
section
namespace Go.Ai
def edOK (O:Int) (next:Nat) (e:Int×Int) : Option Nat :=
 if e.1 = -1∧(e.2 = -1∨e.2 = -2) then some next
 else if e.1=(next:Int)∧0≤e.2∧e.2 < O then some (next+1) else none
def goE (O:Int) : List (Int×Int)→Nat→Option Nat
 | [],next=>some next
 | e :: l,next=>match edOK O next e with
  | none=>none
  | some nx=>goE O l nx
def goT (I O:Int) : List (List (Int×Int))→Nat→Nat→Option Nat
 | [],_,next=>some next
 | r :: l,n,next=>if (r.length:Int)=I∧n < next then
   (match goE O r next with
    | none=>none
    | some nx=>goT I O l (n+1) nx)
   else none
def treeErr (I O:Int) (T:List (List (Int×Int))) : Int :=
 if I > 16∨O > 16∨T.length > 65537 then 3 else if I < 1∨O < 1∨T.length < 1 then 1 else if goT I O T 0 1=some T.length then 0 else 1
def okE (len:Nat) (O:Int) (e:Int×Int) : Bool :=
 decide (1≤e.1∧e.1 < len∧0≤e.2∧e.2 < O) || decide (e.1 = -1∧(e.2 = -1∨e.2 = -2))
structure WSt where
 out:List (List Int)
 seen:List Bool
 many:Nat
def wI (r n:Nat) : List (Int×Int)→Nat→WSt→Option WSt
  | [],_,st=>some st
  | e :: l,i,st =>
    if st.seen.getD n false=true∧(st.out.getD n []).length=r then
      (if e.1 = -1 then wI r n l (i+1) st
       else if st.seen.getD e.1.toNat false=true then none
       else wI r n l (i+1) ⟨st.out.set e.1.toNat (st.out.getD n []++[(i:Int)]),st.seen.set e.1.toNat true,st.many+1⟩)
    else some st
def wN (r:Nat) : List (List (Int×Int))→Nat→WSt→Option WSt
 | [],_,st=>some st
 | row :: l,n,st=>match wI r n row 0 st with
  | none=>none
  | some s=>wN r l (n+1) s
def wR (T:List (List (Int×Int))) : Nat→Nat→WSt→Option WSt
 | 0,_,st=>some st
 | k+1,r,st=>match wN r T 0 st with
  | none=>none
  | some s=>if s.many=st.many then some s else wR T k (r+1) s
def wSt0 (len:Nat) : WSt:=⟨List.replicate len [],(List.replicate len false).set 0 true,1⟩
def rWords (T:List (List (Int×Int))) : List (List Int) :=
 match wR T T.length 0 (wSt0 T.length) with
 | none=>[]
 | some s=>if s.many < T.length then [] else s.out
def lexC:List Int→List Int→Int
 | x :: a,y :: b=>if x < y then -1 else if y < x then 1 else lexC a b
 | _,_=>0
def cmpM (a b:List Int) : Int:=if a.length < b.length then -1 else if b.length < a.length then 1 else lexC a b
def incW (w:List (List Int)) : Bool:=(List.range (w.length - 1)).all fun n=>decide (cmpM (w.getD n []) (w.getD (n+1) []) < 0)
def rTreeErr (I O:Int) (T:List (List (Int×Int))) : Int :=
 if I > 16∨O > 16∨T.length > 65537 then 3 else if I < 1∨O < 1∨T.length < 1 then 1
 else if ((T.all fun r=>decide ((r.length:Int)=I) && r.all (okE T.length O)) && decide ((rWords T).length=T.length) && incW (rWords T))=true then 0 else 1
def LL:List Int→List Int→Prop
 | x :: a,y :: b=>x < y∨x=y∧LL a b
 | _,_=>False
def SL (a b:List Int) : Prop:=a.length < b.length∨a.length=b.length∧LL a b
theorem lexC_LL:∀ {a b:List Int},lexC a b < 0↔LL a b
 | [],[]=>by simp [lexC,LL]
 | [],_ :: _=>by simp [lexC,LL]
 | _ :: _,[]=>by simp [lexC,LL]
 | x :: a,y :: b=>by
  unfold lexC LL
  by_cases h1:x < y
  ·simp [h1]
  ·rw [if_neg h1]
   by_cases h2:y < x
   ·rw [if_pos h2]
    constructor
    ·intro h; omega
    ·rintro (h | ⟨h,-⟩) <;> omega
   ·rw [if_neg h2,lexC_LL]
    constructor
    ·intro h; exact .inr ⟨by omega,h⟩
    ·rintro (h | ⟨-,h⟩)
     ·omega
     ·exact h
theorem cmpM_SL {a b:List Int} : cmpM a b < 0↔SL a b:=by
 unfold cmpM SL
 by_cases h1:a.length < b.length
 ·simp [h1]
 ·rw [if_neg h1]
  by_cases h2:b.length < a.length
  ·rw [if_pos h2]
   constructor
   ·intro h; omega
   ·rintro (h | ⟨h,-⟩) <;> omega
  ·rw [if_neg h2,lexC_LL]
   constructor
   ·intro h; exact .inr ⟨by omega,h⟩
   ·rintro (h | ⟨-,h⟩)
    ·omega
    ·exact h
theorem LL.irrefl:∀ {a:List Int},¬ LL a a
 | [],h=>h
 | x :: a,h=>by
  rcases h with h | ⟨-,h⟩
  ·omega
  ·exact LL.irrefl h
theorem LL.trans:∀ {a b c:List Int},LL a b→LL b c→LL a c
 | [],_,_,h,_=>by cases ‹List Int› <;> exact h.elim
 | _ :: _,[],_,h,_=>h.elim
 | _ :: _,_ :: _,[],_,h=>h.elim
 | x :: a,y :: b,z :: c,h1,h2=>by
  rcases h1 with h1 | ⟨h1,h1'⟩
  ·rcases h2 with h2 | ⟨h2,-⟩
   ·exact .inl (by omega)
   ·exact .inl (by omega)
  ·rcases h2 with h2 | ⟨h2,h2'⟩
   ·exact .inl (by omega)
   ·exact .inr ⟨by omega,h1'.trans h2'⟩
theorem SL.irrefl {a:List Int} : ¬ SL a a:=by
 rintro (h | ⟨-,h⟩)
 ·omega
 ·exact LL.irrefl h
theorem SL.trans {a b c:List Int} (h1:SL a b) (h2:SL b c) : SL a c:=by
 rcases h1 with h1 | ⟨h1,h1'⟩
 ·rcases h2 with h2 | ⟨h2,-⟩
  ·exact .inl (by omega)
  ·exact .inl (by omega)
 ·rcases h2 with h2 | ⟨h2,h2'⟩
  ·exact .inl (by omega)
  ·exact .inr ⟨by omega,h1'.trans h2'⟩
theorem SL.le {a b:List Int} (h:SL a b) : a.length≤b.length:=by
 rcases h with h | ⟨h,-⟩ <;> omega
theorem LL.app:∀ {a b:List Int},LL a b→∀ i j,LL (a++[i]) (b++[j])
 | [],b,h,_,_=>by cases b <;> exact h.elim
 | _ :: _,[],h,_,_=>h.elim
 | x :: a,y :: b,h,i,j=>by
  rcases h with h | ⟨h,h'⟩
  ·exact .inl h
  ·exact .inr ⟨h,h'.app i j⟩
theorem LL.last:∀ (a:List Int) {i j:Int},i < j→LL (a++[i]) (a++[j])
 | [],_,_,h=>.inl h
 | _ :: a,_,_,h=>.inr ⟨rfl,LL.last a h⟩
theorem SL.app {a b:List Int} (h:SL a b) (i j:Int) : SL (a++[i]) (b++[j]):=by
 rcases h with h | ⟨h,h'⟩
 ·exact .inl (by simp; omega)
 ·exact .inr ⟨by simp; omega,h'.app i j⟩
theorem SL.last (a:List Int) {i j:Int} (h:i < j) : SL (a++[i]) (a++[j]):=.inr ⟨by simp,LL.last a h⟩
theorem SL.nil (a:List Int) (i:Int) : SL [] (a++[i]):=.inl (by simp)
theorem inc_SL {w:List (List Int)} (h:incW w=true) : ∀ a b,a < b→b < w.length→SL (w.getD a []) (w.getD b []):=by
 have step:∀ n,n+1 < w.length→SL (w.getD n []) (w.getD (n+1) []):=fun n hn=>by
  have:=List.all_eq_true.1 h n (by simp; omega)
  exact cmpM_SL.1 (of_decide_eq_true this)
 intro a b hab
 induction b with
 | zero=>omega
 | succ b ih =>
  intro hb
  by_cases e:a=b
  ·subst e; exact step _ hb
  ·exact (ih (by omega) (by omega)).trans (step b hb)
theorem SL_inc {w:List (List Int)} (h:∀ n,n+1 < w.length→SL (w.getD n []) (w.getD (n+1) [])) : incW w=true:=by
 unfold incW
 rw [List.all_eq_true]
 intro n hn
 have:n < w.length - 1:=by simpa using hn
 exact decide_eq_true (cmpM_SL.2 (h n (by omega)))
theorem getD_set {α:Type} (l:List α) (i j:Nat) (a d:α) : (l.set i a).getD j d=if i=j∧i < l.length then a else l.getD j d:=by
 rw [List.getD_eq_getElem?_getD,List.getElem?_set,List.getD_eq_getElem?_getD]
 by_cases h:i=j
 ·subst h
  by_cases h2:i < l.length
  ·simp [h2]
  ·simp [h2]
 ·simp [h]
end Go.Ai
end
section
namespace Go.Ai
open Go.Proofs Go.Shelf Go.Sort
open Go.RowKit (Below)
set_option maxRecDepth 10000
def froz (R:Nat) (g:Nat→Option Blk) : Nat→Option Blk:=fun a=>if a=R then none else match g a with
 | some (.cells l _ z)=>some (.cells l false z)
 | _=>none
theorem froz_some {R a:Nat} {g:Nat→Option Blk} {x:Blk} (h:froz R g a=some x) : a≠R∧∃ l own z,g a=some (.cells l own z)∧x=.cells l false z:=by
 unfold froz at h
 split at h
 ·cases h
 ·rename_i hne
  refine ⟨hne,?_⟩
  split at h
  ·rename_i l own z e
   exact ⟨l,own,z,e,by injection h with h; exact h.symm⟩
  ·cases h
theorem froz_at {R a:Nat} {g:Nat→Option Blk} {l:List AV} {own:Bool} {z:Nat} (hne:a≠R) (h:g a=some (.cells l own z)) : froz R g a=some (.cells l false z):=by
 unfold froz; rw [if_neg hne,h]
theorem grow_of {W w' : World} (hB:Below W.heap.size W w') (hd:W.drawn≤w'.drawn) : ∃ q os',w'=grow (W.drewN q) os':=by
 refine ⟨w'.drawn - W.drawn,w'.heap.extract W.heap.size w'.heap.size,?_⟩
 obtain ⟨h1,h2,h3,h4,h5⟩:=hB
 cases w' with
 | mk heap tape drawn os output =>
  cases W with
  | mk heap' tape' drawn' os' output' =>
   have e1:os=os':=h1
   have e2:tape=tape':=h2
   have e3:output=output':=h3
   have h4' : heap'.size≤heap.size:=h4
   have h5' : ∀ k,k < heap'.size→heap[k]?=heap'[k]?:=h5
   have e4:drawn=drawn'+(drawn - drawn'):=by have:drawn'≤drawn:=hd; omega
   have e5:heap=heap'++heap.extract heap'.size heap.size:=by
    apply Array.ext_getElem?
    intro k
    rw [Array.getElem?_append]
    split
    ·rename_i hk; exact h5' k hk
    ·rename_i hk
     rw [Array.getElem?_extract]
     split
     ·congr 1; omega
     ·rename_i hk2; rw [Array.getElem?_eq_none (by omega)]
   subst e1 e2 e3
   show World.mk heap tape drawn os output=World.mk (heap'++heap.extract heap'.size heap.size) tape (drawn'+(drawn - drawn')) os output
   rw [← e5,← e4]
theorem flatten_at {k:Nat} : ∀ (its:List (List AV)),(∀ x∈its,x.length=k)→∀ (i:Nat) (hi:i < its.length) (t:Nat),t < k→its.flatten[i * k+t]?=(its[i])[t]?
 | [],_,i,hi,_,_=>by cases hi
 | x :: its,h,0,_,t,ht=>by
  rw [List.flatten_cons,List.getElem?_append_left (by rw [h x (by simp)]; omega)]
  simp
 | x :: its,h,i+1,hi,t,ht=>by
  have hx:=h x (by simp)
  rw [List.flatten_cons,List.getElem?_append_right (by rw [hx,Nat.add_mul]; omega),hx,show (i+1) * k+t - k=i * k+t by rw [Nat.add_mul]; omega]
  simpa using flatten_at its (fun y hy=>h y (by simp [hy])) i (by simpa using hi) t ht
theorem flatten_len {k:Nat} : ∀ (its:List (List AV)),(∀ x∈its,x.length=k)→its.flatten.length=its.length * k
 | [],_=>by simp
 | x :: its,h=>by
  rw [List.flatten_cons,List.length_append,h x (by simp),flatten_len its fun y hy=>h y (by simp [hy]),List.length_cons,Nat.add_mul]; omega
theorem sw_other {α:Type} [Inhabited α] {enc:α→List Value} {k:Nat} {w:World} {b off m j:Nat} {dk:Array α} {os:Array Obj} (hj:j < w.heap.size) (hne:j≠b) : (sortWorldK enc k w b off m dk os).heap[j]?=w.heap[j]?:=by
 show ((w.heap.modify b _)++os)[j]?=_
 rw [Array.getElem?_append,if_pos (by simpa using hj),Array.getElem?_modify,if_neg (Ne.symm hne)]
theorem sw_self {α:Type} [Inhabited α] {enc:α→List Value} {k:Nat} {w:World} {b off m:Nat} {dk:Array α} {os:Array Obj} {c:Array Value} {e:TypeId} {fz:Nat×Nat} (hb:w.heap[b]?=some (.cells c e fz)) : (sortWorldK enc k w b off m dk os).heap[b]?=some (.cells (putCells id off (flatK enc k dk) c) e fz):=by
 have hlt:=(Array.getElem?_eq_some_iff.1 hb).1
 show ((w.heap.modify b _)++os)[b]?=_
 rw [Array.getElem?_append,if_pos (by simpa using hlt),Array.getElem?_modify,if_pos rfl,hb]
 rfl
theorem sw_size {α:Type} [Inhabited α] {enc:α→List Value} {k:Nat} {w:World} {b off m:Nat} {dk:Array α} {os:Array Obj} : (sortWorldK enc k w b off m dk os).heap.size=w.heap.size+os.size:=by
 show ((w.heap.modify b _)++os).size=_
 simp
theorem froz_sim {B G:Nat} {ρ:Rn} {g:Nat→Option Blk} {n:Nat} {w W:World} (s:Sim B G ρ ⟨.fn g,n⟩ w) {R:Nat} {l:List AV} {z b o kk:Nat} (hg:g R=some (.cells l true z)) (hr:ρ R=some (b,o,kk)) (hW:∀ j,j < w.heap.size→j≠b→W.heap[j]?=w.heap[j]?) (hsz:w.heap.size≤W.heap.size) : Sim W.heap.size G ρ ⟨.fn (froz R g),n⟩ W:=by
 refine ⟨fun a x hx=>?_,fun a a' x x' b1 o1 k1 o2 k2 h1 h2 hne hown=>?_,fun a ha=>s.fresh a ha,fun a x ha hx=>?_,s.names,Nat.le_refl _⟩
 ·obtain ⟨hne,l1,own,z1,h1,rfl⟩:=froz_some hx
  rcases s.blk a _ h1 with h | ⟨b1,o1,k1,h2,h3⟩
  ·exact .inl h
  ·refine .inr ⟨b1,o1,k1,h2,?_⟩
   have hb:b1≠b:=by
    rintro rfl
    exact s.inj R a _ _ b1 o kk o1 k1 hg h1 (Ne.symm hne) rfl hr h2
   have hlt:=h3.lt
   obtain ⟨c,e,fz,e1,e2,_⟩:=h3
   exact ⟨c,e,fz,(hW _ hlt hb).trans e1,e2,fun h=>by cases h⟩
 ·obtain ⟨_,l1,own,z1,_,rfl⟩:=froz_some h1
  cases hown
 ·obtain ⟨_,l1,own,z1,h1,_⟩:=froz_some hx
  exact s.glob a _ ha h1
theorem allOne_mem:∀ {l:List AV} {x:AV},allOne l=true→x∈l→oneC x=true
 | y :: l,x,h,hx=>by
  have h' : (match oneC y with | true=>allOne l | false=>false)=true:=h
  cases hy:oneC y with
  | false=>rw [hy] at h'; cases h'
  | true =>
   rw [hy] at h'
   rcases List.mem_cons.1 hx with rfl | hx
   ·exact hy
   ·exact allOne_mem h' hx
theorem WC.sortK {G:Nat} {P:Program} {R:Ren} (L:SlLaysF0.n6 P R) (k:Nat) (hk0:0 < k) (aE:∀ w,(isAgg (R.t 24)).run P w=.ok true w) (zE:∀ w,(Go.sizeOf (R.t 24)).run P w=.ok k w) (c:FuncId) (ec:∀ args w,(callFunc c args).run P w=.ok (.enter c args) w)
  {its:List (List AV)} (h1:∀ x∈its,x.length=k∧allOne x=true) (cf:Nat→Nat→Int) (hO:SWO (ltOf cf)) {g:Nat→Option Blk} {n Bn z:Nat} (hg:g Bn=some (.cells its.flatten true z)) {sv:AV} (hsv:(∃ cp,sv=.sl Bn 0 its.length cp)∨∃ d,sv=.slq Bn 0 its.length d) (hpos:0 < its.length) (hlen:its.length < 1000000)
  (hcmp:∀ (i j:Nat) (hi:i < its.length) (hj:j < its.length),WC G P c [.agg its[i],.agg its[j]] ⟨.fn (froz Bn g),n⟩ fun r=>∃ g' n',r=.ret (.lit (.int .i64 (cf i j))) ⟨.fn g',n'⟩) :
  WC G P (R.f 6) [sv,.lit (.func (.func c) #[] #[])] ⟨.fn g,n⟩ fun r=>∃ is:List Nat,is.Perm (List.range its.length)∧(∀ (i j:Nat) (_:i < j) (hj:j < is.length),¬ cf is[j] (is[i]'(by omega)) < 0)∧r=.ret (.tup []) ⟨.fn (gput g Bn (some (.cells (is.map fun i=>its.getD i []).flatten true z))),n⟩:=by
 intro B ρ us w s v
 obtain ⟨u1,us1,e1,hv1,u2,us2,e2,hv2,e3⟩:=v
 subst e3 e2
 have hus:us=#[u1,u2]:=Array.toList_inj.1 (by simpa using e1)
 subst hus
 have hv2:u2=.func (.func c) #[] #[]:=hv2
 subst hv2
 obtain ⟨b,o,kk,cap,hr,rfl⟩ : ∃ b o kk cap,ρ Bn=some (b,o,kk)∧u1=.slice (some ⟨b,o,none⟩) its.length cap:=by
  rcases hsv with ⟨cp,rfl⟩ | ⟨d,rfl⟩
  ·obtain ⟨b,o,kk,hr,_,e⟩:=hv1
   exact ⟨b,o,kk,_,hr,e⟩
  ·obtain ⟨b,o,kk,hr,_,e⟩:=hv1
   exact ⟨b,o,kk,_,hr,e⟩
 have hBR:=s.at (H:=⟨.fn g,n⟩) hg hr
 obtain ⟨c0,e,fz,hb,hc,hown⟩:=hBR
 obtain ⟨hBb,hfr,hsz0,hz0⟩:=hown rfl
 have hlt:=(Array.getElem?_eq_some_iff.1 hb).1
 have hfl:=flatten_len its fun x hx=>(h1 x hx).1
 have hcell:∀ (i:Nat) (hi:i < its.length) (t:Nat) (ht:t < k),∃ u,c0[o+(i * k+t)]?=some u∧u.oneCell=true∧∀ v,(its[i])[t]?=some v→VR ρ v u:=by
  intro i hi t ht
  have h2:=h1 _ (List.getElem_mem hi)
  have h3:=flatten_at its (fun x hx=>(h1 x hx).1) i hi t ht
  have h4:(its[i])[t]?=some ((its[i])[t]'(by omega)):=List.getElem?_eq_getElem _
  obtain ⟨u,q1,q2⟩:=hc _ _ (h3.trans h4)
  refine ⟨u,q1,oneC_VR q2 ?_,fun v hv=>by rw [h4] at hv; cases hv; exact q2⟩
  exact allOne_mem h2.2 (List.getElem_mem _)
 obtain ⟨m,hm⟩ : ∃ m,its.length=m:=⟨_,rfl⟩
 rw [hm] at hpos hlen hfl ⊢
 clear hv1 e1
 haveI:Inhabited (Fin m):=⟨⟨0,hpos⟩⟩
 let enc:Fin m→List Value:=fun i=>(List.range k).map fun t=>c0[o+(i.val * k+t)]!
 have henc:∀ i:Fin m,(enc i).length=k:=fun i=>by simp [enc]
 have henct:∀ (i:Fin m) (t:Nat),t < k→((enc i)[t]!)=c0[o+(i.val * k+t)]!:=fun i t ht=>by simp [enc,ht]
 have hget:∀ {j:Nat} {u:Value},c0[j]?=some u→(c0[j]!)=u:=fun {j u} h=>by
  obtain ⟨hl,e⟩:=Array.getElem?_eq_some_iff.1 h
  rw [getElem!_pos c0 j hl,e]
 let d:Array (Fin m):=Array.ofFn fun i=>i
 have hds:d.size=m:=by simp [d]
 have hdi:∀ i (hi:i < m),(d[i]!)=⟨i,hi⟩:=fun i hi=>by simp [d,hi]
 have hone1:∀ x:Fin m,∀ v∈enc x,v.oneCell'=true:=by
  intro x v hv
  obtain ⟨t,ht,rfl⟩:=List.mem_map.1 hv
  obtain ⟨u,q1,q2,_⟩:=hcell x.val (by rw [hm]; exact x.isLt) t (List.mem_range.1 ht)
  rw [hget q1,one_eq]; exact q2
 have hH:HoldsK enc k w b o d:=by
  intro j hj
  rw [size_flatK,hds] at hj
  have hjm:j / k < m:=Nat.div_lt_of_lt_mul (by rw [Nat.mul_comm]; exact hj)
  have hjk:j % k < k:=Nat.mod_lt _ hk0
  obtain ⟨u,q1,_,_⟩:=hcell (j / k) (by rw [hm]; exact hjm) (j % k) hjk
  have hjj:j / k * k+j % k=j:=by rw [Nat.mul_comm]; exact Nat.div_add_mod j k
  rw [hjj] at q1
  rw [get_flatK _ _ _ _ (by rw [hds]; exact hj),hdi _ hjm,henct _ _ hjk,hjj,hget q1]
  exact ⟨cell_of hb q1,frozen_of hb (hfr _ (Array.getElem?_eq_some_iff.1 q1).1)⟩
 let cfF:Fin m→Fin m→Int:=fun x y=>cf x.val y.val
 have hOF:SWO (ltOf cfF):=⟨fun x=>hO.irrefl x.val,fun x y z=>hO.trans x.val y.val z.val,fun x y z=>hO.ntrans x.val y.val z.val⟩
 have hvrs:∀ x:Fin m,VRs ρ (its[x.val]'(by rw [hm]; exact x.isLt)) (enc x):=by
  intro x
  refine VRs.of_get (by rw [henc,(h1 _ (List.getElem_mem _)).1]) fun t v hv=>?_
  have htk:t < k:=by
   have:=(List.getElem?_eq_some_iff.1 hv).1
   rw [(h1 _ (List.getElem_mem _)).1] at this
   exact this
  obtain ⟨u,q1,_,q3⟩:=hcell x.val (by rw [hm]; exact x.isLt) t htk
  exact ⟨u,by rw [List.getElem?_map,List.getElem?_range htk]; exact congrArg some (hget q1),q3 v hv⟩
 have hC:CmpLays P c #[] enc k cfF b o d.size w:=by
  intro m2 os dk hdk x y
  have hsW:=froz_sim s hg hr (W:=sortWorldK enc k w b o m2 dk os) (fun j hj hne=>sw_other hj hne) (by rw [sw_size]; exact Nat.le_add_right _ _)
  have hcall:=hcmp x.val y.val (by rw [hm]; exact x.isLt) (by rw [hm]; exact y.isLt) _ ρ #[.agg (enc x).toArray,.agg (enc y).toArray] _ hsW ⟨_,_,rfl,⟨_,rfl,by simpa using hvrs x⟩,_,_,rfl,⟨_,rfl,by simpa using hvrs y⟩,rfl⟩
  refine Calls.mono (by simpa using hcall) ?_
  rintro e w' ⟨r,⟨g',n',rfl⟩,hcp⟩
  cases e with
  | returned u =>
   obtain ⟨ρ',q1,q2,q3,q4⟩:=hcp
   refine ⟨?_,grow_of q1.below q1.keeps.2⟩
   have:u=_:=q3
   rw [this]
  | _=>exact hcp.elim
 have hmain:=AnyQ.slices_SortFunc L k aE zE enc henc hone1 cfF hOF c #[] b o cap d w ec hC hH hlt (by rw [hds]; omega)
 rw [hds] at hmain
 refine hmain.mono ?_
 rintro e' w' ⟨rfl,d',n2,os,hp,hsrt,rfl⟩
 have hds' : d'.size=m:=by rw [hp.1,hds]
 have hperm:d'.toList.Perm d.toList:=by
  have:=hp.2.2
  rwa [show d'.extract 0 m=d' from (congrArg (fun z=>d'.extract 0 z) hds'.symm).trans Array.extract_size,show d.extract 0 m=d from (congrArg (fun z=>d.extract 0 z) hds.symm).trans Array.extract_size] at this
 have hdl:d.toList.map Fin.val=List.range m:=by
  apply List.ext_getElem
  ·simp [d]
  ·intro i h2 h3; simp [d]
 have hil:(d'.toList.map Fin.val).length=m:=by simp [hds']
 have hisq:∀ q (hq:q < m),(d'.toList.map Fin.val)[q]'(by rw [hil]; exact hq)=(d'[q]!).val:=by
  intro q hq; simp [hds',hq]
 refine ⟨_,⟨d'.toList.map Fin.val,hdl ▸ hperm.map _,fun i j hij hj=>?_,rfl⟩,?_⟩
 ·rw [hil] at hj
  rw [hisq j hj,hisq i (by omega)]
  have:=hsrt i j (Nat.zero_le _) hij hj
  unfold ltOf at this
  simpa [cfF] using this
 ·have hnl:((d'.toList.map Fin.val).map fun i=>its.getD i []).flatten.length=m * k:=by
   rw [flatten_len (k:=k)]
   ·simp [hds']
   ·intro x hx
    obtain ⟨i,hi,rfl⟩:=List.mem_map.1 hx
    obtain ⟨q,_,rfl⟩:=List.mem_map.1 hi
    rw [List.getD_eq_getElem?_getD,List.getElem?_eq_getElem (by rw [hm]; exact q.isLt)]
    exact (h1 _ (List.getElem_mem _)).1
  have hkd:KD w (sortWorldK enc k w b o n2 d' os):=⟨fun j ob hj ho=>by
   have hjl:=(Array.getElem?_eq_some_iff.1 hj).1
   by_cases hjb:j=b
   ·subst hjb; rw [hb] at hj; cases hj; cases ho
   ·rw [sw_other hjl hjb]; exact hj,Nat.le_add_right _ _⟩
  have hbel:Below B w (sortWorldK enc k w b o n2 d' os):=⟨rfl,rfl,rfl,by rw [sw_size]; exact Nat.le_add_right _ _,fun j hj=>sw_other (Nat.lt_of_lt_of_le hj s.base) (by omega)⟩
  refine ⟨ρ,⟨fun _ _=>rfl,hkd,hbel⟩,?_,⟨_,rfl,rfl⟩,Nat.le_refl _⟩
  refine Sim.set (H:=⟨.fn g,n⟩) s (x:=.cells its.flatten true z) (y:=.cells ((d'.toList.map Fin.val).map fun i=>its.getD i []).flatten true z) hg hr rfl rfl (by rw [sw_size]; exact Nat.le_add_right _ _) (fun j hne hj=>sw_other hj hne) ?_
  refine ⟨_,e,fz,sw_self hb,fun i v hv=>?_,fun _=>⟨hBb,fun j hj=>hfr j (by simpa [putCells] using hj),by simpa [putCells] using hsz0,?_⟩⟩
  ·have hi:i < m * k:=by
    have:=(List.getElem?_eq_some_iff.1 hv).1
    rw [hnl] at this; exact this
   have hq:i / k < m:=Nat.div_lt_of_lt_mul (by rw [Nat.mul_comm]; exact hi)
   have ht:i % k < k:=Nat.mod_lt _ hk0
   have hjj:i / k * k+i % k=i:=by rw [Nat.mul_comm]; exact Nat.div_add_mod i k
   obtain ⟨u0,p1,_,_⟩:=hcell (i / k) (by rw [hm]; exact hq) (i % k) ht
   rw [hjj] at p1
   obtain ⟨u,q1,_,q3⟩:=hcell (d'[i / k]!).val (by rw [hm]; exact (d'[i / k]!).isLt) (i % k) ht
   refine ⟨u,?_,q3 v ?_⟩
   ·unfold putCells
    rw [Array.getElem?_mapIdx,p1,Option.map_some,if_pos ⟨by omega,by rw [size_flatK,hds']; omega⟩,Nat.add_sub_cancel_left,get_flatK _ _ _ _ (by rw [hds']; exact hi),henct _ _ ht,hget q1]
    rfl
   ·have h5:=flatten_at (k:=k) ((d'.toList.map Fin.val).map fun i=>its.getD i []) (fun x hx=>by
     obtain ⟨i,hi,rfl⟩:=List.mem_map.1 hx
     obtain ⟨q,_,rfl⟩:=List.mem_map.1 hi
     rw [List.getD_eq_getElem?_getD,List.getElem?_eq_getElem (by rw [hm]; exact q.isLt)]
     exact (h1 _ (List.getElem_mem _)).1) (i / k) (by simp [hds']; exact hq) (i % k) ht
    rw [hjj,hv] at h5
    have hgd:its.getD (d'[i / k]!).val []=its[(d'[i / k]!).val]'(by rw [hm]; exact (d'[i / k]!).isLt):=by
     rw [List.getD_eq_getElem?_getD,List.getElem?_eq_getElem (by rw [hm]; exact (d'[i / k]!).isLt)]; rfl
    rw [h5,List.getElem_map,hisq _ hq,hgd]
  ·rcases hz0 with h | h
   ·exact .inl h
   ·right; rw [hnl]; rw [hfl] at h; exact h
end Go.Ai
end
