/- A small verified interpreter over names, its proofs, and what was proved with it. No condition. -/
import Derived.OpenShut
import Derived.ChangeArms
import Derived.DataReads
import Derived.LaidMore
import Derived.LaidLaws
import Derived.Test.YtfhkfifjbgcpiaaDoorPA2
import Derived.Test.YtfhkfifjbgcpiaaDoorPA1
set_option linter.all false
set_option linter.deprecated false
section
namespace Go.Ai
open Go.RowKit (Below)
@[reducible] def star:String:=String.ofList [Char.ofNat 42]
def typeOf (P:Program) (name:String) : Option TypeId :=
  match (List.range P.types.size).find? fun u=>decide (P.typeName? 3 u=some name) with
  | some tp=>match decide (name=star++String.ofList name.toList.tail) &&
      ((List.range P.types.size).all fun u=>P.typeName? 3 u != some (star++String.ofList name.toList.tail) || u == tp) &&
      ((List.range P.types.size).all fun e=>P.typeName? 2 e != some (String.ofList name.toList.tail) || (match (P.info? e).map (·.desc) with | some (TypeDesc.named _ _)=>true | _=>false)) &&
      decide ((String.ofList name.toList.tail).toList.head?≠some (Char.ofNat 42)) with
    | true=>some tp
    | false=>none
  | none=>none
noncomputable def newD (a:List AV) (m:Mem) (v:Nat→AV) : Option (List AV×Mem) :=
  match a with
  | []=>none
  | _=>some ([v m.next],m.add (.cells a false 0))
noncomputable def mkL {α:Type} (f:α→Mem→Option (List AV×Mem)) (sz:Nat) : List α→Mem→Option (List AV×Mem)
  | [],m=>some ([],m)
  | d :: ds,m=>match f d m with
    | some (a,m)=>match mkL f sz ds m with
      | some (b,m)=>match Nat.beq a.length sz with | true=>some (a++b,m) | false=>none
      | none=>none
    | none=>none
noncomputable def mkF {α:Type} (f:TypeId→α→Mem→Option (List AV×Mem)) (sz:TypeId→Nat) (tot:Nat) : Nat→List Field→List α→Mem→Option (List AV×Mem)
  | k,[],[],m=>match Nat.beq k tot with | true=>some ([],m) | false=>none
  | k,fd :: fs,d :: ds,m=>match f fd.type d m with
    | some (a,m)=>match mkF f sz tot (k+sz fd.type) fs ds m with
      | some (b,m)=>match Nat.beq a.length (sz fd.type) && Nat.beq fd.offset k with | true=>some (a++b,m) | false=>none
      | none=>none
    | none=>none
  | _,_,_,_=>none
noncomputable def mkD {Hh:Type} (P:Program) (tok:Hh→Option FuncId) : Nat→TypeId→DataW Hh→Mem→Option (List AV×Mem)
  | 0,_,_,_=>none
  | n+1,t,d,m=>match P.underlying t,d with
    | some .bool,.lit (.bool b)=>some ([.lit (.bool b)],m)
    | some (.int _),.lit (.int k x)=>some ([.lit (.int k x)],m)
    | some .string,.lit (.string bs)=>some ([.lit (.string ⟨bs.toArray⟩)],m)
    | some (.pointer _),.nil=>some ([.lit (.pointer none)],m)
    | some (.pointer e),.ptr d=>match mkD P tok n e d m with
      | some (a,m)=>newD a m (fun x=>.ptr x 0)
      | none=>none
    | some (.slice _),.nil=>some ([.lit (.slice none 0 0)],m)
    | some (.slice e),.slice es sp=>match es++sp with
      | []=>some ([.es],m)
      | _=>match mkL (mkD P tok n e) (P.cellsOf e) (es++sp) m with
        | some (a,m)=>newD a m (fun x=>.sl x 0 es.length (es.length+sp.length))
        | none=>none
    | some (.struct fs),.agg ds=>mkF (fun t d m=>mkD P tok n t d m) P.cellsOf (P.cellsOf t) 0 fs.toList ds m
    | some (.array k e),.agg ds=>match Nat.beq ds.length k && Nat.beq (k * P.cellsOf e) (P.cellsOf t) with
      | true=>mkL (mkD P tok n e) (P.cellsOf e) ds m
      | false=>none
    | some (.interface _),.nil=>some ([.lit .nilIface],m)
    | some (.interface _),.iface name d=>match typeOf P name with
      | some u=>match P.underlying u with
        | some (.pointer _)=>match mkD P tok n u d m with
          | some ([a],m)=>some ([.iface u a],m)
          | _=>none
        | _=>none
      | none=>none
    | some (.func _ _ _),.nil=>some ([.lit .nilFunc],m)
    | some (.func _ _ _),.held h=>match tok h with
      | some f=>some ([.lit (.func (.func f) #[] #[])],m)
      | none=>none
    | some (.map _ _),.nil=>some ([.lit (.map none)],m)
    | _,_=>none
def NoOwn (H:Mem) : Prop:=∀ a x,H.get a=some x→x.own=false
variable {B G:Nat} {P:Program} {ρ ρ' : Rn} {H H' : Mem} {w:World} {Hh:Type}
theorem Sim.see (s:Sim B G ρ H w) (hno:NoOwn H) {x:Blk} {b o k:Nat} (hown:x.own=false) (hx:BR B (upd ρ H.next (b,o,k)) x b o k w) : Sim B G (upd ρ H.next (b,o,k)) (H.add x) w:=by
  have hsub:=sub_upd (x:=(b,o,k)) s.none
  refine ⟨?_,?_,?_,?_,Nat.le_succ_of_le s.names,s.base⟩
  · intro a y hy
    rcases Mem.get_add hy with ⟨rfl,rfl⟩ | ⟨hne,hy⟩
    · exact .inr ⟨b,o,k,upd_same _ _ _,hx⟩
    · rw [upd_ne _ _ hne]
      rcases s.blk a y hy with hn | ⟨b',o',k',hr,hb⟩
      · exact .inl hn
      · exact .inr ⟨b',o',k',hr,hb.mono hsub rfl⟩
  · intro a a' y y' b1 o1 k1 o2 k2 h h' hne ho hr hr'
    rcases Mem.get_add h with ⟨e1,e2⟩ | ⟨hn1,g⟩
    · subst e2; rw [hown] at ho; cases ho
    · rw [hno a y g] at ho; cases ho
  · intro a ha
    have h1:H.next+1≤a:=ha
    rw [upd_ne _ _ (by omega)]
    exact s.fresh a (by omega)
  · intro a y ha hy
    have hlt:=s.names
    rcases Mem.get_add hy with ⟨rfl,rfl⟩ | ⟨hne,hy⟩
    · omega
    · rw [upd_ne _ _ hne]; exact s.glob a y ha hy
theorem NoOwn.add (h:NoOwn H) {x:Blk} (hx:x.own=false) : NoOwn (H.add x):=by
  intro a y hy
  rcases Mem.get_add hy with ⟨_,rfl⟩ | ⟨_,hy⟩
  · exact hx
  · exact h a y hy
structure Made (B G:Nat) (ρ:Rn) (H:Mem) (w:World) (avs:List AV) (H' : Mem) (cs:List Value) (ρ' : Rn) : Prop where
  same:∀ a,a < H.next→ρ' a=ρ a
  sim:Sim B G ρ' H' w
  no:NoOwn H'
  vals:VRs ρ' avs cs
  le:H.next≤H'.next
theorem Made.sub {avs:List AV} {cs:List Value} (h:Made B G ρ H w avs H' cs ρ') (s:Sim B G ρ H w) : Sub ρ ρ':=by
  intro a x hx
  rw [h.same a (s.lt_next hx)]; exact hx
theorem Made.pure (s:Sim B G ρ H w) (hno:NoOwn H) {avs:List AV} {cs:List Value} (h:VRs ρ avs cs) : Made B G ρ H w avs H cs ρ:=⟨fun _ _=>rfl,s,hno,h,Nat.le_refl _⟩
theorem cells_at {base:Nat} {a:Addr} {n:Nat} {cs:List Value} (h:w.cells? base a n=some cs) : cs.length=n∧∀ i,i < n→w.cell? (a.add i)=cs[i]?:=by
  exact (World.cells?_some h).2
theorem spot_of_cell {a:Addr} {v:Value} (h:w.cell? a=some v) : a.spot=none:=by
  unfold World.cell? at h
  split at h
  · split at h
    · cases h
    · rename_i hs; simpa using hs
  · cases h
theorem br_of_cells {l:List AV} {cs:List Value} {b o k:Nat} (hl:VRs ρ l cs) (hne:cs≠[]) (hc:∀ i,i < cs.length→w.cell? ⟨b,o+i,none⟩=cs[i]?) : BR B ρ (.cells l false 0) b o k w:=by
  have h0:0 < cs.length:=List.length_pos_iff.2 hne
  have hb:∃ c e fz,w.heap[b]?=some (.cells c e fz):=by
    have:=hc 0 h0
    rw [List.getElem?_eq_getElem h0] at this
    unfold World.cell? at this
    split at this
    · rename_i c e fz hh; exact ⟨c,e,fz,hh⟩
    · cases this
  obtain ⟨c,e,fz,hh⟩:=hb
  refine ⟨c,e,fz,hh,fun i v hi=>?_,fun h=>by cases h⟩
  obtain ⟨u,hu,hv⟩:=hl.get i hi
  have hlt:i < cs.length:=(List.getElem?_eq_some_iff.1 hu).1
  have:=hc i hlt
  rw [hu] at this
  unfold World.cell? at this
  dsimp only at this
  rw [hh] at this
  exact ⟨u,by simpa using this,hv⟩
theorem Addr.add_eq {b o i:Nat} : (Addr.mk b o none).add i=⟨b,o+i,none⟩:=by
  unfold Addr.add
  split
  · subst_vars; rfl
  · rfl
theorem mkL_sound {α:Type} {f:α→Mem→Option (List AV×Mem)} {sz:Nat} : ∀ (ds:List α) (css:List (List Value)) (H:Mem) (avs:List AV) (H' : Mem) (ρ:Rn),
    css.length=ds.length→(∀ (i:Nat) d ci,ds[i]?=some d→css[i]?=some ci→∀ H avs H' ρ,Sim B G ρ H w→NoOwn H→f d H=some (avs,H')→∃ ρ',Made B G ρ H w avs H' ci ρ') →
    Sim B G ρ H w→NoOwn H→mkL f sz ds H=some (avs,H')→(∃ ρ',Made B G ρ H w avs H' css.flatten ρ')∧∀ c∈css,c.length=sz
  | [],css,H,avs,H',ρ,hl,_,s,hno,h=>by
    simp [mkL] at h
    obtain ⟨rfl,rfl⟩:=h
    have:css=[]:=List.length_eq_zero_iff.1 (by simpa using hl)
    subst this
    exact ⟨⟨ρ,.pure s hno rfl⟩,fun c hc=>by cases hc⟩
  | d :: ds,css,H,avs,H',ρ,hl,hf,s,hno,h=>by
    cases css with
    | nil=>simp at hl
    | cons c css =>
    unfold mkL at h
    split at h
    · rename_i a m1 h1
      split at h
      · rename_i b m2 h2
        split at h
        · rename_i hb
          simp only [Option.some.injEq,Prod.mk.injEq] at h
          obtain ⟨rfl,rfl⟩:=h
          obtain ⟨ρ1,M1⟩:=hf 0 d c rfl rfl H a m1 ρ s hno h1
          obtain ⟨⟨ρ2,M2⟩,hlen⟩:=mkL_sound ds css m1 b m2 ρ1 (by simpa using hl) (fun i d' ci hd hc=>hf (i+1) d' ci (by simpa using hd) (by simpa using hc)) M1.sim M1.no h2
          refine ⟨⟨ρ2,fun x hx=>(M2.same x (Nat.lt_of_lt_of_le hx M1.le)).trans (M1.same x hx),M2.sim,M2.no,?_,Nat.le_trans M1.le M2.le⟩,?_⟩
          · rw [List.flatten_cons]
            exact (M1.vals.mono (M2.sub M1.sim)).append M2.vals
          · intro c' hc'
            rcases List.mem_cons.1 hc' with rfl | hc'
            · rw [M1.vals.length,Nat.eq_of_beq_eq_true hb]
            · exact hlen c' hc'
        · cases h
      · cases h
    · cases h
theorem mkF_sound {α:Type} {f:TypeId→α→Mem→Option (List AV×Mem)} {sz:TypeId→Nat} {cs:List Value} : ∀ (fs:List Field) (ds:List α) (k:Nat) (H:Mem) (avs:List AV) (H' : Mem) (ρ:Rn),
    (∀ (i:Nat) fd d,fs[i]?=some fd→ds[i]?=some d→∀ H avs H' ρ,Sim B G ρ H w→NoOwn H→f fd.type d H=some (avs,H')→∃ ρ',Made B G ρ H w avs H' ((cs.drop fd.offset).take (sz fd.type)) ρ') →
    Sim B G ρ H w→NoOwn H→mkF f sz cs.length k fs ds H=some (avs,H')→∃ ρ',Made B G ρ H w avs H' (cs.drop k) ρ'
  | [],[],k,H,avs,H',ρ,_,s,hno,h=>by
    unfold mkF at h
    split at h
    · rename_i hk
      simp only [Option.some.injEq,Prod.mk.injEq] at h
      obtain ⟨rfl,rfl⟩:=h
      rw [Nat.eq_of_beq_eq_true hk,List.drop_length]
      exact ⟨ρ,.pure s hno rfl⟩
    · cases h
  | fd :: fs,d :: ds,k,H,avs,H',ρ,hf,s,hno,h=>by
    unfold mkF at h
    split at h
    · rename_i a m1 h1
      split at h
      · rename_i b m2 h2
        split at h
        · rename_i hb
          simp only [Bool.and_eq_true] at hb
          simp only [Option.some.injEq,Prod.mk.injEq] at h
          obtain ⟨rfl,rfl⟩:=h
          have hoff:=Nat.eq_of_beq_eq_true hb.2
          have hal:=Nat.eq_of_beq_eq_true hb.1
          obtain ⟨ρ1,M1⟩:=hf 0 fd d rfl rfl H a m1 ρ s hno h1
          obtain ⟨ρ2,M2⟩:=mkF_sound fs ds (k+sz fd.type) m1 b m2 ρ1 (fun i fd' d' hfd hd=>hf (i+1) fd' d' (by simpa using hfd) (by simpa using hd)) M1.sim M1.no h2
          refine ⟨ρ2,fun x hx=>(M2.same x (Nat.lt_of_lt_of_le hx M1.le)).trans (M1.same x hx),M2.sim,M2.no,?_,Nat.le_trans M1.le M2.le⟩
          have h3:=(M1.vals.mono (M2.sub M1.sim)).append M2.vals
          have h4:=M1.vals.length
          rw [hoff] at h3
          rw [← List.take_append_drop (sz fd.type) (cs.drop k),List.drop_drop]
          exact h3
        · cases h
      · cases h
    · cases h
  | [],_ :: _,_,_,_,_,_,_,_,_,h=>by simp [mkF] at h
  | _ :: _,[],_,_,_,_,_,_,_,_,h=>by simp [mkF] at h
theorem chunks {sz:Nat} : ∀ (n:Nat) (cs:List Value),cs.length=n * sz→((List.range n).map fun i=>(cs.drop (i * sz)).take sz).flatten=cs
  | 0,cs,h=>by simp at h; simp [h]
  | n+1,cs,h=>by
    rw [List.range_succ_eq_map,List.map_cons,List.flatten_cons,List.map_map]
    have hr:=chunks (sz:=sz) n (cs.drop sz) (by rw [List.length_drop,h,Nat.succ_mul]; omega)
    have:((List.range n).map ((fun i=>(cs.drop (i * sz)).take sz) ∘ Nat.succ))=(List.range n).map fun i=>((cs.drop sz).drop (i * sz)).take sz:=by
      refine List.map_congr_left fun i _=>?_
      simp only [Function.comp,List.drop_drop,Nat.succ_mul,Nat.succ_eq_add_one,Nat.add_mul,Nat.one_mul]
      rw [Nat.add_comm]
    rw [this,hr]
    simp
theorem flat_cells {sz b:Nat} : ∀ (css:List (List Value)) (o:Nat),(∀ c∈css,c.length=sz)→(∀ i c,css[i]?=some c→∀ r,r < sz→w.cell? ⟨b,o+i * sz+r,none⟩=c[r]?) →
    ∀ j,j < css.flatten.length→w.cell? ⟨b,o+j,none⟩=css.flatten[j]?
  | [],_,_,_,j,hj=>by simp at hj
  | c :: css,o,hl,h,j,hj=>by
    rw [List.flatten_cons] at hj ⊢
    have hc:=hl c (by simp)
    rcases Nat.lt_or_ge j sz with h1 | h1
    · have:=h 0 c rfl j h1
      rw [List.getElem?_append_left (by omega)]
      rw [← this]; congr 2; omega
    · rw [List.getElem?_append_right (by omega)]
      have:=flat_cells css (o+sz) (fun c' hc'=>hl c' (by simp [hc'])) (fun i c' hi r hr=>by
        have:=h (i+1) c' (by simpa using hi) r hr
        rw [← this]; congr 2; rw [Nat.succ_mul]; omega) (j - c.length) (by rw [List.length_append] at hj; omega)
      rw [← this]; congr 2; omega
def TokOK {Hh:Type} (enc:TypeId×Value→Hh) (tok:Hh→Option FuncId) : Prop:=∀ t v f,tok (enc (t,v))=some f→v=.func (.func f) #[] #[]
def IfOK (P:Program) (w:World) (cs:List Value) (ps:List MemPlace) : Prop :=
  (∀ u v,Value.iface u v∈cs→Value.okWide P w .any 0 u v)∧∀ b off,MemPlace.cell b off∈ps→∀ u v,w.cell? ⟨b,off,none⟩=some (.iface u v)→Value.okWide P w .any 0 u v
theorem newD_sound {H2:Mem} {l:List AV} {cs:List Value} {avs:List AV} {g:Nat→AV} {b o:Nat} {us:List Value} (s:Sim B G ρ H w) (M:Made B G ρ H w l H' cs ρ') (h:newD l H' g=some (avs,H2))
    (hc:∀ i,i < cs.length→w.cell? ⟨b,o+i,none⟩=cs[i]?) (hg:∀ ρ2,ρ2 H'.next=some (b,o,0)→VRs ρ2 [g H'.next] us) : ∃ ρ2,Made B G ρ H w avs H2 us ρ2:=by
  cases l with
  | nil=>cases h
  | cons x l =>
    simp only [newD,Option.some.injEq,Prod.mk.injEq] at h
    obtain ⟨rfl,rfl⟩:=h
    have hne:cs≠[]:=by rintro rfl; have:=M.vals.length; simp at this
    refine ⟨upd ρ' H'.next (b,o,0),fun a ha=>?_,M.sim.see M.no rfl ?_,M.no.add rfl,hg _ (upd_same _ _ _),Nat.le_succ_of_le M.le⟩
    · rw [upd_ne _ _ (by have:=M.le; omega)]; exact M.same a ha
    · exact br_of_cells (M.vals.mono (sub_upd M.sim.none)) hne hc
theorem if_row {a:Addr} {k:Nat} {cs' : List Value} (hcl:w.cells? 0 a k=some cs') (h:∀ b off,MemPlace.cell b off∈MemPlace.row a k→∀ u v,w.cell? ⟨b,off,none⟩=some (.iface u v)→Value.okWide P w .any 0 u v) :
    ∀ u v,Value.iface u v∈cs'→Value.okWide P w .any 0 u v:=by
  intro u v hm
  obtain ⟨hlen,hcell⟩:=cells_at hcl
  obtain ⟨i,hi,e⟩:=List.mem_iff_getElem.1 hm
  have hci:=hcell i (by omega)
  rw [List.getElem?_eq_getElem hi,e] at hci
  obtain ⟨b,o,spt⟩:=a
  have hspot:spt=none:=by
    have h0:=hcell 0 (by omega)
    rw [List.getElem?_eq_getElem (by omega)] at h0
    exact spot_of_cell h0
  subst hspot
  rw [Addr.add_eq] at hci
  refine h b (o+i) ?_ u v hci
  unfold MemPlace.row
  exact List.mem_map.2 ⟨i,by simp; omega,rfl⟩
theorem row_part {a:Addr} {i k sz n:Nat} {b off:Nat} (hi:i < n) (h:MemPlace.cell b off∈MemPlace.row (a.add (i * sz)) sz) : MemPlace.cell b off∈MemPlace.row a (n * sz):=by
  unfold MemPlace.row at h ⊢
  obtain ⟨j,hj,e⟩:=List.mem_map.1 h
  have hj' : j < sz:=by simpa using hj
  have hb:(a.add (i * sz)).block=a.block:=by unfold Addr.add; split <;> rfl
  have ho:(a.add (i * sz)).off=a.off+i * sz:=by
    unfold Addr.add
    split
    · rename_i h0; rw [h0]; rfl
    · rfl
  rw [hb,ho] at e
  refine List.mem_map.2 ⟨i * sz+j,?_,by rw [← e,Nat.add_assoc]⟩
  have:(i+1) * sz≤n * sz:=Nat.mul_le_mul_right _ hi
  rw [Nat.succ_mul] at this
  simp; omega
theorem VRs.singleton {x:AV} {v:Value} (h:VR ρ x v) : VRs ρ [x] [v]:=⟨v,[],rfl,h,rfl⟩
theorem typeOf_sound {name:String} {u v:TypeId} (h:typeOf P name=some u) (hv:P.typeName? 3 v=some name) : v=u:=by
  unfold typeOf at h
  split at h
  · rename_i x hx
    split at h
    · rename_i hb
      cases h
      simp only [Bool.and_eq_true,decide_eq_true_eq] at hb
      obtain ⟨⟨⟨h1,h2⟩,h3⟩,h4⟩:=hb
      rw [h1] at hv
      exact typeName_ptr_named h2 h3 h4 v hv
    · cases h
  · cases h
theorem okWide_pointer {u e:TypeId} {v:Value} (hu:P.underlying u=some (.pointer e)) (h:Value.okWide P w .any 0 u v) : v.cells.toList=[v]:=by
  cases v <;> first | rfl | skip
  exfalso
  simp only [Value.okWide,hu,Cell.okWide,Cell.ok] at h
theorem trod_iface {enc:TypeId×Value→Hh} {sp:Nat→Bool} {held:Bool} {m:Nat} {t:TypeId} {cs:List Value} {name:String} {d:DataW Hh} {ps:List MemPlace} {ms:Array (String×TypeId)} (ht:P.underlying t=some (.interface ms))
    (h:DataW.trod enc P w 0 sp held m t cs=some (.iface name d,ps)) : ∃ u v k,cs=[.iface u v]∧held=false∧P.typeName? 3 u=some name∧DataW.trod enc P w 0 sp held k u v.cells.toList=some (d,ps):=by
  cases m with
  | zero=>simp [DataW.trod] at h
  | succ k =>
    unfold DataW.trod at h
    rw [ht] at h
    split at h <;> simp_all
    rename_i u v _
    cases held with
    | true=>simp at h
    | false =>
      cases hn:P.typeName? 3 u with
      | none=>rw [hn] at h; simp at h
      | some nm =>
        rw [hn] at h
        simp only [Option.map_eq_some_iff] at h
        obtain ⟨x,hx,e⟩:=h
        cases e
        exact ⟨u,v,⟨rfl,rfl⟩,rfl,hn,k,hx⟩
theorem trod_iface_nil {enc:TypeId×Value→Hh} {sp:Nat→Bool} {held:Bool} {m:Nat} {t:TypeId} {cs:List Value} {ps:List MemPlace} {ms:Array (String×TypeId)} (ht:P.underlying t=some (.interface ms))
    (h:DataW.trod enc P w 0 sp held m t cs=some (.nil,ps)) : cs=[.nilIface]:=by
  cases m with
  | zero=>simp [DataW.trod] at h
  | succ k =>
    unfold DataW.trod at h
    rw [ht] at h
    split at h <;> simp_all
    rename_i u v _
    exfalso
    cases held with
    | true=>simp at h
    | false =>
      cases hn:P.typeName? 3 u with
      | none=>rw [hn] at h; simp at h
      | some nm=>rw [hn] at h; simp at h
theorem trod_func_nil {enc:TypeId×Value→Hh} {sp:Nat→Bool} {held:Bool} {m:Nat} {t:TypeId} {cs:List Value} {ps:List MemPlace} {a b:Array TypeId} {c:Bool} (ht:P.underlying t=some (.func a b c))
    (h:DataW.trod enc P w 0 sp held m t cs=some (.nil,ps)) : cs=[.nilFunc]:=by
  cases m with
  | zero=>simp [DataW.trod] at h
  | succ k =>
    unfold DataW.trod at h
    rw [ht] at h
    split at h <;> simp_all
theorem trod_func_held {enc:TypeId×Value→Hh} {sp:Nat→Bool} {held:Bool} {m:Nat} {t:TypeId} {cs:List Value} {ps:List MemPlace} {a b:Array TypeId} {c:Bool} {x:Hh} (ht:P.underlying t=some (.func a b c))
    (h:DataW.trod enc P w 0 sp held m t cs=some (.held x,ps)) : ∃ v,cs=[v]∧enc (t,v)=x:=by
  cases m with
  | zero=>simp [DataW.trod] at h
  | succ k =>
    unfold DataW.trod at h
    rw [ht] at h
    split at h <;> simp_all
theorem trod_map_nil {enc:TypeId×Value→Hh} {sp:Nat→Bool} {held:Bool} {m:Nat} {t:TypeId} {cs:List Value} {ps:List MemPlace} {a b:TypeId} (ht:P.underlying t=some (.map a b))
    (h:DataW.trod enc P w 0 sp held m t cs=some (.nil,ps)) : cs=[.map none]:=by
  cases m with
  | zero=>simp [DataW.trod] at h
  | succ k =>
    unfold DataW.trod at h
    rw [ht] at h
    split at h <;> simp_all
    rename_i b
    exfalso
    split at h
    · rename_i es clock _
      split at h
      · rw [Option.bind_eq_some_iff] at h
        obtain ⟨en,_,h⟩:=h
        split at h <;> simp at h
      · cases h
    · cases h
theorem mkD_sound {enc:TypeId×Value→Hh} {tok:Hh→Option FuncId} {sp:Nat→Bool} (hsp:∀ b,sp b=true) {held:Bool} (htok:TokOK enc tok) : ∀ (n m:Nat) (t:TypeId) (cs:List Value) (d:DataW Hh) (ps:List MemPlace) (H:Mem) (avs:List AV) (H' : Mem) (ρ:Rn),
    DataW.trod enc P w 0 sp held m t cs=some (d,ps)→(held=false→IfOK P w cs ps)→Sim B G ρ H w→NoOwn H→mkD P tok n t d H=some (avs,H')→∃ ρ',Made B G ρ H w avs H' cs ρ'
  | 0,m,t,cs,d,ps,H,avs,H',ρ,_,_,_,_,h=>by simp [mkD] at h
  | n+1,m,t,cs,d,ps,H,avs,H',ρ,hr,hif,s,hno,h=>by
    have one:∀ {x:Value},cs=[x]→some ([AV.lit x],H)=some (avs,H')→∃ ρ',Made B G ρ H w avs H' cs ρ':=by
      intro x hcs h
      simp only [Option.some.injEq,Prod.mk.injEq] at h
      obtain ⟨rfl,rfl⟩:=h
      subst hcs
      exact ⟨ρ,.pure s hno ⟨x,[],rfl,rfl,rfl⟩⟩
    unfold mkD at h
    split at h
    · rename_i ht
      obtain ⟨b',hcs,hx⟩:=DataW.trod_bool ht hr
      cases hx
      exact one hcs h
    · rename_i ht
      obtain ⟨x',hcs,hx,_⟩:=DataW.trod_int ht hr
      cases hx
      exact one hcs h
    · rename_i ht
      obtain ⟨x',hcs,hx,_⟩:=DataW.trod_string ht hr
      cases hx
      exact one (by rw [hcs]) h
    · rename_i ht
      rcases DataW.trod_pointer ht hr with ⟨hcs,hx⟩ | ⟨a,cs',y,k,_,_,hx,_,_⟩
      · exact one hcs h
      · cases hx
    · rename_i ht
      rcases DataW.trod_pointer ht hr with ⟨hcs,hx⟩ | ⟨a,cs',y,k,_,hcs,hx,hcl,hy⟩
      · cases hx
      · split at h
        · rename_i l m1 hl
          cases hx
          obtain ⟨hlen,hcell⟩:=cells_at hcl
          obtain ⟨ρ1,M⟩:=mkD_sound hsp htok n k _ cs' _ _ H l m1 ρ hy (fun hh=>⟨if_row hcl fun b off hp=>(hif hh).2 b off (by simp [hp]),fun b off hp=>(hif hh).2 b off (by simp [hp])⟩) s hno hl
          have hne:0 < cs'.length:=by
            cases l with
            | nil=>cases h
            | cons x l=>have:=M.vals.length; simp at this; omega
          obtain ⟨b,o,spt⟩:=a
          have hs:=hcell 0 (by omega)
          rw [List.getElem?_eq_getElem hne] at hs
          have hspot:spt=none:=spot_of_cell hs
          subst hspot
          refine newD_sound (b:=b) (o:=o) s M h (fun i hi=>?_) fun ρ2 h2=>?_
          · rw [← hcell i (by omega),Addr.add_eq]
          · rw [hcs]; exact VRs.singleton ⟨b,o,0,h2,rfl⟩
        · cases h
    · rename_i ht
      rcases DataW.trod_slice ht hr with ⟨hcs,hx⟩ | ⟨a,len,cap,elems,rest,k,_,_,hx,_⟩
      · exact one hcs h
      · cases hx
    · rename_i e _ _ ht
      rcases DataW.trod_slice ht hr with ⟨hcs,hx⟩ | ⟨a,len,cap,elems,rest,k,_,hcs,hx,hb0,hlc,hcm,hlen,hel,hrs,_⟩
      · cases hx
      · obtain ⟨hrl,hre⟩:=hrs (hsp _)
        simp only [Prod.mk.injEq,DataW.slice.injEq] at hx
        obtain ⟨⟨rfl,rfl⟩,rfl⟩:=hx
        split at h
        · rename_i hnil
          simp only [Option.some.injEq,Prod.mk.injEq] at h
          obtain ⟨rfl,rfl⟩:=h
          have h0:elems.length=0:=by
            have h5:=congrArg List.length hnil
            rw [List.length_append,List.length_map,List.length_nil] at h5
            omega
          rw [hcs]
          refine ⟨ρ,.pure s hno (VRs.singleton ⟨a,cap,?_⟩)⟩
          rw [← hlen,h0]
        · split at h
          · rename_i l m1 hl
            have all:∀ i x,(elems++rest)[i]?=some x→∃ ci,w.cells? 0 (a.add (i * P.cellsOf e)) (P.cellsOf e)=some ci∧DataW.trod enc P w 0 sp held k e ci=some x:=by
              intro i x hi
              rcases Nat.lt_or_ge i elems.length with h1 | h1
              · rw [List.getElem?_append_left h1] at hi
                have:=hel i (by omega)
                rw [hi] at this
                obtain ⟨ci,h2,h3⟩:=Option.bind_eq_some_iff.1 this
                exact ⟨ci,h2,h3⟩
              · rw [List.getElem?_append_right h1] at hi
                have hlt:i - elems.length < rest.length:=(List.getElem?_eq_some_iff.1 hi).1
                have:=hre (i - elems.length) (by omega)
                rw [hi] at this
                obtain ⟨ci,h2,h3⟩:=Option.bind_eq_some_iff.1 this
                refine ⟨ci,?_,h3⟩
                rw [← h2]; congr 2; rw [← hlen,Nat.add_sub_cancel' h1]
            have hds:List.map (·.1) elems++List.map (·.1) rest=(elems++rest).map (·.1):=by simp
            rw [hds] at hl
            obtain ⟨⟨ρ1,M⟩,hsz⟩:=mkL_sound (B:=B) (G:=G) (w:=w) ((elems++rest).map (·.1)) ((List.range (elems++rest).length).map fun i=>(w.cells? 0 (a.add (i * P.cellsOf e)) (P.cellsOf e)).getD []) H l m1 ρ (by simp) (by
              intro i d ci hd hc H avs H' ρ s hno hmk
              rw [List.getElem?_map] at hd hc
              obtain ⟨x,hx,rfl⟩:=Option.map_eq_some_iff.1 hd
              obtain ⟨ci',h2,h3⟩:=all i x hx
              have hlt:i < (elems++rest).length:=(List.getElem?_eq_some_iff.1 hx).1
              rw [List.getElem?_range hlt] at hc
              simp only [Option.map_some,Option.some.injEq] at hc
              subst hc
              rw [h2,Option.getD_some]
              refine mkD_sound hsp htok n k e ci' x.1 x.2 H avs H' ρ h3 (fun hh=>⟨if_row h2 fun b off hp=>(hif hh).2 b off ?_,fun b off hp=>(hif hh).2 b off ?_⟩) s hno hmk
              · rw [List.mem_append]; left
                have:=row_part (n:=(elems++rest).length) (k:=0) hlt hp
                rw [List.length_append] at this; exact this
              · rw [List.mem_append]; right
                exact List.mem_flatMap.2 ⟨x,List.mem_of_getElem? hx,hp⟩) s hno hl
            have hpos:0 < (elems++rest).length:=by
              rcases Nat.eq_zero_or_pos (elems++rest).length with h0 | h0
              · exfalso
                rw [List.length_eq_zero_iff.1 h0] at hl
                simp only [List.map_nil,mkL,Option.some.injEq,Prod.mk.injEq] at hl
                rw [← hl.1] at h
                cases h
              · exact h0
            have hsz0:0 < P.cellsOf e:=by
              rcases Nat.eq_zero_or_pos (P.cellsOf e) with h0 | h0
              · exfalso
                have:((List.range (elems++rest).length).map fun i=>(w.cells? 0 (a.add (i * P.cellsOf e)) (P.cellsOf e)).getD []).flatten=[]:=by
                  rw [List.flatten_eq_nil_iff]
                  intro c hc
                  have:=hsz c hc
                  rw [h0] at this
                  exact List.length_eq_zero_iff.1 this
                have h2:=M.vals.length
                rw [this] at h2
                cases l with
                | nil=>cases h
                | cons x l=>simp at h2
              · exact h0
            have cellAt:∀ i,i < (elems++rest).length→∃ ci,w.cells? 0 (a.add (i * P.cellsOf e)) (P.cellsOf e)=some ci:=by
              intro i hi
              obtain ⟨ci,h2,_⟩:=all i _ (List.getElem?_eq_getElem hi)
              exact ⟨ci,h2⟩
            obtain ⟨b,o,spt⟩:=a
            have hspot:spt=none:=by
              obtain ⟨c0,h0⟩:=cellAt 0 hpos
              obtain ⟨hl0,hc0⟩:=cells_at h0
              have:=hc0 0 hsz0
              rw [List.getElem?_eq_getElem (by omega)] at this
              have:=spot_of_cell this
              simpa [Addr.add] using this
            subst hspot
            refine newD_sound (b:=b) (o:=o) s M h (fun j hj=>?_) fun ρ2 h2=>?_
            · refine flat_cells (sz:=P.cellsOf e) _ o hsz (fun i c hi r hr=>?_) j hj
              rw [List.getElem?_map] at hi
              obtain ⟨i',hi',rfl⟩:=Option.map_eq_some_iff.1 hi
              obtain ⟨hlt,e1⟩:=List.getElem?_eq_some_iff.1 hi'
              simp at e1
              subst e1
              obtain ⟨ci,h2⟩:=cellAt i (by simpa using hlt)
              rw [h2,Option.getD_some]
              obtain ⟨_,hc⟩:=cells_at h2
              rw [Addr.add_eq] at hc
              rw [← hc r hr,Addr.add_eq]
            · rw [hcs]
              refine VRs.singleton ⟨b,o,0,h2,by simp,?_⟩
              simp only [List.length_map]
              rw [hlen,hrl,Nat.add_sub_cancel' hlc]; rfl
          · cases h
    · rename_i ht
      obtain ⟨xs,k,_,hx,hlen,hxl,hel⟩:=DataW.trod_struct ht hr
      simp only [Prod.mk.injEq,DataW.agg.injEq] at hx
      obtain ⟨rfl,rfl⟩:=hx
      rw [← hlen] at h
      have:=mkF_sound (B:=B) (G:=G) (w:=w) (cs:=cs) _ _ 0 H avs H' ρ (fun i fd d hfd hd H avs H' ρ s hno hmk=>?_) s hno h
      · simpa using this
      · rw [List.getElem?_map] at hd
        obtain ⟨x,hx,rfl⟩:=Option.map_eq_some_iff.1 hd
        have h1:=hel i fd (by simpa using hfd)
        rw [hx] at h1
        exact mkD_sound hsp htok n k fd.type _ x.1 x.2 H avs H' ρ h1 (fun hh=>⟨fun u v hm=>(hif hh).1 u v (List.mem_of_mem_drop (List.mem_of_mem_take hm)),fun b off hp=>(hif hh).2 b off (List.mem_flatMap.2 ⟨x,List.mem_of_getElem? hx,hp⟩)⟩) s hno hmk
    · rename_i ht
      obtain ⟨xs,k,_,hx,hlen,hxl,hel⟩:=DataW.trod_array ht hr
      simp only [Prod.mk.injEq,DataW.agg.injEq] at hx
      obtain ⟨rfl,rfl⟩:=hx
      split at h
      · rename_i hb
        rename_i nn e _ _
        simp only [Bool.and_eq_true] at hb
        have htot:=Nat.eq_of_beq_eq_true hb.2
        obtain ⟨⟨ρ1,M⟩,hsz⟩:=mkL_sound (B:=B) (G:=G) (w:=w) (xs.map (·.1)) ((List.range nn).map fun i=>(cs.drop (i * P.cellsOf e)).take (P.cellsOf e)) H avs H' ρ (by simp [hxl]) (by
          intro i d ci hd hc H avs H' ρ s hno hmk
          rw [List.getElem?_map] at hd hc
          obtain ⟨x,hx,rfl⟩:=Option.map_eq_some_iff.1 hd
          have hlt:i < nn:=by rw [← hxl]; exact (List.getElem?_eq_some_iff.1 hx).1
          rw [List.getElem?_range hlt] at hc
          simp only [Option.map_some,Option.some.injEq] at hc
          subst hc
          have h1:=hel i hlt
          rw [hx] at h1
          exact mkD_sound hsp htok n k e _ x.1 x.2 H avs H' ρ h1 (fun hh=>⟨fun u v hm=>(hif hh).1 u v (List.mem_of_mem_drop (List.mem_of_mem_take hm)),fun b off hp=>(hif hh).2 b off (List.mem_flatMap.2 ⟨x,List.mem_of_getElem? hx,hp⟩)⟩) s hno hmk) s hno h
        rw [chunks nn cs (by rw [hlen,htot])] at M
        exact ⟨ρ1,M⟩
      · cases h
    · rename_i ht
      exact one (trod_iface_nil ht hr) h
    · rename_i ht
      obtain ⟨u,v,k,hcs,hh,hn,hy⟩:=trod_iface ht hr
      split at h
      · rename_i u' hu'
        have:=typeOf_sound hu' hn
        subst this
        split at h
        · rename_i e he
          split at h
          · rename_i a m1 hmk
            simp only [Option.some.injEq,Prod.mk.injEq] at h
            obtain ⟨rfl,rfl⟩:=h
            have hok:=(hif hh).1 u v (by rw [hcs]; simp)
            have hv:=okWide_pointer he hok
            rw [hv] at hy
            have hio:IfOK P w [v] ps:=by
              refine ⟨fun u2 v2 hm=>?_,(hif hh).2⟩
              exfalso
              have hm' : Value.iface u2 v2=v:=by simpa using hm
              rw [← hm'] at hok
              exact absurd hok (by simp [Value.okWide,he,Cell.okWide,Cell.ok])
            obtain ⟨ρ1,M⟩:=mkD_sound hsp htok n k u [v] _ ps H [a] m1 ρ hy (fun _=>hio) s hno hmk
            obtain ⟨x,xs,e1,hv1,e2⟩:=M.vals
            simp only [List.cons.injEq] at e1
            obtain ⟨rfl,rfl⟩:=e1
            rw [hcs]
            exact ⟨ρ1,M.same,M.sim,M.no,VRs.singleton ⟨_,rfl,hv1⟩,M.le⟩
          · cases h
        · cases h
      · cases h
    · rename_i ht
      exact one (trod_func_nil ht hr) h
    · rename_i ht
      obtain ⟨v,hcs,he⟩:=trod_func_held ht hr
      split at h
      · rename_i f hf
        have:=htok t v f (by rw [he]; exact hf)
        exact one (by rw [hcs,this]) h
      · cases h
    · rename_i ht
      exact one (trod_map_nil ht hr) h
    · cases h
end Go.Ai
end
section
namespace Go.Ai
open Go.RowKit (Below)
variable {B G:Nat} {P:Program} {ρ ρ' : Rn} {H H' : Mem} {w:World} {Hh:Type}
theorem Sim.glo (s:Sim B G ρ H w) (hno:NoOwn H) {g:Nat} {x:Blk} (hg:g < G) (hr:ρ g=some (g,0,0)) (hown:x.own=false) (hx:BR B ρ x g 0 0 w) : Sim B G ρ (H.upd g x) w:=by
  refine ⟨?_,?_,fun j hj=>s.fresh j hj,?_,s.names,s.base⟩
  · intro j z hz
    rcases Mem.get_upd hz with ⟨rfl,rfl⟩ | ⟨hne,hz⟩
    · exact .inr ⟨_,0,0,hr,hx⟩
    · exact s.blk j z hz
  · intro j j' z z' b1 o1 k1 o2 k2 h h' hne ho hr1 hr2
    rcases Mem.get_upd h with ⟨e1,e2⟩ | ⟨hn1,g1⟩
    · subst e2; rw [hown] at ho; cases ho
    · rw [hno j z g1] at ho; cases ho
  · intro j z hj hz
    rcases Mem.get_upd hz with ⟨rfl,rfl⟩ | ⟨hne,hz⟩
    · exact hr
    · exact s.glob j z hj hz
theorem NoOwn.upd (h:NoOwn H) {x:Blk} {g:Nat} (hx:x.own=false) : NoOwn (H.upd g x):=by
  intro a y hy
  rcases Mem.get_upd hy with ⟨_,rfl⟩ | ⟨_,hy⟩
  · exact hx
  · exact h a y hy
def funTok (P:Program) : List UInt8→Option FuncId
  | []=>none
  | b :: r=>match (List.range P.funcs.size).filter fun f=>(P.funcs[f]?).any (·.name.toUTF8.data.toList == b :: r) with
    | [f]=>some f
    | _=>none
theorem funTok_ok (P:Program) : TokOK (funcToken P) (funTok P):=by
  intro t v f h
  cases hk:funcToken P (t,v) with
  | nil=>rw [hk] at h; cases h
  | cons b r =>
    rw [hk] at h
    unfold funTok at h
    split at h
    · cases h
    · rename_i b' r' e
      cases e
      split at h
      · rename_i f' hone
        cases h
        obtain ⟨f0,fn,rfl,hf,_,hb⟩:=funcToken_tells hk
        have hm:f0∈(List.range P.funcs.size).filter fun f=>(P.funcs[f]?).any (·.name.toUTF8.data.toList == b :: r) :=
          List.mem_filter.2 ⟨List.mem_range.2 (Array.getElem?_eq_some_iff.1 hf).1,by rw [hf]; simpa using hb⟩
        rw [hone] at hm
        rw [List.mem_singleton.1 hm]
      · cases h
def noTok {Hh:Type} : Hh→Option FuncId:=fun _=>none
theorem noTok_ok (enc:TypeId×Value→Hh) : TokOK enc noTok:=fun _ _ _ h=>by cases h
noncomputable def setG (g:Nat) (r:Option (List AV×Mem)) : Option Mem:=match r with
  | some (a,m)=>some (m.upd g (.cells a false 0))
  | none=>none
noncomputable def layV (P:Program) (x:String×DataW Unit) (H:Mem) : Option Mem :=
  match P.globalNamed x.1 with
  | some g=>match (P.globals[g]?).map (·.type) with
    | some t=>match x.2 with
      | .iface "func table" d=>setG g (mkD P (funTok P) 64 t d.funcsOut H)
      | d=>setG g (mkD P noTok 64 t d H)
    | none=>none
  | none=>none
noncomputable def layG (P:Program) : List (String×DataW Unit)→Mem→Option Mem
  | [],H=>some H
  | x :: l,H=>match layV P x H with
    | some H=>layG P l H
    | none=>none
def GOk (G:Nat) (ρ:Rn) : Prop:=∀ g,g < G→ρ g=some (g,0,0)
def Laid1 (P:Program) (W:World) (x:String×DataW Unit) : Prop :=
  (∀ d,x.2=.iface "func table" d→funcsAt P W x.1 d) ∧
  ((∀ d,x.2≠.iface "func table" d)→∃ g t cs fuel p,P.globalNamed x.1=some g∧(P.globals[g]?).map (·.type)=some t∧W.var? P x.1=some cs ∧
    DataW.trod (fun _=>()) P W 0 (fun _=>true) false fuel t cs.toList=some (x.2,p)∧IfOK P W cs.toList p)
theorem laidVars_mem {W:World} : ∀ {l:List (String×DataW Unit)} {ps:List MemPlace},DataW.LaidVars P W l ps→∀ x∈l,∃ g t cs fuel p,P.globalNamed x.1=some g∧(P.globals[g]?).map (·.type)=some t∧W.var? P x.1=some cs ∧
    DataW.trod (fun _=>()) P W 0 (fun _=>true) false fuel t cs.toList=some (x.2,p)∧(∀ q∈MemPlace.row ⟨g,0,none⟩ cs.size,q∈ps)∧∀ q∈p,q∈ps
  | [],_,_,x,hx=>by cases hx
  | (n,d) :: r,ps,⟨g,t,cs,fuel,p,q,h1,h2,h3,h4,h5,h6⟩,x,hx=>by
    rcases List.mem_cons.1 hx with rfl | hx
    · exact ⟨g,t,cs,fuel,p,h1,h2,h3,h4,fun y hy=>by rw [h6]; simp [hy],fun y hy=>by rw [h6]; simp [hy]⟩
    · obtain ⟨g',t',cs',f',p',k1,k2,k3,k4,k5,k6⟩:=laidVars_mem h5 x hx
      exact ⟨g',t',cs',f',p',k1,k2,k3,k4,fun y hy=>by rw [h6]; simp [k5 y hy],fun y hy=>by rw [h6]; simp [k6 y hy]⟩
theorem laid1_of_met {W:World} {l:List (String×DataW Unit)} (h:laidMet P l W) {x:String×DataW Unit} (hx:x∈l) : ∃ g t cs fuel p,P.globalNamed x.1=some g∧(P.globals[g]?).map (·.type)=some t∧W.var? P x.1=some cs ∧
    DataW.trod (fun _=>()) P W 0 (fun _=>true) false fuel t cs.toList=some (x.2,p)∧IfOK P W cs.toList p:=by
  obtain ⟨ps,h1,_,h3⟩:=h
  obtain ⟨g,t,cs,f,p,k1,k2,k3,k4,k5,k6⟩:=laidVars_mem h1 x hx
  refine ⟨g,t,cs,f,p,k1,k2,k3,k4,fun u v hm=>?_,fun b off hp=>(h3 b off (k6 _ hp)).2⟩
  obtain ⟨i,hi,e⟩:=List.mem_iff_getElem.1 hm
  have hi' : i < cs.size:=by simpa using hi
  have hrow:MemPlace.cell g i∈MemPlace.row ⟨g,0,none⟩ cs.size:=by
    unfold MemPlace.row
    exact List.mem_map.2 ⟨i,by simp [hi'],by simp⟩
  refine (h3 g i (k5 _ hrow)).2 u v ?_
  rw [World.var?_cell k1 k3 i]
  simp at e
  rw [Array.getElem?_eq_getElem hi',e]
theorem laid1_of_metH {W:World} {l:List (String×DataW Unit)} (h:laidMetH P l W) (hk:(l.all fun x=>x.2.handleName?.isNone || x.2.funcsIn?.isSome)=true) : ∀ x∈l,Laid1 P W x:=by
  intro x hx
  refine ⟨fun d hd=>?_,fun hd=>?_⟩
  · obtain ⟨n,e⟩:=x
    dsimp only at hd
    subst hd
    exact h.funcs hx
  · have hnone:x.2.handleName?.isNone=true:=by
      have:=List.all_eq_true.1 hk x hx
      rcases Bool.or_eq_true _ _ ▸ this with h1 | h1
      · exact h1
      · exfalso
        obtain ⟨n,e⟩:=x
        cases e <;> first | (cases h1; done) | skip
        rename_i t e
        simp only [DataW.funcsIn?] at h1
        split at h1
        · rename_i ht
          have:t = "func table":=by simpa using ht
          subst this
          exact hd e rfl
        · cases h1
    unfold laidMetH at h
    split at h
    · exact laid1_of_met h hx
    · exact laid1_of_met h.1 (List.mem_filter.2 ⟨hx,hnone⟩)
theorem setG_sound {g:Nat} {avs:List AV} {cs:Array Value} {H1:Mem} {n:String} (s:Sim B G ρ H w) (hg:GOk G ρ) (hgn:P.globalNamed n=some g) (hlt:g < G) (hv:w.var? P n=some cs) (M:Made B G ρ H w avs H1 cs.toList ρ') :
    GOk G ρ'∧Sim B G ρ' (H1.upd g (.cells avs false 0)) w∧NoOwn (H1.upd g (.cells avs false 0)):=by
  have hg' : GOk G ρ':=fun a ha=>by
    have:a < H.next:=Nat.lt_of_lt_of_le ha s.names
    rw [M.same a this]; exact hg a ha
  refine ⟨hg',M.sim.glo M.no hlt (hg' g hlt) rfl ?_,M.no.upd rfl⟩
  simp only [World.var?,hgn,Option.bind_some] at hv
  split at hv
  · rename_i c e fz hh
    cases hv
    refine ⟨cs,e,fz,hh,fun i v hi=>?_,fun h=>by cases h⟩
    obtain ⟨u,hu,hvr⟩:=M.vals.get i hi
    exact ⟨u,by simpa using hu,hvr⟩
  · cases hv
theorem layV_sound {x:String×DataW Unit} (hG:G=P.globals.size) (hl:Laid1 P w x) (s:Sim B G ρ H w) (hno:NoOwn H) (hg:GOk G ρ) (h:layV P x H=some H') : ∃ ρ',GOk G ρ'∧Sim B G ρ' H' w∧NoOwn H':=by
  unfold layV at h
  split at h
  · rename_i g hgn
    split at h
    · rename_i t ht
      have hlt:g < G:=by
        rw [hG]
        obtain ⟨v,hv,_⟩:=Option.map_eq_some_iff.1 ht
        exact (Array.getElem?_eq_some_iff.1 hv).1
      split at h
      · rename_i d hd
        obtain ⟨g',t',cs,fuel,p,k1,k2,k3,k4⟩:=hl.1 d hd
        rw [hgn] at k1; cases k1
        rw [ht] at k2; cases k2
        unfold setG at h
        split at h
        · rename_i a m hmk
          cases h
          obtain ⟨ρ1,M⟩:=mkD_sound (fun _=>rfl) (funTok_ok P) 64 fuel t cs.toList _ p H a m ρ k4 (fun h=>by cases h) s hno hmk
          exact ⟨ρ1,setG_sound s hg hgn hlt k3 M⟩
        · cases h
      · rename_i d hd
        obtain ⟨g',t',cs,fuel,p,k1,k2,k3,k4,k5⟩:=hl.2 hd
        rw [hgn] at k1; cases k1
        rw [ht] at k2; cases k2
        unfold setG at h
        split at h
        · rename_i a m hmk
          cases h
          obtain ⟨ρ1,M⟩:=mkD_sound (fun _=>rfl) (noTok_ok _) 64 fuel t cs.toList _ p H a m ρ k4 (fun _=>k5) s hno hmk
          exact ⟨ρ1,setG_sound s hg hgn hlt k3 M⟩
        · cases h
    · cases h
  · cases h
theorem layG_sound (hG:G=P.globals.size) : ∀ (l:List (String×DataW Unit)) (H H' : Mem) (ρ:Rn),(∀ x∈l,Laid1 P w x)→Sim B G ρ H w→NoOwn H→GOk G ρ→layG P l H=some H' →
    ∃ ρ',GOk G ρ'∧Sim B G ρ' H' w∧NoOwn H'
  | [],H,H',ρ,_,s,hno,hg,h=>by cases h; exact ⟨ρ,hg,s,hno⟩
  | x :: l,H,H',ρ,hl,s,hno,hg,h=>by
    unfold layG at h
    split at h
    · rename_i H1 h1
      obtain ⟨ρ1,g1,s1,n1⟩:=layV_sound hG (hl x (by simp)) s hno hg h1
      exact layG_sound hG l H1 H' ρ1 (fun y hy=>hl y (by simp [hy])) s1 n1 g1 h
    · cases h
noncomputable def mem0 (P:Program) : Mem:=⟨.tr e4,P.globals.size⟩
theorem get_mem0 (a:Nat) : (mem0 P).get a=none:=get4_e4 a
theorem start_sound {l:List (String×DataW Unit)} {H:Mem} (h:laidMetH P l w) (hk:(l.all fun x=>x.2.handleName?.isNone || x.2.funcsIn?.isSome)=true) (hlay:layG P l (mem0 P)=some H) :
    ∃ ρ,Sim w.heap.size P.globals.size ρ H w∧NoOwn H:=by
  have s0:Sim w.heap.size P.globals.size (fun a=>if a < P.globals.size then some (a,0,0) else none) (mem0 P) w:=by
    refine ⟨fun a x hx=>?_,fun a a' x x' b o k o' k' hx=>?_,fun a ha=>?_,fun a x _ hx=>?_,Nat.le_refl _,Nat.le_refl _⟩
    · rw [get_mem0] at hx; cases hx
    · rw [get_mem0] at hx; cases hx
    · exact if_neg (Nat.not_lt.2 ha)
    · rw [get_mem0] at hx; cases hx
  obtain ⟨ρ,_,h1,h2⟩:=layG_sound rfl l _ H _ (laid1_of_metH h hk) s0 (fun a x hx=>by rw [get_mem0] at hx; cases hx) (fun g hg=>if_pos hg) hlay
  exact ⟨ρ,h1,h2⟩
theorem okWide_cells {t base:Nat} {v:Value} (h:Value.okWide P w .any base t v) (hs:∀ fs,P.underlying t≠some (.struct fs)) (ha:∀ n e,P.underlying t≠some (.array n e)) : v.cells.toList=[v]:=by
  cases v <;> first | rfl | skip
  exfalso
  unfold Value.okWide at h
  split at h
  · rename_i fs hu; exact hs _ hu
  · rename_i n e hu; exact ha _ _ hu
  · unfold Cell.okWide at h
    split at h <;> first | (rename_i e; cases e; done) | skip
    all_goals simp [Cell.ok] at h
end Go.Ai
end
section
namespace Go.Ai
open Go.RowKit (Below)
abbrev WF:=FuncId→List AV→Mem→(COut→Prop)→Prop
def WC (G:Nat) (P:Program) : WF:=fun f args H K=>∀ (B:Nat) (ρ:Rn) (us:Array Value) (w:World),Sim B G ρ H w→VRs ρ args us.toList →
  Calls P f us w fun e w'=>∃ r,K r∧CPost B G H.next ρ w r e w'
def orW (O:CallF) (W:WF) : WF:=fun f args H K=>match O f args H with
  | .bad=>W f args H K
  | r=>K r
theorem WC.mono {G:Nat} {P:Program} {f:FuncId} {args:List AV} {H:Mem} {K K' : COut→Prop} (h:WC G P f args H K) (hk:∀ r,K r→K' r) : WC G P f args H K' :=
  fun B ρ us w s v=>(h B ρ us w s v).mono fun _ _ ⟨r,k,c⟩=>⟨r,hk r k,c⟩
def WOK (G:Nat) (P:Program) (W:WF) : Prop:=∀ (f:FuncId) (args:List AV) (H:Mem) (K:COut→Prop),W f args H K→WC G P f args H K
theorem orW_sound {G:Nat} {P:Program} {O:CallF} (hO:∀ B,CallOK B G P O) {f:FuncId} {args:List AV} {H:Mem} {K:COut→Prop} (h:orW O (WC G P) f args H K) : WC G P f args H K:=by
  unfold orW at h
  cases hr:O f args H with
  | bad=>rw [hr] at h; exact h
  | ret v H' =>
    rw [hr] at h
    intro B ρ us w s hv
    have:=hO B f args H (by rw [hr]; simp) ρ us w s hv
    rw [hr] at this
    exact this.mono fun e w' c=>⟨_,h,c⟩
  | panic v H' =>
    rw [hr] at h
    intro B ρ us w s hv
    have:=hO B f args H (by rw [hr]; simp) ρ us w s hv
    rw [hr] at this
    exact this.mono fun e w' c=>⟨_,h,c⟩
noncomputable def afterW (W:WF) (o:Oper) (fr:Fr) (k:Fr→Mem→Prop) (Q:Out→Prop) : R→Prop
  | .val v H=>k (fr.put o.dst v) H
  | .skip H=>k (fr.put o.dst (.lit undef)) H
  | .enter f args H=>W f args H fun r=>match r with
    | .ret v H=>k (fr.put o.dst v) H
    | .panic v H=>Q (.panic v fr H)
    | .bad=>False
  | .dfr fn cap args H=>k ((fr.defer (fn,cap,args)).put o.dst (.lit undef)) H
  | .panic v H=>Q (.panic v fr H)
  | _=>False
def byGuard (x:Option AV) (want:Bool) (yes no:Prop) : Prop:=match x with
  | some (.lit (.bool b))=>(b=want→yes)∧(b = !want→no)
  | some (.lit (.tuple _))=>no
  | _=>False
noncomputable def guardSlot (ops:Array Oper) (fr:Fr) (j:Nat) : Option AV:=match ops[j]? with
  | some o=>match o.dst with
    | some d=>fr.get d
    | none=>none
  | none=>none
noncomputable def oneW (P:Program) (W:WF) (ops:Array Oper) (o:Oper) (fr:Fr) (H:Mem) (k:Fr→Mem→Prop) (Q:Out→Prop) : Prop :=
  match o.guard with
  | none=>afterW W o fr k Q (opV P H fr.ev o)
  | some g=>byGuard (guardSlot ops fr g.1) g.2 (afterW W o fr k Q (opV P H fr.ev o)) (k (fr.put o.dst (.lit undef)) H)
noncomputable def seqW (P:Program) (W:WF) (ops:Array Oper) (Q:Out→Prop) : List Oper→Fr→Mem→Prop
  | [],fr,H=>Q (.norm fr H)
  | o :: l,fr,H=>oneW P W ops o fr H (seqW P W ops Q l) Q
abbrev ResF:=Nat→Option AV
def rput (res:ResF) (i:Nat) (v:AV) : ResF:=fun j=>if j=i then some v else res j
noncomputable def envTF (ops:Array Oper) (tab:List Nat) (fr:Fr) (res:ResF) (i t:Nat) : Option AV :=
  match writer t ops.toList 0 with
  | none=>fr.get t
  | some j=>match isAnc tab i j with
    | true=>res j
    | false=>match isAnc tab j i || Nat.beq i j with
      | true=>fr.get t
      | false=>none
noncomputable def envF (ops:Array Oper) (tab:List Nat) (fr:Fr) (res:ResF) (i:Nat) : Ev:=fun x=>match x with
  | .tmp t=>envTF ops tab fr res i t
  | .const v=>some (.lit v)
  | .global g=>some (.lit (.pointer (some ⟨g,0,none⟩)))
  | .func f=>some (.lit (.func (.func f) #[] #[]))
noncomputable def wantedRF (tab:List Nat) (res:ResF) (i:Nat) (g:Nat×Bool) : Option Bool :=
  match isAnc tab i g.1,res g.1 with
  | true,some (.lit (.bool b))=>(match b,g.2 with | true,true=>some true | false,false=>some true | _,_=>some false)
  | true,some (.lit (.tuple _))=>some false
  | _,_=>none
noncomputable def wantedF (tab:List Nat) (res:ResF) (i:Nat) (o:Oper) : Option Bool:=match o.guard with | none=>some true | some g=>wantedRF tab res i g
noncomputable def wantedW (tab:List Nat) (res:ResF) (i:Nat) (o:Oper) (yes no:Prop) : Prop:=match o.guard with
  | none=>yes
  | some g=>isAnc tab i g.1=true∧byGuard (res g.1) g.2 yes no
def setW (res:ResF) (i:Nat) (v:AV) (K:ResF→Prop) : Prop:=res i=none∧K (rput res i v)
abbrev StW:=ResF→Mem→List Nat→Als→Prop
noncomputable def quietW (P:Program) (H:Mem) (ev:Ev) (o:Oper) (K:AV→Prop) : Prop:=match quiet P H ev o with
  | some v=>K v
  | none=>False
noncomputable def allocW (H:Mem) (i:Nat) (res:ResF) (held:List Nat) (als:Als) (K:StW) : R→Prop
  | .val v H'=>match H'.get H.next with
    | some b=>setW res i v fun res=>K res H' held ((i,H.next,b) :: als)
    | none=>False
  | _=>False
noncomputable def stepW (P:Program) (ops:Array Oper) (tab:List Nat) (fr:Fr) (i:Nat) (res:ResF) (H:Mem) (held:List Nat) (als:Als) (K:StW) : Prop :=
  match ops[i]? with
  | none=>False
  | some o=>wantedW tab res i o
    (match cls o.op with
      | .alloc=>allocW H i res held als K (opV P H (envF ops tab fr res i) o)
      | .read=>quietW P H (envF ops tab fr res i) o fun v=>setW res i v fun res=>K res H (i :: held) als
      | _=>quietW P H (envF ops tab fr res i) o fun v=>setW res i v fun res=>K res H held als)
    (setW res i (.lit undef) fun res=>K res H held als)
noncomputable def stageW (P:Program) (ops:Array Oper) (tab:List Nat) (fr:Fr) (K:StW) : List Nat→ResF→Mem→List Nat→Als→Prop
  | [],res,H,held,als=>K res H held als
  | i :: l,res,H,held,als=>stepW P ops tab fr i res H held als (stageW P ops tab fr K l)
noncomputable def recheckW (P:Program) (ops:Array Oper) (tab:List Nat) (fr:Fr) (res:ResF) (H:Mem) : List Nat→Prop
  | []=>True
  | i :: l=>(match ops[i]? with
    | some o=>∃ v,res i=some v∧quiet P H (envF ops tab fr res i) o=some v
    | none=>False)∧recheckW P ops tab fr res H l
noncomputable def staysW (H:Mem) : Als→Prop
  | []=>True
  | (_,a,b) :: l=>H.get a=some b∧staysW H l
noncomputable def finW (res:ResF) (K:Fr→Prop) : List Oper→Nat→Fr→Prop
  | [],_,fr=>K fr
  | o :: l,i,fr=>match res i with
    | some v=>finW res K l (i+1) (fr.put o.dst v)
    | none=>False
noncomputable def actRW (W:WF) (fr:Fr) (c:Nat) (res:ResF) (K:ResF→Mem→Prop) (Q:Out→Prop) : R→Prop
  | .val v H=>setW res c v fun res=>K res H
  | .skip H=>setW res c (.lit undef) fun res=>K res H
  | .enter f args H=>W f args H fun r=>match r with
    | .ret v H=>setW res c v fun res=>K res H
    | .panic v H=>Q (.panic v fr.clear H)
    | .bad=>False
  | _=>False
noncomputable def actW (P:Program) (W:WF) (ops:Array Oper) (tab:List Nat) (fr:Fr) (c:Nat) (res:ResF) (H:Mem) (K:ResF→Mem→Prop) (Q:Out→Prop) : Prop :=
  match ops[c]? with
  | none=>False
  | some o=>wantedW tab res c o (actRW W fr c res K Q (opV P H (envF ops tab fr res c) o)) (setW res c (.lit undef) fun res=>K res H)
noncomputable def stagesW (P:Program) (W:WF) (ops:Array Oper) (tab:List Nat) (fr:Fr) (all:List Nat) (Q:Out→Prop) : Nat→List Nat→ResF→Mem→List Nat→Als→Prop
  | k,[],res,H,held,als=>stageW P ops tab fr (fun res H held als=>recheckW P ops tab fr res H held∧staysW H als∧finW res (fun fr=>Q (.norm fr H)) ops.toList 0 fr) (stageOf tab all k ops.toList 0) res H held als
  | k,c :: cs,res,H,held,als=>stageW P ops tab fr (fun res H held als=>recheckW P ops tab fr res H held∧staysW H als ∧
      actW P W ops tab fr c res H (fun res H=>stagesW P W ops tab fr all Q (k+1) cs res H (still tab c held) (stillA tab c als)) Q) (stageOf tab all k ops.toList 0) res H held als
noncomputable def drawnW (P:Program) (W:WF) (ops:Array Oper) (fr:Fr) (H:Mem) (Q:Out→Prop) : Prop :=
  planOk ops.toList=true∧Tables.follows P.toTables .mixedOrders=true ∧
  stagesW P W ops (ancs [] ops.toList) fr (chainOf ops.toList 0) Q 0 (chainOf ops.toList 0) (fun _=>none) H [] []
abbrev LF:=Code→Fr→Mem→(Out→Prop)→Prop
noncomputable def thenW (k:Fr→Mem→Prop) (Q:Out→Prop) : Out→Prop
  | .norm fr H=>k fr H
  | .exit id fr H=>Q (.exit id fr H)
  | .ret fr H=>Q (.ret fr H)
  | .panic v fr H=>Q (.panic v fr H)
  | .bad=>False
noncomputable def inBlockW (id:Nat) (Q:Out→Prop) : Out→Prop
  | .exit id' fr H=>if id'=id then Q (.norm fr H) else Q (.exit id' fr H)
  | .norm fr H=>Q (.norm fr H)
  | .ret fr H=>Q (.ret fr H)
  | .panic v fr H=>Q (.panic v fr H)
  | .bad=>False
noncomputable def condW (x:Option AV) (yes no:Prop) : Prop:=match x with
  | some (.lit (.bool b))=>(b=true→yes)∧(b=false→no)
  | _=>False
noncomputable def execW (P:Program) (W:WF) (L:LF) : Code→Fr→Mem→(Out→Prop)→Prop
  | .skip,fr,H,Q=>Q (.norm fr H)
  | .region _ ops false,fr,H,Q=>seqW P W ops Q ops.toList fr H
  | .region _ ops true,fr,H,Q=>drawnW P W ops fr H Q
  | .seq a b,fr,H,Q=>execW P W L a fr H (thenW (fun fr H=>execW P W L b fr H Q) Q)
  | .cond c a b,fr,H,Q=>condW (fr.ev c) (execW P W L a fr H Q) (execW P W L b fr H Q)
  | .block id b,fr,H,Q=>execW P W L b fr H (inBlockW id Q)
  | .loop b,fr,H,Q=>L b fr H Q
  | .exit id,fr,H,Q=>Q (.exit id fr H)
  | .label _,fr,H,Q=>Q (.norm fr H)
  | .ret,fr,H,Q=>Q (.ret fr H)
  | _,_,_,_=>False
variable {B G:Nat} {P:Program} {n n0:Nat} {ρ0 ρ:Rn} {w0 w:World} {fr:Fr} {H:Mem} {a:Act}
def PostQ (B G n n0:Nat) (ρ0:Rn) (w0:World) (Q:Out→Prop) : Exit→Act→World→Prop:=fun e a' w'=>∃ out,Q out∧OutPost B G n n0 ρ0 w0 out e a' w'
def XW (G:Nat) (P:Program) (n:Nat) (c:Code) (fr:Fr) (H:Mem) (Q:Out→Prop) : Prop :=
  ∀ (B n0:Nat) (ρ0:Rn) (w0:World) (ρ:Rn) (a:Act) (w:World),St B G n n0 ρ0 w0 ρ fr H a w→c.wp P (PostQ B G n n0 ρ0 w0 Q) a w
def LX (G:Nat) (P:Program) (n:Nat) : LF:=fun b fr H Q =>
  ∀ (B n0:Nat) (ρ0:Rn) (w0:World) (ρ:Rn) (a:Act) (w:World),St B G n n0 ρ0 w0 ρ fr H a w→LW P b (PostQ B G n n0 ρ0 w0 Q) a w
theorem byGuard_sound {ops:Array Oper} {g:Nat×Bool} {o:Oper} {yes no:Prop} (s:St B G n n0 ρ0 w0 ρ fr H a w) (ho:o.guard=some g) (h:byGuard (guardSlot ops fr g.1) g.2 yes no) :
    (Region.wanted o (yielded ops a.tmps)=true∧yes)∨(Region.wanted o (yielded ops a.tmps)=false∧no):=by
  obtain ⟨j,want⟩:=g
  have slot:∀ {d:Tmp} {v:AV},fr.get d=some v→∃ u,a.tmps[d]?=some u∧VR ρ v u:=by
    intro d v hv
    have hlt:=s.frel.only d v hv
    have:=s.frel.slot d v hv hlt
    have hsz:d < a.tmps.size:=Nat.lt_of_lt_of_le hlt s.frel.size
    refine ⟨a.tmps[d],by simp [hsz],?_⟩
    rw [Array.getD_eq_getD_getElem?] at this
    simpa [hsz] using this
  have atSlot:∀ {v:AV},guardSlot ops fr j=some v→∃ oj d u,ops[j]?=some oj∧oj.dst=some d∧a.tmps[d]?=some u∧VR ρ v u:=by
    intro v hv
    unfold guardSlot at hv
    split at hv
    · rename_i oj hoj
      split at hv
      · rename_i d hd
        obtain ⟨u,hu,hvu⟩:=slot hv
        exact ⟨oj,d,u,hoj,hd,hu,hvu⟩
      · cases hv
    · cases hv
  unfold byGuard at h
  split at h
  · rename_i b hs
    obtain ⟨oj,d,u,h1,h2,h3,h4⟩:=atSlot hs
    cases h4
    have hyl:yielded ops a.tmps j=some b:=by simp [yielded,h1,h2,h3]
    by_cases e:b=want
    · exact .inl ⟨by simp [Region.wanted,ho,hyl,e],h.1 e⟩
    · have e2:b = !want:=by cases b <;> cases want <;> simp_all
      exact .inr ⟨by simp [Region.wanted,ho,hyl]; exact e,h.2 e2⟩
  · rename_i vs hs
    obtain ⟨oj,d,u,h1,h2,h3,h4⟩:=atSlot hs
    cases h4
    have hyl:yielded ops a.tmps j=none:=by simp [yielded,h1,h2,h3]
    exact .inr ⟨by simp [Region.wanted,ho,hyl],h⟩
  · exact h.elim
theorem afterW_sound {W:WF} (hW:WOK G P W) {ops:Array Oper} {o:Oper} {rest:List Oper} {k:Fr→Mem→Prop} {Q:Out→Prop} (hG:G=P.globals.size) (hdst:dstOk n o=true)
    (s:St B G n n0 ρ0 w0 ρ fr H a w)
    (hk:∀ (fr' : Fr) (H' : Mem) (ρ' : Rn) (a' : Act) (w' : World),St B G n n0 ρ0 w0 ρ' fr' H' a' w'→k fr' H'→wpList P ops (PostQ B G n n0 ρ0 w0 Q) rest a' w')
    (h:afterW W o fr k Q (opV P H fr.ev o)) :
    o.wp P a w (wpList P ops (PostQ B G n n0 ρ0 w0 Q) rest) (PostQ B G n n0 ρ0 w0 Q):=by
  have hrs:=opV_sound (o:=o) s.sim s.ev hG
  have hd:=dstOk_lt hdst
  unfold Oper.wp
  cases hr:opV P H fr.ev o with
  | val v H' =>
    rw [hr] at hrs h
    obtain ⟨ρ',u,w',h1,h2,h3,h4,h5⟩:=hrs
    rw [h1]
    exact hk _ _ _ _ _ (s.step h2 h3 h4 h5 hd) h
  | skip H' =>
    rw [hr] at hrs h
    obtain ⟨ρ',w',h1,h2,h3,h5⟩:=hrs
    rw [h1]
    exact hk _ _ _ _ _ (s.step h2 h3 (undef_VR _) h5 hd) h
  | enter f args H' =>
    rw [hr] at hrs h
    obtain ⟨us,h1,h2,rfl⟩:=hrs
    rw [h1]
    refine (hW _ _ _ _ h B ρ us w s.sim h2).mono fun e w' ⟨r,hkr,hc⟩=>?_
    cases r with
    | bad=>exact hkr.elim
    | ret v H2 =>
      cases e with
      | returned u =>
        obtain ⟨ρ',g1,g2,g3,g4⟩:=hc
        exact hk _ _ _ _ _ (s.step g1 g2 g3 g4 hd) hkr
      | panicked chain=>exact hc.elim
      | outgrown=>exact hc.elim
    | panic v H2 =>
      cases e with
      | returned u=>exact hc.elim
      | panicked chain =>
        obtain ⟨ρ',u,g0,g1,g2,g3,g4⟩:=hc
        exact ⟨_,hkr,ρ',u,g0,g1,s.ext.trans g2 s.le,g3,s.frel.mono (g2.sub s.sim),Nat.le_trans s.le g4⟩
      | outgrown=>exact hc.elim
  | dfr fn cap args H' =>
    rw [hr] at hrs h
    obtain ⟨cs,as,h1,h2,h3,rfl⟩:=hrs
    rw [h1]
    have hf:FRel n ρ (fr.defer (fn,cap,args)) { a with defers:={ target:=.fn fn cs,args:=as } :: a.defers } :=
      ⟨fun t v hv ht=>s.frel.slot t v (by rw [Fr.get_defer] at hv; exact hv) ht,by rw [Fr.defers_defer]; exact ⟨cs,as,_,rfl,h2,h3,s.frel.dfr⟩,s.frel.size,
        fun t v hv=>s.frel.only t v (by rw [Fr.get_defer] at hv; exact hv)⟩
    exact hk _ _ _ _ _ ⟨s.ext,s.sim,hf.put hd (undef_VR _),s.le⟩ h
  | recover=>rw [hr] at h; exact h.elim
  | panic v H' =>
    rw [hr] at hrs h
    obtain ⟨u,h1,h2,rfl⟩:=hrs
    rw [h1]
    exact ⟨_,h,ρ,u,rfl,h2,s⟩
  | bad=>rw [hr] at h; exact h.elim
theorem seqW_sound {W:WF} (hW:WOK G P W) {ops:Array Oper} {Q:Out→Prop} (hG:G=P.globals.size) : ∀ (l:List Oper) (fr:Fr) (H:Mem) (ρ:Rn) (a:Act) (w:World),
    (∀ o∈l,dstOk n o=true)→St B G n n0 ρ0 w0 ρ fr H a w→seqW P W ops Q l fr H→wpList P ops (PostQ B G n n0 ρ0 w0 Q) l a w
  | [],fr,H,ρ,a,w,_,s,h=>wpList_nil ⟨_,h,ρ,s⟩
  | o :: l,fr,H,ρ,a,w,hd,s,h=>by
    have hdo:=hd o (by simp)
    have hk:∀ (fr' : Fr) (H' : Mem) (ρ' : Rn) (a' : Act) (w' : World),St B G n n0 ρ0 w0 ρ' fr' H' a' w'→seqW P W ops Q l fr' H'→wpList P ops (PostQ B G n n0 ρ0 w0 Q) l a' w' :=
      fun fr' H' ρ' a' w' s' hk=>seqW_sound hW hG l fr' H' ρ' a' w' (fun o ho=>hd o (by simp [ho])) s' hk
    have h' : oneW P W ops o fr H (seqW P W ops Q l) Q:=h
    unfold oneW at h'
    unfold wpList
    cases hg:o.guard with
    | none =>
      rw [hg] at h'
      rw [if_pos (by simp [Region.wanted,hg])]
      exact .inl (afterW_sound hW hG hdo s hk h')
    | some g =>
      rw [hg] at h'
      rcases byGuard_sound s hg h' with ⟨hw,hy⟩ | ⟨hw,hn⟩
      · rw [if_pos hw]
        exact .inl (afterW_sound hW hG hdo s hk hy)
      · rw [if_neg (by rw [hw]; simp)]
        exact hk _ _ _ _ _ ⟨s.ext,s.sim,s.frel.put (dstOk_lt hdo) (undef_VR _),s.le⟩ hn
theorem orW_ok {G:Nat} {P:Program} {O:CallF} (hO:∀ B,CallOK B G P O) : WOK G P (orW O (WC G P)):=fun _ _ _ _ h=>orW_sound hO h
end Go.Ai
end
section
namespace Go.Ai
open Go.RowKit (Below)
variable {B G:Nat} {P:Program} {ops:Array Oper} {tab:List Nat} {fr0:Fr}
def GrF (r r' : ResF) : Prop:=∀ j v,r j=some v→r' j=some v
theorem GrF.refl (r:ResF) : GrF r r:=fun _ _ h=>h
theorem GrF.trans {a b c:ResF} (h:GrF a b) (k:GrF b c) : GrF a c:=fun j v e=>k j v (h j v e)
theorem setW_ok {res:ResF} {i:Nat} {v:AV} {K:ResF→Prop} (h:setW res i v K) : ∃ res',K res'∧GrF res res'∧res' i=some v:=by
  refine ⟨_,h.2,fun j y hj=>?_,if_pos rfl⟩
  unfold rput
  by_cases e:j=i
  · subst e; rw [h.1] at hj; cases hj
  · rw [if_neg e]; exact hj
def KnownW (B:Nat) (P:Program) (ops:Array Oper) (tab:List Nat) (fr0:Fr) (res:ResF) (held:List Nat) (als:Als) (i:Nat) (o:Oper) : Prop :=
  ∃ r0 v,GrF r0 res∧res i=some v ∧
    ((wantedF tab r0 i o=some false∧v=.lit undef) ∨
     (wantedF tab r0 i o=some true ∧
      ((cls o.op=.free∧∀ H,opV P H (envF ops tab fr0 r0 i) o=.val v H) ∨
       (cls o.op=.gen∧generic P (envF ops tab fr0 r0 i) o=some v) ∨
       (cls o.op=.read∧i∈held) ∨
       (∃ f x nm,(∀ (ρ:Rn) (w:World) (e:Operand→Value),EvR ρ (envF ops tab fr0 r0 i) e→B≤w.heap.size→ND B P ρ w f x (execOp e o))∧v=f nm∧(i,nm,x)∈als))))
theorem KnownW.mono {res res' : ResF} {held held' : List Nat} {als als' : Als} {i:Nat} {o:Oper} (h:KnownW B P ops tab fr0 res held als i o) (hg:GrF res res')
    (hh:i∈held→i∈held') (ha:∀ nm x,(i,nm,x)∈als→(i,nm,x)∈als') : KnownW B P ops tab fr0 res' held' als' i o:=by
  obtain ⟨r0,v,h1,h2,h3⟩:=h
  refine ⟨r0,v,h1.trans hg,hg _ _ h2,h3.imp id fun ⟨h4,h5⟩=>⟨h4,h5.imp id fun h5=>h5.imp id fun h5=>h5.imp ?_ ?_⟩⟩
  · exact fun ⟨a,b⟩=>⟨a,hh b⟩
  · exact fun ⟨f,x,nm,a,b,c⟩=>⟨f,x,nm,a,b,ha _ _ c⟩
structure FoundW (B:Nat) (P:Program) (ops:Array Oper) (tab:List Nat) (fr0:Fr) (L:List Nat) (res:ResF) (H:Mem) (held:List Nat) (als:Als) (res' : ResF) (H' : Mem) (held' : List Nat) (als' : Als) : Prop where
  gr:GrF res res'
  ph:Ph H H'
  keepH:∀ i∈held,i∈held'
  keepA:∀ x∈als,x∈als'
  new:∀ x∈als',x∈als∨H.next≤x.2.1
  ok:∀ n,n≤H.next→AlsOK n H als→AlsOK n H' als'
  known:∀ i∈L,∀ o,ops[i]?=some o→KnownW B P ops tab fr0 res' held' als' i o
variable {L:List Nat} {res:ResF} {H:Mem} {held:List Nat} {als:Als} {K:StW}
theorem wantedW_ok {tab:List Nat} {res:ResF} {i:Nat} {o:Oper} {yes no:Prop} (h:wantedW tab res i o yes no) :
    (wantedF tab res i o=some true∧yes)∨(wantedF tab res i o=some false∧no):=by
  unfold wantedW at h
  unfold wantedF
  split at h
  · exact .inl ⟨rfl,h⟩
  · rename_i g hg
    obtain ⟨ha,h⟩:=h
    unfold wantedRF
    rw [ha]
    unfold byGuard at h
    split at h
    · rename_i b hs
      rw [hs]
      obtain ⟨j,want⟩:=g
      by_cases e:b=want
      · left; refine ⟨?_,h.1 e⟩; subst e; cases b <;> rfl
      · right
        have e2:b = !want:=by cases b <;> cases want <;> simp_all
        refine ⟨?_,h.2 e2⟩; subst e2; cases want <;> rfl
    · rename_i vs hs; rw [hs]; exact .inr ⟨rfl,h⟩
    · exact h.elim
theorem stepW_sound {i:Nat} {o:Oper} (ho:ops[i]?=some o) (hk:isChain o.op=false) (hn:cls o.op≠.no) (h:stepW P ops tab fr0 i res H held als K) :
    ∃ res' H' held' als',K res' H' held' als'∧FoundW B P ops tab fr0 [i] res H held als res' H' held' als':=by
  have only:∀ {res' : ResF} {held' : List Nat} {als' : Als},KnownW B P ops tab fr0 res' held' als' i o→∀ j∈[i],∀ o',ops[j]?=some o'→KnownW B P ops tab fr0 res' held' als' j o':=by
    intro res' held' als' hkn j hj o' ho'
    simp at hj; subst hj
    rw [ho] at ho'; cases ho'; exact hkn
  unfold stepW at h
  rw [ho] at h
  dsimp only at h
  rcases wantedW_ok h with ⟨hw,h⟩ | ⟨hw,h⟩
  · have quietCase : ∀ (hc1 : cls o.op ≠ .alloc) (hc2 : cls o.op ≠ .read), quietW P H (envF ops tab fr0 res i) o (fun v => setW res i v fun res => K res H held als) →
        ∃ res' H' held' als',K res' H' held' als'∧FoundW B P ops tab fr0 [i] res H held als res' H' held' als':=by
      intro hc1 hc2 h
      unfold quietW at h
      split at h
      · rename_i v hv
        obtain ⟨res',h1,h2,h3⟩:=setW_ok h
        refine ⟨res',H,held,als,h1,h2,Ph.refl _,fun _ h=>h,fun _ h=>h,fun _ h=>.inl h,fun _ _ h=>h,only ?_⟩
        refine ⟨res,_,h2,h3,.inr ⟨hw,?_⟩⟩
        cases hc:cls o.op with
        | free =>
          left
          refine ⟨rfl,?_⟩
          unfold quiet at hv
          rw [hc] at hv
          dsimp only at hv
          have hf:freeOp o.op=true:=by
            cases hf:freeOp o.op with
            | true=>rfl
            | false =>
              exfalso
              unfold cls at hc
              rw [hf] at hc
              dsimp only at hc
              split at hc <;> first | (cases hc; done) | skip
              split at hc <;> cases hc
          split at hv
          · rename_i v' H' hv'
            cases hv
            intro H2
            have hfr:=freeOp_sound hf H v H' hv'
            exact hfr.2 H2
          · cases hv
        | gen =>
          right; left
          refine ⟨rfl,?_⟩
          unfold quiet at hv
          rw [hc] at hv
          exact hv
        | read=>exact absurd hc hc2
        | alloc=>exact absurd hc hc1
        | chain=>unfold isChain at hk; rw [hc] at hk; cases hk
        | no=>exact absurd hc hn
      · exact h.elim
    cases hc:cls o.op with
    | alloc =>
      rw [hc] at h
      dsimp only at h
      cases hv:opV P H (envF ops tab fr0 res i) o with
      | val v H' =>
        rw [hv] at h
        dsimp only [allocW] at h
        split at h
        · rename_i b hb
          obtain ⟨f,x,e1,e2,hnd⟩:=alloc_sound (B:=B) hc hv
          subst e1; subst e2
          have hbx:b=x:=by
            rcases Mem.get_add hb with ⟨_,e⟩ | ⟨e,_⟩
            · exact e
            · exact absurd rfl e
          subst hbx
          obtain ⟨res',h1,h2,h3⟩:=setW_ok h
          refine ⟨res',_,held,_,h1,h2,Ph.add _ _,fun _ h=>h,fun _ h=>List.mem_cons_of_mem _ h,?_,fun n hn hk=>hk.cons hn i b b,only ?_⟩
          · intro y hy; rcases List.mem_cons.1 hy with rfl | hy
            · exact .inr (Nat.le_refl _)
            · exact .inl hy
          · exact ⟨res,_,h2,h3,.inr ⟨hw,.inr (.inr (.inr ⟨f,b,H.next,hnd,rfl,by simp⟩))⟩⟩
        · exact h.elim
      | _=>rw [hv] at h; exact h.elim
    | read =>
      rw [hc] at h
      dsimp only at h
      unfold quietW at h
      split at h
      · rename_i v hv
        obtain ⟨res',h1,h2,h3⟩:=setW_ok h
        refine ⟨res',H,i :: held,als,h1,h2,Ph.refl _,fun _ h=>List.mem_cons_of_mem _ h,fun _ h=>h,fun _ h=>.inl h,fun _ _ h=>h,only ?_⟩
        exact ⟨res,_,h2,h3,.inr ⟨hw,.inr (.inr (.inl ⟨hc,by simp⟩))⟩⟩
      · exact h.elim
    | free=>rw [hc] at h; exact quietCase (by rw [hc]; simp) (by rw [hc]; simp) h
    | gen=>rw [hc] at h; exact quietCase (by rw [hc]; simp) (by rw [hc]; simp) h
    | chain=>unfold isChain at hk; rw [hc] at hk; cases hk
    | no=>exact absurd hc hn
  · obtain ⟨res',h1,h2,h3⟩:=setW_ok h
    exact ⟨res',H,held,als,h1,h2,Ph.refl _,fun _ h=>h,fun _ h=>h,fun _ h=>.inl h,fun _ _ h=>h,only ⟨res,_,h2,h3,.inl ⟨hw,rfl⟩⟩⟩
theorem stageW_sound:∀ (L:List Nat) (res:ResF) (H:Mem) (held:List Nat) (als:Als),(∀ i∈L,∃ o,ops[i]?=some o∧isChain o.op=false∧cls o.op≠.no) →
    stageW P ops tab fr0 K L res H held als→∃ res' H' held' als',K res' H' held' als'∧FoundW B P ops tab fr0 L res H held als res' H' held' als'
  | [],res,H,held,als,_,h=>⟨res,H,held,als,h,GrF.refl _,Ph.refl _,fun _ h=>h,fun _ h=>h,fun _ h=>.inl h,fun _ _ h=>h,fun _ h=>by cases h⟩
  | i :: L,res,H,held,als,hL,h=>by
    obtain ⟨o,ho,hk,hn⟩:=hL i (by simp)
    obtain ⟨r1,H1,hd1,al1,h1,f1⟩:=stepW_sound (B:=B) ho hk hn h
    obtain ⟨r2,H2,hd2,al2,h2,f2⟩:=stageW_sound L r1 H1 hd1 al1 (fun i hi=>hL i (by simp [hi])) h1
    refine ⟨r2,H2,hd2,al2,h2,f1.gr.trans f2.gr,f1.ph.trans f2.ph,fun i hi=>f2.keepH i (f1.keepH i hi),fun x hx=>f2.keepA x (f1.keepA x hx),?_,?_,?_⟩
    · intro x hx
      rcases f2.new x hx with h | h
      · exact f1.new x h
      · exact .inr (Nat.le_trans f1.ph.le h)
    · intro n hn hk
      exact f2.ok n (Nat.le_trans hn f1.ph.le) (f1.ok n hn hk)
    · intro j hj o' ho'
      rcases List.mem_cons.1 hj with rfl | hj
      · exact (f1.known j (by simp) o' ho').mono f2.gr (fun h=>f2.keepH _ h) fun nm x h=>f2.keepA _ h
      · exact f2.known j hj o' ho'
noncomputable def nxtW (P:Program) (W:WF) (ops:Array Oper) (tab:List Nat) (fr:Fr) (all:List Nat) (Q:Out→Prop) (k:Nat) (cs:List Nat) (res:ResF) (H:Mem) (held:List Nat) (als:Als) : Prop :=
  match cs with
  | []=>finW res (fun fr=>Q (.norm fr H)) ops.toList 0 fr
  | c :: cs=>actW P W ops tab fr c res H (fun res H=>stagesW P W ops tab fr all Q (k+1) cs res H (still tab c held) (stillA tab c als)) Q
def gateW (P:Program) (W:WF) (ops:Array Oper) (tab:List Nat) (fr:Fr) (all:List Nat) (Q:Out→Prop) (k:Nat) (cs:List Nat) (res:ResF) (H:Mem) (held:List Nat) (als:Als) : Prop :=
  recheckW P ops tab fr res H held∧staysW H als∧nxtW P W ops tab fr all Q k cs res H held als
theorem stagesW_eq {W:WF} {Q:Out→Prop} (all:List Nat) (k:Nat) (cs:List Nat) (res:ResF) (H:Mem) (held:List Nat) (als:Als) :
    stagesW P W ops tab fr0 all Q k cs res H held als=stageW P ops tab fr0 (fun res H held als=>gateW P W ops tab fr0 all Q k cs res H held als) (stageOf tab all k ops.toList 0) res H held als:=by
  cases cs <;> rfl
theorem recheckW_spec {res:ResF} {H:Mem} : ∀ {held:List Nat},recheckW P ops tab fr0 res H held→∀ i∈held,∃ o v,ops[i]?=some o∧res i=some v∧quiet P H (envF ops tab fr0 res i) o=some v
  | [],_,_,h=>by cases h
  | j :: held,h,i,hi=>by
    rcases List.mem_cons.1 hi with rfl | hi
    · have h1:=h.1
      split at h1
      · rename_i o ho
        obtain ⟨v,hv,hq⟩:=h1
        exact ⟨o,v,ho,hv,hq⟩
      · exact h1.elim
    · exact recheckW_spec h.2 i hi
theorem staysW_spec {H:Mem} : ∀ {als:Als},staysW H als→∀ i nm x,(i,nm,x)∈als→H.get nm=some x
  | [],_,_,_,_,h=>by cases h
  | (j,a,b) :: als,h,i,nm,x,hx=>by
    rcases List.mem_cons.1 hx with e | hx
    · cases e; exact h.1
    · exact staysW_spec h.2 i nm x hx
end Go.Ai
end
section
namespace Go.Ai
open Go.RowKit (Below)
variable {B G n n0:Nat} {P:Program} {ops:Array Oper} {fr0:Fr} {ρ0 ρ:Rn} {w0 w:World} {dn cs:List Nat} {res:ResF} {H:Mem} {held:List Nat} {als:Als} {listed:Array Bool} {a:Act} {Q:Out→Prop} {W:WF}
structure DInvW (B G n n0:Nat) (P:Program) (ops:Array Oper) (fr0:Fr) (ρ0:Rn) (w0:World) (dn cs:List Nat) (res:ResF) (H:Mem) (held:List Nat) (als:Als) (listed:Array Bool) (ρ:Rn) (a:Act) (w:World) : Prop where
  ext:Ext B n0 ρ0 w0 ρ w
  sim:Sim B G ρ H w
  le:n0≤H.next
  size:listed.size=ops.size
  tsz:n≤a.tmps.size
  dfr:DR ρ fr0.defers a.defers
  only:∀ t v,fr0.get t=some v→t < n
  chain:chainOf ops.toList 0=dn++cs
  csN:∀ c∈cs,¬Dn listed c
  down:∀ i o,Dn listed i→ops[i]?=some o→∀ e∈o.after.toList,Region.binds .any e=true→Dn listed e.on
  old:∀ t,(∀ j,writer t ops.toList 0=some j→¬Dn listed j)→∀ v,fr0.get t=some v→VR ρ v (a.tmps.getD t undef)
  new:∀ j o,Dn listed j→ops[j]?=some o→∃ v,res j=some v∧∀ d,o.dst=some d→VR ρ v (a.tmps.getD d undef)
  known:∀ i o,¬Dn listed i→ops[i]?=some o→isChain o.op=false→countAnc (ancs [] ops.toList) i (dn++cs)≤dn.length→KnownW B P ops (ancs [] ops.toList) fr0 res held als i o
  aok:AlsOK n0 H als
  alsN:∀ x∈als,¬Dn listed x.1→ρ x.2.1=none
theorem Rd.ancW {i j:Nat} {o:Oper} (r:Rd ops listed i o) (d:DInvW B G n n0 P ops fr0 ρ0 w0 dn cs res H held als listed ρ a w) (h:isAnc (ancs [] ops.toList) i j=true) : Dn listed j :=
  anc_listed (listed:=Dn listed) d.down i o j r.at' r.all h
theorem Rd.not_ancW {i j:Nat} {o:Oper} (r:Rd ops listed i o) (d:DInvW B G n n0 P ops fr0 ρ0 w0 dn cs res H held als listed ρ a w) (hj:j < ops.size) (h:isAnc (ancs [] ops.toList) j i=true) : ¬Dn listed j:=by
  intro hd
  obtain ⟨oj,hoj⟩ : ∃ oj,ops[j]?=some oj:=⟨ops[j],by simp [hj]⟩
  exact r.un (anc_listed (listed:=Dn listed) d.down j oj i hoj (d.down j oj hd hoj) h)
theorem envF_EvR {i:Nat} {o:Oper} {r0:ResF} (d:DInvW B G n n0 P ops fr0 ρ0 w0 dn cs res H held als listed ρ a w) (r:Rd ops listed i o) (hg:GrF r0 res) :
    EvR ρ (envF ops (ancs [] ops.toList) fr0 r0 i) a.eval:=by
  intro x v hx
  cases x with
  | tmp t =>
    have hx' : envTF ops (ancs [] ops.toList) fr0 r0 i t=some v:=hx
    unfold envTF at hx'
    split at hx'
    · rename_i hw
      exact d.old t (fun j hj=>by rw [hw] at hj; cases hj) v hx'
    · rename_i j hw
      obtain ⟨_,oj,hoj,hdj⟩:=writer_spec hw
      have hoj' : ops[j]?=some oj:=toList_at.1 (by simpa using hoj)
      split at hx'
      · rename_i ha
        obtain ⟨y,hy,hv⟩:=d.new j oj (r.ancW d ha) hoj'
        have:=hg _ _ hx'
        rw [this] at hy; cases hy
        exact hv t hdj
      · split at hx'
        · rename_i ha
          refine d.old t (fun j' hj'=>?_) v hx'
          rw [hw] at hj'; cases hj'
          rcases Bool.or_eq_true _ _ ▸ ha with h1 | h1
          · exact r.not_ancW d (lt_of_at hoj') h1
          · have:=Nat.eq_of_beq_eq_true h1
            subst this; exact r.un
        · cases hx'
  | const c=>cases hx; rfl
  | global g=>cases hx; rfl
  | func f=>cases hx; rfl
theorem wantedF_sound {i:Nat} {o:Oper} {r0:ResF} {b:Bool} (hfit:fit ops.toList ops.toList 0=true) (hdst:∀ (j:Nat) (o:Oper),ops[j]?=some o→dstOk n o=true)
    (d:DInvW B G n n0 P ops fr0 ρ0 w0 dn cs res H held als listed ρ a w) (r:Rd ops listed i o) (hg:GrF r0 res) (h:wantedF (ancs [] ops.toList) r0 i o=some b) :
    Region.wanted o (yielded ops a.tmps)=b:=by
  unfold wantedF at h
  split at h
  · rename_i hn; cases h; simp [Region.wanted,hn]
  · rename_i g hgd
    obtain ⟨j,want⟩:=g
    have hone:=fit_spec hfit i o (toList_at.2 r.at')
    unfold fitOne at hone
    simp only [Bool.and_eq_true] at hone
    have hgo:=hone.2
    rw [hgd] at hgo
    dsimp only at hgo
    split at hgo
    · rename_i oj hoj
      have hoj' : ops[j]?=some oj:=toList_at.1 hoj
      obtain ⟨t,ht⟩:=Option.isSome_iff_exists.1 hgo
      have slot:∀ {v:AV},isAnc (ancs [] ops.toList) i j=true→r0 j=some v→∃ u,a.tmps[t]?=some u∧VR ρ v u:=by
        intro v ha hv
        obtain ⟨y,hy,hv'⟩:=d.new j oj (r.ancW d ha) hoj'
        rw [hg _ _ hv] at hy; cases hy
        have hlt:t < n:=dstOk_lt (hdst j oj hoj') t ht
        have hsz:t < a.tmps.size:=Nat.lt_of_lt_of_le hlt d.tsz
        have:=hv' t ht
        refine ⟨a.tmps[t],by simp [hsz],?_⟩
        rw [Array.getD_eq_getD_getElem?] at this
        simpa [hsz] using this
      unfold wantedRF at h
      split at h
      · rename_i b' ha hb
        obtain ⟨u,hu,hv⟩:=slot ha hb
        cases hv
        have hyl:yielded ops a.tmps j=some b':=by simp [yielded,hoj',ht,hu]
        simp only [Region.wanted,hgd,hyl]
        revert h
        cases b' <;> cases want <;> simp <;> exact fun h=>h ▸ rfl
      · rename_i vs ha hb
        obtain ⟨u,hu,hv⟩:=slot ha hb
        cases hv
        cases h
        have hyl:yielded ops a.tmps j=none:=by simp [yielded,hoj',ht,hu]
        simp [Region.wanted,hgd,hyl]
      · cases h
    · cases hgo
theorem DInvW.go {i:Nat} {o:Oper} {ρ' : Rn} {w' : World} {u:Value} {v:AV} {dn' cs' : List Nat} {res' : ResF} {H' : Mem} {held' : List Nat} {als' : Als}
    (hfit:fit ops.toList ops.toList 0=true) (hdst:∀ (j:Nat) (o:Oper),ops[j]?=some o→dstOk n o=true)
    (d:DInvW B G n n0 P ops fr0 ρ0 w0 dn cs res H held als listed ρ a w) (r:Rd ops listed i o)
    (hext:Ext B n0 ρ w ρ' w') (hsub:Sub ρ ρ') (hs:Sim B G ρ' H' w') (hle:n0≤H'.next) (hgr:GrF res res') (hv:res' i=some v) (hr:VR ρ' v u)
    (hchain:chainOf ops.toList 0=dn'++cs') (hcs:∀ c∈cs',c≠i∧c∈cs)
    (hkn:∀ j oj,j≠i→¬Dn listed j→ops[j]?=some oj→isChain oj.op=false→countAnc (ancs [] ops.toList) j (dn'++cs')≤dn'.length→KnownW B P ops (ancs [] ops.toList) fr0 res' held' als' j oj)
    (haok:AlsOK n0 H' als') (haln:∀ x∈als',x.1≠i→¬Dn listed x.1→ρ' x.2.1=none) :
    DInvW B G n n0 P ops fr0 ρ0 w0 dn' cs' res' H' held' als' (listed.setIfInBounds i true) ρ' (a.put o.dst u) w':=by
  have hi:i < listed.size:=by rw [d.size]; exact lt_of_at r.at'
  have dset:∀ j,Dn (listed.setIfInBounds i true) j↔j=i∨Dn listed j:=fun j=>Dn.set hi
  refine ⟨d.ext.trans hext (Nat.le_refl _),hs,hle,by simp [d.size],by rw [put_size]; exact d.tsz,by rw [put_defers]; exact d.dfr.mono hsub,d.only,hchain,?_,?_,?_,?_,?_,haok,?_⟩
  · intro c hc hd
    rcases (dset c).1 hd with e | h
    · exact (hcs c hc).1 e
    · exact d.csN c (hcs c hc).2 h
  · intro j oj hj hoj e he hb
    rcases (dset j).1 hj with e1 | h
    · subst e1
      rw [r.at'] at hoj; cases hoj
      exact (dset _).2 (.inr (r.all e he hb))
    · exact (dset _).2 (.inr (d.down j oj h hoj e he hb))
  · intro t ht y hy
    have hne:o.dst≠some t:=fun e=>ht i (fitW hfit r.at' e) ((dset i).2 (.inl rfl))
    rw [put_ne hne]
    exact (d.old t (fun j hj hd=>ht j hj ((dset j).2 (.inr hd))) y hy).mono hsub
  · intro j oj hj hoj
    by_cases e:j=i
    · subst e
      rw [r.at'] at hoj; cases hoj
      refine ⟨v,hv,fun t ht=>?_⟩
      have hlt:t < a.tmps.size:=Nat.lt_of_lt_of_le (dstOk_lt (hdst j _ r.at') t ht) d.tsz
      rw [ht,put_at hlt]; exact hr
    · rcases (dset j).1 hj with e1 | h
      · exact absurd e1 e
      · obtain ⟨y,h1,h2⟩:=d.new j oj h hoj
        refine ⟨y,hgr _ _ h1,fun t ht=>?_⟩
        have hne:o.dst≠some t:=by
          intro e1
          have h3:=fitW hfit r.at' e1
          rw [fitW hfit hoj ht] at h3
          exact e (Option.some.inj h3)
        rw [put_ne hne]
        exact (h2 t ht).mono hsub
  · intro j oj hj hoj hc hcnt
    exact hkn j oj (fun e=>hj ((dset j).2 (.inl e))) (fun h=>hj ((dset j).2 (.inr h))) hoj hc hcnt
  · intro x hx hd
    exact haln x hx (fun e=>hd ((dset _).2 (.inl e))) (fun h=>hd ((dset _).2 (.inr h)))
structure GInvW (B G n n0:Nat) (P:Program) (W:WF) (ops:Array Oper) (fr0:Fr) (ρ0:Rn) (w0:World) (Q:Out→Prop) (listed:Array Bool) (a:Act) (w:World) : Prop where
  go:∃ dn cs res H held als ρ,DInvW B G n n0 P ops fr0 ρ0 w0 dn cs res H held als listed ρ a w∧(∀ c∈dn,Dn listed c)∧(∀ x∈als,G≤x.2.1) ∧
    gateW P W ops (ancs [] ops.toList) fr0 (dn++cs) Q dn.length cs res H held als
theorem quietW_step {i:Nat} {o:Oper} (hG:G=P.globals.size) (hfit:fit ops.toList ops.toList 0=true) (hdst:∀ (j:Nat) (o:Oper),ops[j]?=some o→dstOk n o=true)
    (hGn:∀ x∈als,G≤x.2.1) (d:DInvW B G n n0 P ops fr0 ρ0 w0 dn cs res H held als listed ρ a w) (hdl:∀ c∈dn,Dn listed c)
    (hg:gateW P W ops (ancs [] ops.toList) fr0 (dn++cs) Q dn.length cs res H held als) (r:Rd ops listed i o) (hc:isChain o.op=false)
    {K:Act→World→Prop} (hK:∀ a' w',GInvW B G n n0 P W ops fr0 ρ0 w0 Q (listed.setIfInBounds i true) a' w'→K a' w') :
    wpOp P ops (PostQ B G n n0 ρ0 w0 Q) i K a w:=by
  have hg0:=hg
  obtain ⟨hre,hst,_⟩:=hg
  have hcnt:countAnc (ancs [] ops.toList) i (dn++cs)≤dn.length:=by
    refine countAnc_le fun c hcm=>?_
    cases hb:isAnc (ancs [] ops.toList) i c with
    | false=>rfl
    | true=>exact absurd (r.ancW d hb) (d.csN c hcm)
  obtain ⟨r0,v,hgr,hv,hk⟩:=d.known i o r.un r.at' hc hcnt
  have hno:=fit_no hfit r.at'
  have hci:∀ c∈cs,c≠i∧c∈cs:=by
    intro c hcm
    refine ⟨?_,hcm⟩
    rintro rfl
    have hmem:c∈chainOf ops.toList 0:=by rw [d.chain]; simp [hcm]
    obtain ⟨_,o',ho',hch⟩:=mem_chainOf.1 hmem
    have h2:ops[c]?=some o':=toList_at.1 (by simpa using ho')
    rw [r.at'] at h2; cases h2
    rw [hc] at hch; cases hch
  have fin' : ∀ (ρ' : Rn) (u:Value) (w' : World),Ext B n0 ρ w ρ' w'→Sub ρ ρ'→Sim B G ρ' H w'→VR ρ' v u→(∀ x∈als,x.1≠i→¬Dn listed x.1→ρ' x.2.1=none)→K (a.put o.dst u) w':=by
    intro ρ' u w' he hsub hs hvr haln
    refine hK _ _ ⟨dn,cs,res,H,held,als,ρ',?_,fun c hc'=>(Dn.set (by rw [d.size]; exact lt_of_at r.at')).2 (.inr (hdl c hc')),hGn,hg0⟩
    exact d.go hfit hdst r he hsub hs d.le (GrF.refl _) hv hvr d.chain hci (fun j oj _ hj hoj hcj hn=>d.known j oj hj hoj hcj hn) d.aok haln
  have hev:=envF_EvR d r hgr
  have base:=fun b hb=>wantedF_sound (b:=b) hfit hdst d r hgr hb
  unfold wpOp
  rw [r.at']
  dsimp only
  rcases hk with ⟨hw,rfl⟩ | ⟨hw,hk⟩
  · rw [if_neg (by rw [base _ hw]; simp)]
    exact fin' ρ undef w (Ext.refl _ _ _ _) (Sub.refl _) d.sim rfl (fun x hx _ hd=>d.alsN x hx hd)
  · rw [if_pos (base _ hw)]
    left
    have val:RS B G P ρ H w (.val v H) (execOp a.eval o)→o.wp P a w K (PostQ B G n n0 ρ0 w0 Q):=by
      rintro ⟨ρ',u,w',h1,h2,h3,h4,_⟩
      unfold Oper.wp
      rw [h1]
      refine fin' ρ' u w' ⟨fun x hx=>h2.same x (Nat.lt_of_lt_of_le hx d.le),h2.below⟩ (h2.sub d.sim) h3 h4 fun x hx _ hd=>?_
      rw [h2.same _ (d.aok.hi x hx)]
      exact d.alsN x hx hd
    rcases hk with ⟨_,hfree⟩ | ⟨_,hgen⟩ | ⟨hcl,hh⟩ | ⟨f,x,nm,hnd,rfl,hmem⟩
    · have:=opV_sound (o:=o) d.sim hev hG
      rw [hfree H] at this
      exact val this
    · have:=s_gen (B:=B) (G:=G) (P:=P) (H:=H) d.sim hev (not_select hno)
      rw [hgen] at this
      exact val this
    · obtain ⟨o',v',ho',hv',hq⟩:=recheckW_spec hre i hh
      rw [r.at'] at ho'; cases ho'
      rw [hv] at hv'; cases hv'
      have hev':=envF_EvR d r (GrF.refl res)
      have:=opV_sound (o:=o) d.sim hev' hG
      rw [quiet_opV hcl hq] at this
      exact val this
    · have hnm:=d.alsN _ hmem r.un
      have hget:=staysW_spec hst i nm x hmem
      obtain ⟨ob,k,u,w',h1,h2,h3,h4,h5,h6⟩:=hnd ρ w a.eval hev d.sim.base
      obtain ⟨hb,hvr⟩:=h6 nm hnm
      have hlo:n0≤nm:=d.aok.lo _ hmem
      have hhi:nm < H.next:=d.aok.hi _ hmem
      unfold Oper.wp
      rw [h1]
      refine fin' _ u w' ?_ (sub_upd hnm) (d.sim.named hget hnm hhi (hGn _ hmem) h2 hb) hvr fun y hy hyi hyd=>?_
      · exact ⟨fun y hy=>upd_ne _ _ (Nat.ne_of_lt (Nat.lt_of_lt_of_le hy hlo)),(Ext.alloc ρ n0 (w.heap.size,0,k) w w' ob h2 h3 h4 h5 d.sim.base).below⟩
      · have:y.2.1≠nm:=by
          intro e
          have:=d.aok.own y hy _ hmem e
          exact hyi (by rw [this])
        rw [upd_ne _ _ this]
        exact d.alsN y hy hyd
theorem actW_step (hW:WOK G P W) {i:Nat} {o:Oper} (hG:G=P.globals.size) (hord:ordered (ancs [] ops.toList) (chainOf ops.toList 0)=true) (hfit:fit ops.toList ops.toList 0=true)
    (hdst:∀ (j:Nat) (o:Oper),ops[j]?=some o→dstOk n o=true)
    (hGn:∀ x∈als,G≤x.2.1) (d:DInvW B G n n0 P ops fr0 ρ0 w0 dn cs res H held als listed ρ a w) (hdl:∀ c∈dn,Dn listed c)
    (hg:gateW P W ops (ancs [] ops.toList) fr0 (dn++cs) Q dn.length cs res H held als) (r:Rd ops listed i o) (hc:isChain o.op=true)
    {K:Act→World→Prop} (hK:∀ a' w',GInvW B G n n0 P W ops fr0 ρ0 w0 Q (listed.setIfInBounds i true) a' w'→K a' w') :
    wpOp P ops (PostQ B G n n0 ρ0 w0 Q) i K a w:=by
  obtain ⟨hre,hst,hn⟩:=hg
  have hmem:i∈dn++cs:=by
    rw [← d.chain]
    exact mem_chainOf.2 ⟨Nat.zero_le _,o,by simpa using r.at',hc⟩
  rcases List.mem_append.1 hmem with h | hics
  · exact absurd (hdl i h) r.un
  cases cs with
  | nil=>cases hics
  | cons c cs =>
  have hic:i=c:=by
    rcases List.mem_cons.1 hics with h | h
    · exact h
    · obtain ⟨p,hp,ha⟩:=ordered_next (dn:=dn) (c:=c) (cs:=cs) (by rw [← d.chain]; exact hord) i h
      exact absurd (r.ancW d ha) (d.csN p hp)
  subst hic
  have hi:i < listed.size:=by rw [d.size]; exact lt_of_at r.at'
  have hnd:(dn++i :: cs)=(dn++[i])++cs:=by simp
  have hcs:∀ c∈cs,c≠i∧c∈i :: cs:=by
    intro c hcm
    refine ⟨?_,List.mem_cons_of_mem _ hcm⟩
    rintro rfl
    obtain ⟨p,hp,ha⟩:=ordered_next (dn:=dn) (c:=c) (cs:=cs) (by rw [← d.chain]; exact hord) c hcm
    exact absurd (r.ancW d ha) (d.csN p hp)
  have nxt' : ∀ (v:AV) (H' : Mem) (ρ' : Rn) (u:Value) (w' : World) (res' : ResF),GrF res res'→res' i=some v→Ext B H.next ρ w ρ' w'→Sim B G ρ' H' w'→VR ρ' v u→H.next≤H'.next →
      stagesW P W ops (ancs [] ops.toList) fr0 (dn++i :: cs) Q (dn.length+1) cs res' H' (still (ancs [] ops.toList) i held) (stillA (ancs [] ops.toList) i als)→K (a.put o.dst u) w':=by
    intro v H' ρ' u w' res' hgr hv he hs hvr hle hst'
    rw [stagesW_eq] at hst'
    obtain ⟨res2,H2,held2,als2,h1,f⟩:=stageW_sound (B:=B) (stageOf (ancs [] ops.toList) (dn++i :: cs) (dn.length+1) ops.toList 0) res' H' _ _ (by
      intro j hj
      obtain ⟨_,oj,hoj,hcj,_⟩:=mem_stageOf.1 hj
      have hoj' : ops[j]?=some oj:=toList_at.1 (by simpa using hoj)
      exact ⟨oj,hoj',hcj,fit_no hfit hoj'⟩) hst'
    have hlen:(dn++[i]).length=dn.length+1:=by simp
    refine hK _ _ ⟨dn++[i],cs,res2,H2,held2,als2,ρ',?_,?_,?_,?_⟩
    · refine d.go hfit hdst r ⟨fun x hx=>he.same x (Nat.lt_of_lt_of_le hx d.le),he.below⟩ (he.sub d.sim) (f.ph.sim hs) (Nat.le_trans d.le (Nat.le_trans hle f.ph.le)) (hgr.trans f.gr) (f.gr _ _ hv) hvr
        (by rw [d.chain,hnd]) hcs ?_ ?_ ?_
      · intro j oj hji hjn hoj hcj hcnt
        rw [hlen,← hnd] at hcnt
        rcases Nat.lt_or_ge (countAnc (ancs [] ops.toList) j (dn++i :: cs)) (dn.length+1) with h | h
        · have hna:isAnc (ancs [] ops.toList) i j=false:=by
            cases hb:isAnc (ancs [] ops.toList) i j with
            | false=>rfl
            | true=>exact absurd (r.ancW d hb) hjn
          exact (d.known j oj hjn hoj hcj (by omega)).mono (hgr.trans f.gr) (fun h=>f.keepH _ (mem_still hna h)) fun nm x h=>f.keepA _ (mem_stillA hna h)
        · exact f.known j (mem_stageOf.2 ⟨Nat.zero_le _,oj,by simpa using hoj,hcj,by omega⟩) oj hoj
      · exact f.ok n0 (Nat.le_trans d.le hle) (d.aok.sub (fun x hx=>stillA_sub x hx) hle)
      · intro x hx hxi hxn
        rcases f.new x hx with h | h
        · have hx':=stillA_sub x h
          rw [he.same _ (d.aok.hi x hx')]
          exact d.alsN x hx' hxn
        · exact hs.fresh _ h
    · intro c hcm
      rcases List.mem_append.1 hcm with h | h
      · exact (Dn.set hi).2 (.inr (hdl c h))
      · simp at h; exact (Dn.set hi).2 (.inl h)
    · intro x hx
      rcases f.new x hx with h | h
      · exact hGn x (stillA_sub x h)
      · exact Nat.le_trans hs.names h
    · rw [hlen,← hnd]; exact h1
  have hev:=envF_EvR d r (GrF.refl res)
  have base:=fun b hb=>wantedF_sound (b:=b) hfit hdst d r (GrF.refl res) hb
  unfold wpOp
  rw [r.at']
  dsimp only
  unfold nxtW actW at hn
  dsimp only at hn
  rw [r.at'] at hn
  dsimp only at hn
  rcases wantedW_ok hn with ⟨hw,hm⟩ | ⟨hw,hm⟩
  · rw [if_pos (base _ hw)]
    left
    have hrs:=opV_sound (o:=o) d.sim hev hG
    unfold Oper.wp
    cases hr:opV P H (envF ops (ancs [] ops.toList) fr0 res i) o with
    | val v H' =>
      rw [hr] at hrs hm
      obtain ⟨ρ',u,w',h1,h2,h3,h4,h5⟩:=hrs
      rw [h1]
      simp only [actRW] at hm
      obtain ⟨res',g1,g2,g3⟩:=setW_ok hm
      exact nxt' v H' ρ' u w' res' g2 g3 h2 h3 h4 h5 g1
    | skip H' =>
      rw [hr] at hrs hm
      obtain ⟨ρ',w',h1,h2,h3,h5⟩:=hrs
      rw [h1]
      simp only [actRW] at hm
      obtain ⟨res',g1,g2,g3⟩:=setW_ok hm
      exact nxt' _ H' ρ' undef w' res' g2 g3 h2 h3 rfl h5 g1
    | enter f args H' =>
      rw [hr] at hrs hm
      obtain ⟨us,h1,h2,rfl⟩:=hrs
      rw [h1]
      have hm':=hW _ _ _ _ (show W f args H' _ from hm)
      refine (hm' B ρ us w d.sim h2).mono fun e w' ⟨r',hkr,hc'⟩=>?_
      cases r' with
      | bad=>exact hkr.elim
      | ret v H2 =>
        obtain ⟨res',g1,g2,g3⟩:=setW_ok hkr
        cases e with
        | returned u =>
          obtain ⟨ρ',k1,k2,k3,k4⟩:=hc'
          exact nxt' v H2 ρ' u w' res' g2 g3 k1 k2 k3 k4 g1
        | panicked chain=>exact hc'.elim
        | outgrown=>exact hc'.elim
      | panic v H2 =>
        cases e with
        | returned u=>exact hc'.elim
        | panicked chain =>
          obtain ⟨ρ',u,g0,g1,g2,g3,g4⟩:=hc'
          refine ⟨_,hkr,ρ',u,g0,g1,?_,g3,?_,Nat.le_trans d.le g4⟩
          · exact d.ext.trans ⟨fun x hx=>g2.same x (Nat.lt_of_lt_of_le hx d.le),g2.below⟩ (Nat.le_refl _)
          · exact ⟨(fun t v hv _=>(by rw [Fr.get_clear] at hv; cases hv)),(by rw [Fr.defers_clear]; exact d.dfr.mono (g2.sub d.sim)),d.tsz,(fun t v hv=>(by rw [Fr.get_clear] at hv; cases hv))⟩
        | outgrown=>exact hc'.elim
    | dfr fn cap args H'=>rw [hr] at hm; exact hm.elim
    | recover=>rw [hr] at hm; exact hm.elim
    | panic v H'=>rw [hr] at hm; exact hm.elim
    | bad=>rw [hr] at hm; exact hm.elim
  · rw [if_neg (by rw [base _ hw]; simp)]
    obtain ⟨res',h1,h2,h3⟩:=setW_ok hm
    exact nxt' _ H ρ undef w res' h2 h3 (Ext.refl _ _ _ _) d.sim rfl (Nat.le_refl _) h1
theorem finW_sound {res:ResF} {K:Fr→Prop} : ∀ (l:List Oper) (i:Nat) (fr:Fr),finW res K l i fr →
    ∃ fr',K fr'∧fr'.defers=fr.defers∧∀ t v,fr'.get t=some v→(∃ j o,l[j]?=some o∧o.dst=some t∧res (i+j)=some v)∨((∀ o∈l,o.dst≠some t)∧fr.get t=some v)
  | [],i,fr,h=>⟨fr,h,rfl,fun t v hv=>.inr ⟨(fun _ h=>(by cases h)),hv⟩⟩
  | o :: l,i,fr,h=>by
    unfold finW at h
    split at h
    · rename_i v hv
      obtain ⟨fr',h1,h2,h3⟩:=finW_sound l (i+1) _ h
      refine ⟨fr',h1,?_,?_⟩
      · rw [h2]
        unfold Fr.put
        cases o.dst with
        | none=>rfl
        | some d=>exact Fr.defers_upd _ _ _
      · intro t y hy
        rcases h3 t y hy with ⟨j,oj,hj,hd,hr⟩ | ⟨hd,hg⟩
        · exact .inl ⟨j+1,oj,by simpa using hj,hd,by rw [← hr]; congr 1; omega⟩
        · cases hdo:o.dst with
          | none =>
            rw [hdo] at hg
            exact .inr ⟨fun o' ho' => by rcases List.mem_cons.1 ho' with rfl | h; · rw [hdo]; simp
                                         exact hd o' h,hg⟩
          | some d =>
            rw [hdo] at hg
            have hg' : (fr.upd d v).get t=some y:=hg
            rcases Fr.get_upd hg' with ⟨rfl,rfl⟩ | ⟨hne2,hg'⟩
            · exact .inl ⟨0,o,rfl,hdo,hv⟩
            · refine .inr ⟨fun o' ho'=>?_,hg'⟩
              rcases List.mem_cons.1 ho' with rfl | h
              · rw [hdo]; intro e; exact hne2 (Option.some.inj e).symm
              · exact hd o' h
    · exact h.elim
theorem doneW_post (hfit:fit ops.toList ops.toList 0=true) (hr:Region.ready .any ops listed=[]) (g:GInvW B G n n0 P W ops fr0 ρ0 w0 Q listed a w)
    (hdst:∀ (j:Nat) (o:Oper),ops[j]?=some o→dstOk n o=true) : PostQ B G n n0 ρ0 w0 Q .normal a w:=by
  obtain ⟨dn,cs,res,H,held,als,ρ,d,hdl,hGn,hg⟩:=g.go
  have hall:=all_done hfit d.size hr
  obtain ⟨_,_,hn⟩:=hg
  cases cs with
  | cons c cs =>
    exfalso
    refine d.csN c (by simp) (hall c ?_)
    have hmem:c∈chainOf ops.toList 0:=by rw [d.chain]; simp
    obtain ⟨_,o,ho,_⟩:=mem_chainOf.1 hmem
    exact lt_of_at (toList_at.1 (by simpa using ho))
  | nil =>
    have hn' : finW res (fun fr=>Q (.norm fr H)) ops.toList 0 fr0:=hn
    obtain ⟨fr',h1,h2,h3⟩:=finW_sound ops.toList 0 fr0 hn'
    have key:∀ t v,fr'.get t=some v→t < n∧VR ρ v (a.tmps.getD t undef):=by
      intro t v hv
      rcases h3 t v hv with ⟨j,o,hj,hd,hrs⟩ | ⟨hd,hg0⟩
      · have hj' : ops[j]?=some o:=toList_at.1 hj
        rw [Nat.zero_add] at hrs
        obtain ⟨y,hy,hv'⟩:=d.new j o (hall j (lt_of_at hj')) hj'
        rw [hrs] at hy; cases hy
        exact ⟨dstOk_lt (hdst j o hj') t hd,hv' t hd⟩
      · refine ⟨d.only t v hg0,d.old t (fun j hj=>?_) v hg0⟩
        obtain ⟨_,o,ho,hdo⟩:=writer_spec hj
        exact absurd hdo (hd o (List.mem_of_getElem? ho))
    exact ⟨_,h1,ρ,d.ext,d.sim,⟨fun t v hv _=>(key t v hv).2,by rw [h2]; exact d.dfr,d.tsz,fun t v hv=>(key t v hv).1⟩,d.le⟩
theorem wpAnyW_go (hW:WOK G P W) (hG:G=P.globals.size) (hord:ordered (ancs [] ops.toList) (chainOf ops.toList 0)=true) (hfit:fit ops.toList ops.toList 0=true)
    (hdst:∀ (j:Nat) (o:Oper),ops[j]?=some o→dstOk n o=true) : ∀ (fuel:Nat) (listed:Array Bool) (a:Act) (w:World),
    (∃ l:List Nat,l.Nodup∧l.length=fuel∧∀ i,i < ops.size→Dn listed i∨i∈l)→GInvW B G n n0 P W ops fr0 ρ0 w0 Q listed a w →
    wpAny P .any ops (PostQ B G n n0 ρ0 w0 Q) fuel listed a w:=by
  intro fuel
  induction fuel with
  | zero =>
    rintro listed a w ⟨l,_,hl,hc⟩ g
    have hnil:l=[]:=List.length_eq_zero_iff.1 hl
    subst hnil
    have hr:Region.ready .any ops listed=[]:=by
      cases hx:Region.ready .any ops listed with
      | nil=>rfl
      | cons i is =>
        exfalso
        obtain ⟨o,ro⟩:=rd_of (ops:=ops) (listed:=listed) (i:=i) (by rw [hx]; simp)
        rcases hc i (lt_of_at ro.at') with h | h
        · exact ro.un h
        · cases h
    exact ⟨hr,doneW_post hfit hr g hdst⟩
  | succ fuel ih =>
    rintro listed a w ⟨l,hnd,hl,hc⟩ g
    refine ⟨fun hr=>doneW_post hfit hr g hdst,fun i hi=>?_⟩
    obtain ⟨o,ro⟩:=rd_of hi
    obtain ⟨dn,cs,res,H,held,als,ρ,d,hdl,hGn,hg⟩:=g.go
    have hil:i∈l:=(hc i (lt_of_at ro.at')).resolve_left ro.un
    have hsz:i < listed.size:=by rw [d.size]; exact lt_of_at ro.at'
    have hK:∀ a' w',GInvW B G n n0 P W ops fr0 ρ0 w0 Q (listed.setIfInBounds i true) a' w'→wpAny P .any ops (PostQ B G n n0 ρ0 w0 Q) fuel (listed.setIfInBounds i true) a' w':=by
      intro a' w' g'
      refine ih _ a' w' ⟨l.erase i,hnd.erase i,by rw [List.length_erase_of_mem hil]; omega,fun j hj=>?_⟩ g'
      rcases hc j hj with h | h
      · exact .inl ((Dn.set hsz).2 (.inr h))
      · by_cases e:j=i
        · exact .inl ((Dn.set hsz).2 (.inl e))
        · exact .inr ((List.mem_erase_of_ne e).2 h)
    cases hch:isChain o.op with
    | false=>exact quietW_step hG hfit hdst hGn d hdl hg ro hch hK
    | true=>exact actW_step hW hG hord hfit hdst hGn d hdl hg ro hch hK
theorem drawnW_sound (hW:WOK G P W) {id:Nat} (hG:G=P.globals.size) (s:St B G n n0 ρ0 w0 ρ fr0 H a w) (hd:dstsOk n (.region id ops true)=true)
    (h:drawnW P W ops fr0 H Q) : (Code.region id ops true).wp P (PostQ B G n n0 ρ0 w0 Q) a w:=by
  obtain ⟨hplan,hmix,hout⟩:=h
  unfold planOk at hplan
  simp only [Bool.and_eq_true] at hplan
  obtain ⟨⟨_,hord⟩,hfit⟩:=hplan
  have hdst:∀ (j:Nat) (o:Oper),ops[j]?=some o→dstOk n o=true:=fun j o hj=>List.all_eq_true.1 hd o (List.mem_of_getElem? (toList_at.2 hj))
  refine wp_region_any hmix ?_
  have un:∀ i,¬Dn (Array.replicate ops.size false) i:=by
    intro i hi
    unfold Dn at hi
    rw [Array.getD_eq_getD_getElem?,Array.getElem?_replicate] at hi
    split at hi <;> cases hi
  refine wpAnyW_go (fr0:=fr0) (ρ0:=ρ0) (w0:=w0) hW hG hord hfit hdst ops.size _ a _ ⟨List.range ops.size,List.nodup_range,by simp,fun i hi=>.inr (by simpa using hi)⟩ ?_
  rw [stagesW_eq] at hout
  obtain ⟨res2,H2,held2,als2,h1,f⟩:=stageW_sound (B:=B) (stageOf (ancs [] ops.toList) (chainOf ops.toList 0) 0 ops.toList 0) (fun _=>none) H [] [] (by
    intro j hj
    obtain ⟨_,oj,hoj,hcj,_⟩:=mem_stageOf.1 hj
    have hoj' : ops[j]?=some oj:=toList_at.1 (by simpa using hoj)
    exact ⟨oj,hoj',hcj,fit_no hfit hoj'⟩) hout
  have hs:Sim B G ρ H { w with drawn:=w.drawn+1 }:=s.sim.heap rfl
  have hb:Below B w { w with drawn:=w.drawn+1 }:=⟨rfl,rfl,rfl,Nat.le_refl _,fun _ _=>rfl⟩
  refine ⟨[],chainOf ops.toList 0,res2,H2,held2,als2,ρ,?_,(fun _ h=>(by cases h)),?_,h1⟩
  · refine ⟨s.ext.trans ⟨fun _ _=>rfl,hb⟩ (Nat.le_refl _),f.ph.sim hs,Nat.le_trans s.le f.ph.le,by simp,s.frel.size,s.frel.dfr,s.frel.only,rfl,fun c _=>un c,fun i _ h=>absurd h (un i),
      fun t _ v hv=>s.frel.slot t v hv (s.frel.only t v hv),fun j _ h=>absurd h (un j),?_,f.ok n0 s.le (AlsOK.nil _ _),?_⟩
    · intro i o _ ho hc hcnt
      exact f.known i (mem_stageOf.2 ⟨Nat.zero_le _,o,by simpa using ho,hc,by simpa using hcnt⟩) o ho
    · intro x hx _
      rcases f.new x hx with h | h
      · cases h
      · exact hs.fresh _ h
  · intro x hx
    rcases f.new x hx with h | h
    · cases h
    · exact Nat.le_trans hs.names h
end Go.Ai
end
section
namespace Go.Ai
inductive It where
  | run (i:Nat)
  | mk (i:Nat)
  | gate (hs as:List Nat)
  deriving DecidableEq,Repr
structure Hs where
  cl:List Nat
  di:List Nat
  acl:List Nat
  adi:List Nat
def planStage (ops:List Oper) : List Nat→Hs→(Hs→List It)→List It
  | [],s,K=>K s
  | i :: l,s,K=>match ops[i]? with
    | some o=>match cls o.op with
      | .alloc=>.mk i :: planStage ops l ⟨[],s.cl++s.di,[i],s.acl++s.adi⟩ K
      | .read=>.run i :: planStage ops l ⟨i :: s.cl,s.di,s.acl,s.adi⟩ K
      | _=>.run i :: planStage ops l s K
    | none=>[]
def gateK (s:Hs) (K:Hs→List It) : List It:=match s.di,s.adi with
  | [],[]=>K s
  | _,_=>.gate s.di s.adi :: K ⟨s.di++s.cl,[],s.adi++s.acl,[]⟩
def planIn (tab all:List Nat) (ops:List Oper) : Nat→List Nat→Hs→List It
  | k,[],s=>planStage ops (stageOf tab all k ops 0) s fun s=>gateK s fun _=>[]
  | k,c :: cs,s=>planStage ops (stageOf tab all k ops 0) s fun s=>gateK s fun s =>
      .run c :: planIn tab all ops (k+1) cs ⟨[],s.cl.filter fun i=>!isAnc tab c i,[],s.acl.filter fun i=>!isAnc tab c i⟩
def planOf (ops:List Oper) : List It:=planIn (ancs [] ops) (chainOf ops 0) ops 0 (chainOf ops 0) ⟨[],[],[],[]⟩
def tmpsOf (o:Oper) : List Tmp:=o.op.operands.toList.filterMap fun x=>match x with | .tmp t=>some t | _=>none
def cmpW (tab:List Nat) (ops:List Oper) (i:Nat) (t:Tmp) : Bool:=match writer t ops 0 with
  | none=>true
  | some j=>isAnc tab i j || (isAnc tab j i || Nat.beq i j)
def ahead (tab:List Nat) (ops:List Oper) (i:Nat) (t:Tmp) : Bool:=match writer t ops 0 with
  | none=>true
  | some j=>isAnc tab i j
def plainT (P:Program) (t:TypeId) : Bool:=match P.underlying t with | some (.slice _)=>false | some _=>true | none=>false
def convFit (P:Program) (o:Oper) : Bool:=match o.op with
  | .convert s d _=>plainT P s && plainT P d
  | _=>true
def flatOne (P:Program) (tab:List Nat) (ops:List Oper) (o:Oper) (i:Nat) : Bool :=
  (tmpsOf o).all (cmpW tab ops i) && (match o.guard with | none=>true | some g=>isAnc tab i g.1) && convFit P o
def flatAll (P:Program) (tab:List Nat) (ops:List Oper) : List Oper→Nat→Bool
  | [],_=>true
  | o :: l,i=>flatOne P tab ops o i && flatAll P tab ops l (i+1)
def againFit (tab:List Nat) (ops:List Oper) (i:Nat) : Bool:=match ops[i]? with
  | some o=>o.dst.isSome && (tmpsOf o).all (ahead tab ops i)
  | none=>false
def topo (tab:List Nat) (ops:List Oper) : Nat→List It→Bool
  | s,[]=>Nat.beq (s+1) (2 ^ ops.length)
  | s,.run i :: l=>!s.testBit i && Nat.beq ((tab.getD i 0) &&& s) (tab.getD i 0) && topo tab ops (s ||| 2 ^ i) l
  | s,.mk i :: l=>!s.testBit i && Nat.beq ((tab.getD i 0) &&& s) (tab.getD i 0) && topo tab ops (s ||| 2 ^ i) l
  | s,.gate hs _ :: l=>hs.all (againFit tab ops) && topo tab ops s l
def flatOk (P:Program) (ops:List Oper) : Bool :=
  planOk ops && Tables.follows P.toTables .mixedOrders && flatAll P (ancs [] ops) ops ops 0 && topo (ancs [] ops) ops 0 (planOf ops)
end Go.Ai
end
section
namespace Go.Ai
variable {P:Program} {H:Mem} {ev ev' : Ev}
theorem evals_congr:∀ {l:List Operand},(∀ x∈l,ev x=ev' x)→evals ev l=evals ev' l
  | [],_=>rfl
  | x :: l,h=>by
    unfold evals
    rw [h x (by simp),evals_congr fun y hy=>h y (by simp [hy])]
theorem evalParts_congr:∀ {l:List (Nat×Operand)},(∀ x∈l.map (·.2),ev x=ev' x)→evalParts ev l=evalParts ev' l
  | [],_=>rfl
  | (i,x) :: l,h=>by
    unfold evalParts
    rw [h x (by simp),evalParts_congr fun y hy=>h y (by simp at hy ⊢; exact .inr hy)]
theorem all_congr' {α:Type} {p q:α→Bool} : ∀ {l:List α},(∀ x∈l,p x=q x)→l.all p=l.all q
  | [],_=>rfl
  | x :: l,h=>by
    simp only [List.all_cons]
    rw [h x (by simp),all_congr' fun y hy=>h y (by simp [hy])]
theorem ite_pure {c c' : Bool} {s s' : Sem Next} (h1:c=c') (h2:s=s') : (if c=true then (match pureV P s with | some (.value v)=>some (AV.lit v) | _=>none) else none)=(if c'=true then (match pureV P s' with | some (.value v)=>some (AV.lit v) | _=>none) else none):=by
  rw [h1,h2]
theorem generic_congr {o:Oper} (hs:∀ cs b,o.op≠.select cs b) (h:∀ x∈o.op.operands.toList,ev x=ev' x) : generic P ev o=generic P ev' o:=by
  unfold generic
  have h1:(o.op.operands.toList.all fun x=>match ev x with | some v=>(match toLit v with | some _=>true | none=>false) | none=>false)=(o.op.operands.toList.all fun x=>match ev' x with | some v=>(match toLit v with | some _=>true | none=>false) | none=>false) :=
    all_congr' fun x hx=>by rw [h x hx]
  have h2:=execOp_congr (ρ:=fun x=>match ev x with | some v=>(match toLit v with | some u=>u | none=>undef) | none=>undef) (ρ':=fun x=>match ev' x with | some v=>(match toLit v with | some u=>u | none=>undef) | none=>undef) o hs
    fun x hx=>by rw [h x (by simpa using hx)]
  exact ite_pure h1 h2
theorem evOpt_congr {y:Option Operand} (h:∀ x∈y.toArray.toList,ev x=ev' x) : evOpt ev y=evOpt ev' y:=by
  cases y with
  | none=>rfl
  | some y=>unfold evOpt; dsimp only; rw [h y (by simp)]
theorem opV_evs {o:Oper} (hs:∀ cs b,o.op≠.select cs b) (h:∀ x∈o.op.operands.toList,ev x=ev' x) : opV P H ev o=opV P H ev' o:=by
  have hg:=generic_congr (P:=P) hs h
  unfold opV
  cases hop:o.op with
  | select cs b=>exact absurd hop (hs cs b)
  | move x=>rw [hop] at h; show oMove H (ev x)=oMove H (ev' x); rw [h x (by simp [Op.operands])]
  | assign x=>rw [hop] at h; show oMove H (ev x)=oMove H (ev' x); rw [h x (by simp [Op.operands])]
  | pick c a b=>rw [hop] at h; show oPick H (ev c) (ev a) (ev b)=oPick H (ev' c) (ev' a) (ev' b); rw [h c (by simp [Op.operands]),h a (by simp [Op.operands]),h b (by simp [Op.operands])]
  | alloc t=>rfl
  | box t x=>rw [hop] at h; show oBox H (ev x)=oBox H (ev' x); rw [h x (by simp [Op.operands])]
  | build t ps=>rw [hop] at h; show oBuild P H t (evalParts ev ps.toList)=oBuild P H t (evalParts ev' ps.toList); rw [evalParts_congr fun x hx=>h x (by simpa [Op.operands] using hx)]
  | buildSlice t n ps=>rw [hop] at h; show oBuildSlice P H t n (evalParts ev ps.toList)=oBuildSlice P H t n (evalParts ev' ps.toList); rw [evalParts_congr fun x hx=>h x (by simpa [Op.operands] using hx)]
  | insert t m k x=>rw [hop] at h; show oMapUpdate P H t (ev m) (ev k) (ev x)=oMapUpdate P H t (ev' m) (ev' k) (ev' x); rw [h m (by simp [Op.operands]),h k (by simp [Op.operands]),h x (by simp [Op.operands])]
  | mapUpdate t m k x=>rw [hop] at h; show oMapUpdate P H t (ev m) (ev k) (ev x)=oMapUpdate P H t (ev' m) (ev' k) (ev' x); rw [h m (by simp [Op.operands]),h k (by simp [Op.operands]),h x (by simp [Op.operands])]
  | load t a=>rw [hop] at h; show oLoad P H t (ev a)=oLoad P H t (ev' a); rw [h a (by simp [Op.operands])]
  | store t a x=>rw [hop] at h; show oStore P H t (ev a) (ev x)=oStore P H t (ev' a) (ev' x); rw [h a (by simp [Op.operands]),h x (by simp [Op.operands])]
  | nilCheck x=>rw [hop] at h; show oNilCheck P H ev o (ev x)=oNilCheck P H ev' o (ev' x); unfold oNilCheck; rw [h x (by simp [Op.operands]),hg]
  | binOp op t x y r=>rw [hop] at h; show oBin P H ev o op t (ev x) (ev y)=oBin P H ev' o op t (ev' x) (ev' y); unfold oBin; rw [h x (by simp [Op.operands]),h y (by simp [Op.operands]),hg]
  | unOp op t x=>show ofOpt H (generic P ev o)=ofOpt H (generic P ev' o); rw [hg]
  | convert s d x=>rw [hop] at h; show oConvert P H ev o s d (ev x)=oConvert P H ev' o s d (ev' x); unfold oConvert; rw [h x (by simp [Op.operands]),hg]
  | makeInterface t x=>rw [hop] at h; show oMakeInterface P H t (ev x)=oMakeInterface P H t (ev' x); rw [h x (by simp [Op.operands])]
  | makeFunc fn a b =>
    rw [hop] at h
    show oMakeFunc H fn (evals ev a.toList) (evals ev b.toList)=oMakeFunc H fn (evals ev' a.toList) (evals ev' b.toList)
    rw [evals_congr fun x hx=>h x (by simp only [Op.operands,Array.toList_append,List.mem_append]; exact .inl hx),evals_congr (l:=b.toList) fun x hx=>h x (by simp only [Op.operands,Array.toList_append,List.mem_append]; exact .inr hx)]
  | makeMap t r =>
    rw [hop] at h
    show oMakeMap P H ev t r=oMakeMap P H ev' t r
    unfold oMakeMap
    cases r with
    | none=>rfl
    | some x=>dsimp only; rw [h x (by simp [Op.operands])]
  | makeSlice t l c=>rw [hop] at h; show oMakeSlice P H t (ev l) (ev c)=oMakeSlice P H t (ev' l) (ev' c); rw [h l (by simp [Op.operands]),h c (by simp [Op.operands])]
  | slice t x lo hi mx =>
    rw [hop] at h
    show oSlice P H ev o t (ev x) lo hi mx=oSlice P H ev' o t (ev' x) lo hi mx
    unfold oSlice oSliceN
    simp only [Op.operands,Array.toList_append,List.mem_append] at h
    rw [h x (by simp),hg,evOpt_congr fun y hy=>h y (.inl (.inl (.inr hy))),evOpt_congr (y:=hi) fun y hy=>h y (.inl (.inr hy)),evOpt_congr (y:=mx) fun y hy=>h y (.inr hy)]
  | fieldAddr s x f=>rw [hop] at h; show oFieldAddr P H ev o s (ev x) f=oFieldAddr P H ev' o s (ev' x) f; unfold oFieldAddr orGen; rw [h x (by simp [Op.operands]),hg]
  | field t x f=>rw [hop] at h; show oField P H t (ev x) f=oField P H t (ev' x) f; rw [h x (by simp [Op.operands])]
  | indexAddr t x i=>rw [hop] at h; show oIndexAddr P H ev o t (ev x) (ev i)=oIndexAddr P H ev' o t (ev' x) (ev' i); unfold oIndexAddr orGen; rw [h x (by simp [Op.operands]),h i (by simp [Op.operands]),hg]
  | index t x i=>rw [hop] at h; show oIndex P H ev o t (ev x) (ev i)=oIndex P H ev' o t (ev' x) (ev' i); unfold oIndex; rw [h x (by simp [Op.operands]),h i (by simp [Op.operands]),hg]
  | lookup t m k ok=>rw [hop] at h; show oLookup P H ev o t (ev m) (ev k) ok=oLookup P H ev' o t (ev' m) (ev' k) ok; unfold oLookup; rw [h m (by simp [Op.operands]),h k (by simp [Op.operands]),hg]
  | range t x=>rw [hop] at h; show oRange P H t (ev x)=oRange P H t (ev' x); rw [h x (by simp [Op.operands])]
  | next x b=>rw [hop] at h; cases b with
    | true=>show oNext H (ev x)=oNext H (ev' x); rw [h x (by simp [Op.operands])]
    | false=>rfl
  | typeAssert x s t ok=>rw [hop] at h; show oTypeAssert P H ev o (ev x) t ok=oTypeAssert P H ev' o (ev' x) t ok; unfold oTypeAssert; rw [h x (by simp [Op.operands]),hg]
  | extract t i=>rw [hop] at h; show oExtract H (ev t) i=oExtract H (ev' t) i; rw [h t (by simp [Op.operands])]
  | panic x=>rw [hop] at h; show oPanic H (ev x)=oPanic H (ev' x); rw [h x (by simp [Op.operands])]
  | call c =>
    rw [hop] at h
    show callOp P H ev o c=callOp P H ev' o c
    have ha:evals ev c.args.toList=evals ev' c.args.toList:=evals_congr fun x hx=>h x (by simp only [Op.operands,Call.operands]; cases c.callee <;> simp_all)
    unfold callOp
    rw [ha]
    cases hc:c.callee with
    | value f=>dsimp only; rw [h f (by simp [Op.operands,Call.operands,hc])]
    | invoke r m=>dsimp only; unfold oInvoke; rw [h r (by simp [Op.operands,Call.operands,hc])]
    | builtin b=>cases evals ev' c.args.toList <;> cases b <;> simp only [oBuiltin,oLen,oCap,hg]
  | defer c =>
    rw [hop] at h
    show deferOp H ev c=deferOp H ev' c
    have ha:evals ev c.args.toList=evals ev' c.args.toList:=evals_congr fun x hx=>h x (by simp only [Op.operands,Call.operands]; cases c.callee <;> simp_all)
    unfold deferOp
    rw [ha]
    cases hc:c.callee with
    | value f=>cases evals ev' c.args.toList with
      | none=>rfl
      | some args=>dsimp only; rw [h f (by simp [Op.operands,Call.operands,hc])]
    | invoke r m=>cases evals ev' c.args.toList <;> rfl
    | builtin b=>cases evals ev' c.args.toList <;> rfl
  | _=>rfl
theorem noSelect {o:Oper} (h:cls o.op≠.no) : ∀ cs b,o.op≠.select cs b:=by
  intro cs b e
  rw [e] at h
  exact h rfl
end Go.Ai
end
section
namespace Go.Ai
variable {P:Program} {H:Mem} {ev:Ev} {o:Oper}
def vb:R→Bool
  | .val _ _=>true
  | .bad=>true
  | _=>false
theorem vb_opt (x:Option AV) : vb (ofOpt H x)=true:=by cases x <;> rfl
theorem vb_new (l:List AV) (b:Bool) (v:AV) : vb (newBlk H l b v)=true:=by unfold newBlk; rw [Mem.newK_eq]; rfl
theorem vb_free (h:freeOp o.op=true) : vb (opV P H ev o)=true:=by
  have gen:∀ (x:Option AV),vb (match (x:Option AV) with | some v=>R.val v H | none=>.bad)=true:=by intro x; cases x <;> rfl
  have or' : ∀ (x:Option AV),vb (orGen P H ev o x)=true:=by
    intro x; unfold orGen; cases x with
    | none=>exact vb_opt _
    | some v=>rfl
  unfold opV
  cases hop:o.op with
  | move x=>show vb (oMove H (ev x))=true; unfold oMove; cases ev x <;> rfl
  | assign x=>show vb (oMove H (ev x))=true; unfold oMove; cases ev x <;> rfl
  | pick c a b=>show vb (oPick H (ev c) (ev a) (ev b))=true; unfold oPick; split <;> first | exact vb_opt _ | rfl
  | build t ps=>show vb (oBuild P H t (evalParts ev ps.toList))=true; unfold oBuild; split <;> first | exact vb_opt _ | rfl
  | nilCheck x=>show vb (oNilCheck P H ev o (ev x))=true; unfold oNilCheck; split <;> first | exact vb_opt _ | rfl
  | binOp op t x y r =>
    show vb (oBin P H ev o op t (ev x) (ev y))=true
    unfold oBin
    split
    · rfl
    · split
      · rfl
      · unfold oNilEq; split
        · split <;> rfl
        · rfl
  | unOp op t x=>show vb (ofOpt H (generic P ev o))=true; exact vb_opt _
  | makeInterface t x=>show vb (oMakeInterface P H t (ev x))=true; unfold oMakeInterface; split <;> rfl
  | makeFunc fn a b=>show vb (oMakeFunc H fn (evals ev a.toList) (evals ev b.toList))=true; unfold oMakeFunc; split <;> rfl
  | slice t x lo hi mx =>
    show vb (oSlice P H ev o t (ev x) lo hi mx)=true
    unfold oSlice
    split
    · rfl
    · unfold oSliceN; split
      · split <;> first | exact vb_opt _ | rfl
      · rfl
  | fieldAddr s x f=>show vb (oFieldAddr P H ev o s (ev x) f)=true; unfold oFieldAddr; split <;> first | exact or' _ | rfl
  | field t x f=>show vb (oField P H t (ev x) f)=true; unfold oField; split <;> first | exact vb_opt _ | rfl
  | indexAddr t x i=>show vb (oIndexAddr P H ev o t (ev x) (ev i))=true; unfold oIndexAddr; split <;> first | exact or' _ | rfl
  | index t x i =>
    show vb (oIndex P H ev o t (ev x) (ev i))=true
    unfold oIndex; split
    · split <;> first | exact vb_opt _ | rfl
    · rfl
  | typeAssert x s t ok =>
    show vb (oTypeAssert P H ev o (ev x) t ok)=true
    unfold oTypeAssert; split
    · rfl
    · split <;> first | exact vb_opt _ | rfl
  | extract t i =>
    show vb (oExtract H (ev t) i)=true
    unfold oExtract; split
    · exact vb_opt _
    · split <;> rfl
    · rfl
  | _=>rw [hop] at h; cases h
theorem vb_read (h:cls o.op=.read) : vb (opV P H ev o)=true:=by
  unfold opV
  cases hop:o.op <;> rw [hop] at h <;> first | (simp [cls,freeOp] at h; done) | skip
  · rename_i t x
    show vb (oLoad P H t (ev x))=true
    unfold oLoad; split <;> first | exact vb_opt _ | rfl
  · rename_i t m k ok
    show vb (oLookup P H ev o t (ev m) (ev k) ok)=true
    unfold oLookup; split <;> first | exact vb_opt _ | rfl
  · rename_i c
    show vb (callOp P H ev o c)=true
    unfold callOp
    split
    · rfl
    · simp only [cls,freeOp] at h
      split
      · rename_i b hc
        rw [hc] at h
        unfold oBuiltin
        cases b <;> first | (cases h; done) | skip
        · dsimp only; unfold oCap
          split
          · rfl
          · split <;> rfl
        · dsimp only; unfold oLen
          split
          · exact vb_opt _
          · unfold oLenN
            split <;> first | rfl | skip
            split <;> rfl
      · rename_i hc; rw [hc] at h; cases h
      · rename_i hc; rw [hc] at h; cases h
theorem vb_alloc (h:cls o.op=.alloc) : vb (opV P H ev o)=true:=by
  unfold opV
  rcases cls_alloc h with ⟨t,hop⟩ | ⟨t,x,hop⟩ | ⟨t,n,ps,hop⟩ | ⟨t,l,c,hop⟩ | ⟨t,r,hop⟩ <;> rw [hop]
  · show vb (oAlloc P H t)=true; unfold oAlloc; split <;> first | exact vb_new _ _ _ | rfl
  · show vb (oBox H (ev x))=true; unfold oBox; split <;> first | exact vb_new _ _ _ | rfl
  · show vb (oBuildSlice P H t n (evalParts ev ps.toList))=true
    unfold oBuildSlice; split
    · split
      · split <;> first | exact vb_new _ _ _ | rfl
      · rfl
    · rfl
  · show vb (oMakeSlice P H t (ev l) (ev c))=true
    unfold oMakeSlice; split
    · split <;> first | exact vb_new _ _ _ | rfl
    · rfl
  · show vb (oMakeMap P H ev t r)=true
    unfold oMakeMap; split
    · rw [Mem.newK_eq]; rfl
    · split
      · rw [Mem.newK_eq]; rfl
      · rfl
theorem plain_noconv {s d:TypeId} {x:AV} (hs:plainT P s=true) (hd:plainT P d=true) : convert P H s d x=none:=by
  unfold plainT at hs hd
  unfold convert
  split <;> first | rfl | (simp_all; done)
theorem gen_form (h:cls o.op=.gen) (hc:convFit P o=true) : opV P H ev o=.bad∨∃ v,opV P H ev o=.val v H∧generic P ev o=some v:=by
  have opt:ofOpt H (generic P ev o)=.bad∨∃ v,ofOpt H (generic P ev o)=.val v H∧generic P ev o=some v:=by
    cases hg:generic P ev o with
    | none=>exact .inl rfl
    | some v=>exact .inr ⟨v,rfl,rfl⟩
  unfold opV
  unfold convFit at hc
  cases hop:o.op <;> rw [hop] at h hc <;> first | (simp [cls,freeOp] at h; done) | skip
  · rename_i s d x
    show oConvert P H ev o s d (ev x)=.bad∨∃ v,oConvert P H ev o s d (ev x)=.val v H∧_
    unfold oConvert
    simp only [Bool.and_eq_true] at hc
    cases hg:generic P ev o with
    | some v=>exact .inr ⟨v,rfl,rfl⟩
    | none =>
      left
      dsimp only
      split
      · rw [plain_noconv hc.1 hc.2]
      · rfl
  · rename_i c
    simp only [cls,freeOp] at h
    show callOp P H ev o c=.bad∨∃ v,callOp P H ev o c=.val v H∧_
    unfold callOp
    split
    · exact .inl rfl
    · split
      · rename_i b hcb
        rw [hcb] at h
        unfold oBuiltin
        cases b <;> first | (cases h; done) | exact opt
      · rename_i hcb; rw [hcb] at h; cases h
      · rename_i hcb; rw [hcb] at h; cases h
def acts:R→Bool
  | .dfr _ _ _ _=>false
  | .panic _ _=>false
  | .recover=>false
  | _=>true
theorem acts_enter (f:FuncId) (args:List AV) : acts (enterF P H f args)=true:=by unfold enterF; split <;> rfl
theorem acts_chain (h:cls o.op=.chain) : acts (opV P H ev o)=true:=by
  have upd:∀ (t:TypeId) (m k x:Option AV),acts (oMapUpdate P H t m k x)=true:=by
    intro t m k x
    unfold oMapUpdate
    split
    · split <;> rfl
    · rfl
  unfold opV
  cases hop:o.op <;> rw [hop] at h <;> first | (simp [cls,freeOp] at h; done) | skip
  · exact upd _ _ _ _
  · rename_i t a x
    show acts (oStore P H t (ev a) (ev x))=true
    unfold oStore
    split
    · split <;> rfl
    · rfl
  · exact upd _ _ _ _
  · rename_i c
    simp only [cls,freeOp] at h
    show acts (callOp P H ev o c)=true
    unfold callOp
    split
    · rfl
    · split
      · rename_i b hcb
        rw [hcb] at h
        unfold oBuiltin
        cases b <;> first | (cases h; done) | skip
        · dsimp only; unfold oAppend; split
          · split <;> rfl
          · rfl
        · dsimp only; unfold oCopy; split
          · split <;> rfl
          · rfl
      · unfold oInvoke
        split
        · split
          · split
            · exact acts_enter _ _
            · rfl
          · rfl
        · rfl
      · unfold oValue; split <;> first | exact acts_enter _ _ | rfl
theorem quiet_form (h1:cls o.op≠.chain) (h2:cls o.op≠.no) (h3:cls o.op≠.alloc) (hc:convFit P o=true) : opV P H ev o=.bad∨∃ v,opV P H ev o=.val v H∧quiet P H ev o=some v:=by
  cases hcl:cls o.op with
  | free =>
    have hf:freeOp o.op=true:=by
      cases hf:freeOp o.op with
      | true=>rfl
      | false =>
        exfalso
        unfold cls at hcl
        rw [hf] at hcl
        dsimp only at hcl
        split at hcl <;> first | (cases hcl; done) | skip
        split at hcl <;> cases hcl
    have:=vb_free (P:=P) (H:=H) (ev:=ev) hf
    cases hv:opV P H ev o with
    | val v H' =>
      obtain ⟨rfl,_⟩:=freeOp_sound hf H v H' hv
      exact .inr ⟨v,rfl,by unfold quiet; rw [hcl]; dsimp only; rw [hv]⟩
    | bad=>exact .inl rfl
    | _=>rw [hv] at this; cases this
  | read =>
    have:=vb_read (P:=P) (H:=H) (ev:=ev) hcl
    cases hv:opV P H ev o with
    | val v H' =>
      have:=read_keeps hcl hv
      subst this
      exact .inr ⟨v,rfl,by unfold quiet; rw [hcl]; dsimp only; rw [hv]⟩
    | bad=>exact .inl rfl
    | _=>rw [hv] at this; cases this
  | gen =>
    rcases gen_form (P:=P) (H:=H) (ev:=ev) hcl hc with h | ⟨v,h4,h5⟩
    · exact .inl h
    · exact .inr ⟨v,h4,by unfold quiet; rw [hcl]; exact h5⟩
  | chain=>exact absurd hcl h1
  | no=>exact absurd hcl h2
  | alloc=>exact absurd hcl h3
end Go.Ai
end
section
namespace Go.Ai
abbrev AlP:=List (Nat×Nat×Option Blk)
noncomputable def slotOf (fr:Fr) (d:Option Tmp) : Option AV:=match d with | some d=>fr.get d | none=>none
noncomputable def againW (P:Program) (W:WF) (ops:Array Oper) (fr:Fr) (H:Mem) : List Nat→Prop
  | []=>True
  | i :: l=>(match ops[i]? with
    | some o=>oneW P W ops o fr H (fun fr' _=>slotOf fr' o.dst=slotOf fr o.dst) (fun _=>False)
    | none=>False)∧againW P W ops fr H l
noncomputable def keptW (H:Mem) (as:List Nat) : AlP→Prop
  | []=>True
  | (i,a,b) :: l=>(i∈as→H.get a=b)∧keptW H as l
noncomputable def planW (P:Program) (W:WF) (ops:Array Oper) (Q:Out→Prop) : List It→Fr→Mem→AlP→Prop
  | [],fr,H,_=>Q (.norm fr H)
  | .run i :: l,fr,H,als=>match ops[i]? with
    | some o=>oneW P W ops o fr H (fun fr H=>planW P W ops Q l fr H als) Q
    | none=>False
  | .mk i :: l,fr,H,als=>match ops[i]? with
    | some o=>oneW P W ops o fr H (fun fr H'=>planW P W ops Q l fr H' ((i,H.next,H'.get H.next) :: als)) Q
    | none=>False
  | .gate hs as :: l,fr,H,als=>againW P W ops fr H hs∧keptW H as als∧planW P W ops Q l fr H als
noncomputable def clearQ (Q:Out→Prop) : Out→Prop
  | .panic v fr H=>Q (.panic v fr.clear H)
  | r=>Q r
theorem Mem.get_add_same (H:Mem) (b:Blk) : (H.add b).get H.next=some b:=by
  obtain ⟨t,n⟩:=H
  cases t with
  | tr t =>
    show get4 (u4 t n (.v n b)) n=some b
    unfold get4
    rw [at4_same]
    simp [leaf]
  | fn g=>exact if_pos rfl
variable {P:Program} {W:WF} {ops:Array Oper} {g:Nat→Option AV} {ds:List Dfr} {Q:Out→Prop} {S:Nat} {res:ResF} {H:Mem} {held:List Nat} {als:Als} {alsP:AlP} {i:Nat} {o:Oper}
structure PI (ops:Array Oper) (S:Nat) (res:ResF) : Prop where
  un:∀ j,S.testBit j=false→res j=none
  dn:∀ j,S.testBit j=true→∃ v,res j=some v
  down:∀ j k,S.testBit j=true→isAnc (ancs [] ops.toList) j k=true→S.testBit k=true
noncomputable def Gs (ops:Array Oper) (g:Nat→Option AV) (S:Nat) (res:ResF) : Nat→Option AV:=fun t=>match writer t ops.toList 0 with
  | some j=>(match S.testBit j with | true=>res j | false=>g t)
  | none=>g t
theorem bit_or {i j:Nat} : (S ||| 2 ^ i).testBit j=(S.testBit j || decide (i=j)):=by rw [Nat.testBit_or,Nat.testBit_two_pow]
theorem PI.step (h:PI ops S res) (hi:S.testBit i=false) (ha:∀ j,isAnc (ancs [] ops.toList) i j=true→S.testBit j=true) (v:AV) : PI ops (S ||| 2 ^ i) (rput res i v):=by
  refine ⟨fun j hj=>?_,fun j hj=>?_,fun j k hj hk=>?_⟩
  · rw [bit_or,Bool.or_eq_false_iff] at hj
    have hne:¬j=i:=fun e=>of_decide_eq_false hj.2 e.symm
    unfold rput
    rw [if_neg hne]
    exact h.un j hj.1
  · unfold rput
    by_cases e:j=i
    · rw [if_pos e]; exact ⟨v,rfl⟩
    · rw [if_neg e]
      rw [bit_or] at hj
      have:¬i=j:=fun e'=>e e'.symm
      simp [this] at hj
      exact h.dn j hj
  · rw [bit_or] at hj ⊢
    by_cases e:i=j
    · subst e; rw [ha k hk]; rfl
    · simp [e] at hj
      rw [h.down j k hj hk]; rfl
theorem fit_writer (hfit:fit ops.toList ops.toList 0=true) (ho:ops[i]?=some o) {d:Tmp} (hd:o.dst=some d) : writer d ops.toList 0=some i:=by
  have hone:=fit_spec hfit i o (toList_at.2 ho)
  unfold fitOne at hone
  simp only [Bool.and_eq_true] at hone
  have h:=hone.1.1.1
  rw [hd] at h
  dsimp only at h
  split at h
  · rename_i j hj
    rw [hj]
    have:=Nat.eq_of_beq_eq_true h
    rw [Nat.zero_add] at this
    rw [this]
  · cases h
theorem put_eq (hfit:fit ops.toList ops.toList 0=true) (ho:ops[i]?=some o) (v:AV) :
    (Fr.f (Gs ops g S res) ds).put o.dst v=.f (Gs ops g (S ||| 2 ^ i) (rput res i v)) ds:=by
  have other:∀ t,o.dst≠some t→Gs ops g (S ||| 2 ^ i) (rput res i v) t=Gs ops g S res t:=by
    intro t ht
    unfold Gs
    split
    · rename_i j hj
      obtain ⟨_,oj,hoj,hdj⟩:=writer_spec hj
      have hji:¬i=j:=by
        intro e
        subst e
        have hoj' : ops[i]?=some oj:=toList_at.1 (by simpa using hoj)
        rw [ho] at hoj'
        cases hoj'
        exact ht hdj
      rw [bit_or]
      simp only [hji,decide_false,Bool.or_false]
      unfold rput
      rw [if_neg (fun e=>hji e.symm)]
    · rfl
  cases hd:o.dst with
  | none =>
    show Fr.f (Gs ops g S res) ds=_
    congr 1
    funext t
    exact (other t (by rw [hd]; simp)).symm
  | some d =>
    show Fr.f (fput (Gs ops g S res) d v) ds=_
    congr 1
    funext t
    unfold fput
    by_cases e:t=d
    · subst e
      rw [if_pos rfl]
      unfold Gs
      rw [fit_writer hfit ho hd]
      dsimp only
      rw [bit_or]
      simp [rput]
    · rw [if_neg e]
      exact (other t (by rw [hd]; intro e'; exact e (Option.some.inj e').symm)).symm
theorem mem_tmps {t:Tmp} (h:Operand.tmp t∈o.op.operands.toList) : t∈tmpsOf o:=List.mem_filterMap.2 ⟨_,h,rfl⟩
theorem ev_eq (h:PI ops S res) (hi:S.testBit i=false) (ha:∀ j,isAnc (ancs [] ops.toList) i j=true→S.testBit j=true)
    (hc:(tmpsOf o).all (cmpW (ancs [] ops.toList) ops.toList i)=true) : ∀ x∈o.op.operands.toList,(Fr.f (Gs ops g S res) ds).ev x=envF ops (ancs [] ops.toList) (.f g ds) res i x:=by
  intro x hx
  cases x with
  | tmp t =>
    have hct:=List.all_eq_true.1 hc t (mem_tmps hx)
    show Gs ops g S res t=envTF ops (ancs [] ops.toList) (.f g ds) res i t
    unfold cmpW at hct
    unfold Gs envTF
    split at hct
    · rename_i hw; rw [hw]; rfl
    · rename_i j hw
      rw [hw]
      dsimp only
      cases hb:isAnc (ancs [] ops.toList) i j with
      | true=>rw [ha j hb]
      | false =>
        rw [hb,Bool.false_or] at hct
        rw [hct]
        have:S.testBit j=false:=by
          cases hs:S.testBit j with
          | false=>rfl
          | true =>
            exfalso
            rcases Bool.or_eq_true _ _ ▸ hct with h1 | h1
            · rw [h.down j i hs h1] at hi; cases hi
            · have:=Nat.eq_of_beq_eq_true h1
              subst this; rw [hs] at hi; cases hi
        rw [this]
        rfl
  | const c=>rfl
  | global c=>rfl
  | func f=>rfl
theorem ev_again (h:PI ops S res) (hi:S.testBit i=true)
    (hc:(tmpsOf o).all (ahead (ancs [] ops.toList) ops.toList i)=true) : ∀ x∈o.op.operands.toList,(Fr.f (Gs ops g S res) ds).ev x=envF ops (ancs [] ops.toList) (.f g ds) res i x:=by
  intro x hx
  cases x with
  | tmp t =>
    have hct:=List.all_eq_true.1 hc t (mem_tmps hx)
    show Gs ops g S res t=envTF ops (ancs [] ops.toList) (.f g ds) res i t
    unfold ahead at hct
    unfold Gs envTF
    split at hct
    · rename_i hw; rw [hw]; rfl
    · rename_i j hw
      rw [hw]
      dsimp only
      rw [hct,h.down i j hi hct]
  | const c=>rfl
  | global c=>rfl
  | func f=>rfl
theorem env_stable (h:PI ops S res) (hi:S.testBit i=true) {k:Nat} (hk:S.testBit k=false) (v:AV) (fr:Fr) : envF ops (ancs [] ops.toList) fr (rput res k v) i=envF ops (ancs [] ops.toList) fr res i:=by
  funext x
  cases x with
  | tmp t =>
    show envTF ops (ancs [] ops.toList) fr (rput res k v) i t=envTF ops (ancs [] ops.toList) fr res i t
    unfold envTF
    split
    · rfl
    · rename_i j hw
      cases hb:isAnc (ancs [] ops.toList) i j with
      | true =>
        dsimp only
        unfold rput
        rw [if_neg]
        intro e
        subst e
        rw [h.down i j hi hb] at hk; cases hk
      | false=>rfl
  | const c=>rfl
  | global c=>rfl
  | func f=>rfl
theorem topo_anc {tab:List Nat} (h:Nat.beq ((tab.getD i 0) &&& S) (tab.getD i 0)=true) : ∀ j,isAnc tab i j=true→S.testBit j=true:=by
  intro j hj
  have e:=Nat.eq_of_beq_eq_true h
  unfold isAnc at hj
  rw [← e,Nat.testBit_and,Bool.and_eq_true] at hj
  exact hj.2
theorem flatAll_spec {tab:List Nat} {opl:List Oper} : ∀ {l:List Oper} {k:Nat},flatAll P tab opl l k=true→∀ i o,l[i]?=some o→flatOne P tab opl o (k+i)=true
  | [],_,_,i,o,h=>by simp at h
  | x :: l,k,h,i,o,ho=>by
    simp only [flatAll,Bool.and_eq_true] at h
    cases i with
    | zero=>simp at ho; subst ho; exact h.1
    | succ i =>
      have:=flatAll_spec h.2 i o (by simpa using ho)
      rw [show k+(i+1)=k+1+i by omega]; exact this
theorem byGuard_to {x:Option AV} {w:Bool} {A B yes no:Prop} (h:byGuard x w A B) (h1:x=some (.lit (.bool w))→A→yes) (h2:B→no) : byGuard x w yes no:=by
  unfold byGuard at h ⊢
  split at h
  · rename_i b
    exact ⟨fun e=>h1 (by rw [e]) (h.1 e),fun e=>h2 (h.2 e)⟩
  · exact h2 h
  · exact h.elim
theorem slot_eq (hfit:fit ops.toList ops.toList 0=true) (ho:ops[i]?=some o) {gd:Nat×Bool} (hg:o.guard=some gd) (hS:S.testBit gd.1=true) :
    guardSlot ops (.f (Gs ops g S res) ds) gd.1=res gd.1:=by
  have hone:=fit_spec hfit i o (toList_at.2 ho)
  unfold fitOne at hone
  simp only [Bool.and_eq_true] at hone
  have h:=hone.2
  rw [hg] at h
  dsimp only at h
  unfold guardSlot
  cases hj:ops[gd.1]? with
  | none =>
    have hj' : ops.toList[gd.1]?=none:=by rw [Array.getElem?_toList]; exact hj
    rw [hj'] at h; cases h
  | some oj =>
    have hj' : ops.toList[gd.1]?=some oj:=toList_at.2 hj
    rw [hj'] at h
    dsimp only at h ⊢
    cases hd:oj.dst with
    | none=>rw [hd] at h; cases h
    | some d =>
      show Gs ops g S res d=res gd.1
      unfold Gs
      rw [fit_writer hfit hj hd]
      dsimp only
      rw [hS]
end Go.Ai
end
section
namespace Go.Ai
variable {P:Program} {W:WF} {ops:Array Oper} {g:Nat→Option AV} {ds:List Dfr} {Q:Out→Prop} {S:Nat} {res:ResF} {H:Mem} {held:List Nat} {als:Als} {alsP:AlP} {i:Nat} {o:Oper} {s:Hs}
def Rq (P:Program) (ops:Array Oper) (g:Nat→Option AV) (ds:List Dfr) (H:Mem) (res:ResF) (i:Nat) : Prop :=
  ∃ o v,ops[i]?=some o∧res i=some v∧quiet P H (envF ops (ancs [] ops.toList) (.f g ds) res i) o=some v
def Ran (ops:Array Oper) (res:ResF) (i:Nat) : Prop:=∃ o,ops[i]?=some o∧cls o.op=.read∧∀ gd,o.guard=some gd→res gd.1=some (.lit (.bool gd.2))
structure PS (P:Program) (ops:Array Oper) (g:Nat→Option AV) (ds:List Dfr) (s:Hs) (S:Nat) (res:ResF) (H:Mem) (held:List Nat) (als:Als) (alsP:AlP) : Prop where
  pi:PI ops S res
  hd:∀ i∈held,S.testBit i=true∧Ran ops res i∧(i∈s.di∨(i∈s.cl∧Rq P ops g ds H res i))
  al:∀ x∈als,(x.1,x.2.1,some x.2.2)∈alsP∧(x.1∈s.adi∨(x.1∈s.acl∧H.get x.2.1=some x.2.2))
theorem rput_keep {k:Nat} {v:AV} (h:res k=none) : GrF res (rput res k v):=by
  intro j y hj
  unfold rput
  by_cases e:j=k
  · subst e; rw [h] at hj; cases hj
  · rw [if_neg e]; exact hj
theorem Ran.grow {res' : ResF} (h:Ran ops res i) (hg:GrF res res') : Ran ops res' i:=by
  obtain ⟨o,h1,h2,h3⟩:=h
  exact ⟨o,h1,h2,fun gd e=>hg _ _ (h3 gd e)⟩
theorem Rq.grow {k:Nat} {v:AV} (hp:PI ops S res) (hi:S.testBit i=true) (hk:S.testBit k=false) (h:Rq P ops g ds H res i) : Rq P ops g ds H (rput res k v) i:=by
  obtain ⟨o,y,h1,h2,h3⟩:=h
  refine ⟨o,y,h1,rput_keep (hp.un k hk) _ _ h2,?_⟩
  rw [env_stable hp hi hk]; exact h3
theorem PS.step (h:PS P ops g ds s S res H held als alsP) (hi:S.testBit i=false) (ha:∀ j,isAnc (ancs [] ops.toList) i j=true→S.testBit j=true) (v:AV) :
    PS P ops g ds s (S ||| 2 ^ i) (rput res i v) H held als alsP :=
  ⟨h.pi.step hi ha v,fun j hj=>let ⟨a,b,c⟩:=h.hd j hj; ⟨by rw [bit_or,a]; rfl,b.grow (rput_keep (h.pi.un i hi)),c.imp id fun ⟨d,e⟩=>⟨d,e.grow h.pi a hi⟩⟩,h.al⟩
theorem PS.soil {H' : Mem} {acl:List Nat} {cl:List Nat} (h:PS P ops g ds s S res H held als alsP) (p:Nat×Nat×Option Blk) : PS P ops g ds ⟨cl,s.cl++s.di,acl,s.acl++s.adi⟩ S res H' held als (p :: alsP) :=
  ⟨h.pi,fun j hj=>let ⟨a,b,c⟩:=h.hd j hj; ⟨a,b,.inl (by rcases c with c | ⟨c,_⟩ <;> simp [c])⟩,
    fun x hx=>let ⟨a,c⟩:=h.al x hx; ⟨List.mem_cons_of_mem _ a,.inl (by rcases c with c | ⟨c,_⟩ <;> simp [c])⟩⟩
variable {KW:StW} {K:Hs→List It}
theorem plan_stage (hfit:fit ops.toList ops.toList 0=true) (hall:flatAll P (ancs [] ops.toList) ops.toList ops.toList 0=true)
    (hK:∀ s S res H held als alsP,PS P ops g ds s S res H held als alsP→topo (ancs [] ops.toList) ops.toList S (K s)=true→planW P W ops Q (K s) (.f (Gs ops g S res) ds) H alsP→KW res H held als) :
    ∀ (L:List Nat) (s:Hs) (S:Nat) (res:ResF) (H:Mem) (held:List Nat) (als:Als) (alsP:AlP),(∀ i∈L,∃ o,ops[i]?=some o∧isChain o.op=false∧cls o.op≠.no) →
      PS P ops g ds s S res H held als alsP→topo (ancs [] ops.toList) ops.toList S (planStage ops.toList L s K)=true→planW P W ops Q (planStage ops.toList L s K) (.f (Gs ops g S res) ds) H alsP →
      stageW P ops (ancs [] ops.toList) (.f g ds) KW L res H held als
  | [],s,S,res,H,held,als,alsP,_,ps,ht,hp=>hK s S res H held als alsP ps ht hp
  | i :: L,s,S,res,H,held,als,alsP,hL,ps,ht,hp=>by
    obtain ⟨o,ho,hch,hno⟩:=hL i (by simp)
    have hL' : ∀ j∈L,∃ o,ops[j]?=some o∧isChain o.op=false∧cls o.op≠.no:=fun j hj=>hL j (by simp [hj])
    have hone:=flatAll_spec hall i o (toList_at.2 ho)
    rw [Nat.zero_add] at hone
    unfold flatOne at hone
    simp only [Bool.and_eq_true] at hone
    obtain ⟨⟨hcmp,hgd⟩,hcv⟩:=hone
    have hnc:cls o.op≠.chain:=by intro e; unfold isChain at hch; rw [e] at hch; cases hch
    have step:∀ {k:Fr→Mem→Prop} {yes no:Prop},(∀ j,isAnc (ancs [] ops.toList) i j=true→S.testBit j=true)→S.testBit i=false→oneW P W ops o (.f (Gs ops g S res) ds) H k Q →
        ((∀ gd,o.guard=some gd→res gd.1=some (.lit (.bool gd.2)))→afterW W o (.f (Gs ops g S res) ds) k Q (opV P H (envF ops (ancs [] ops.toList) (.f g ds) res i) o)→yes) →
        (k (.f (Gs ops g (S ||| 2 ^ i) (rput res i (.lit undef))) ds) H→no)→wantedW (ancs [] ops.toList) res i o yes no:=by
      intro k yes no ha hi h h1 h2
      have hev:=opV_evs (P:=P) (H:=H) (noSelect hno) (ev_eq (g:=g) (ds:=ds) ps.pi hi ha hcmp)
      unfold oneW at h
      unfold wantedW
      split at h
      · rename_i hg
        rw [hev] at h
        exact h1 (fun gd e=>by rw [hg] at e; cases e) h
      · rename_i gd hg
        rw [hg] at hgd
        dsimp only at hgd
        rw [slot_eq hfit ho hg (ha _ hgd),put_eq hfit ho,hev] at h
        exact ⟨hgd,byGuard_to h (fun e=>h1 fun gd' e'=>by rw [hg] at e'; cases e'; exact e) h2⟩
    have quietCase:cls o.op≠.alloc→∀ {k:Fr→Mem→Prop},afterW W o (.f (Gs ops g S res) ds) k Q (opV P H (envF ops (ancs [] ops.toList) (.f g ds) res i) o) →
        ∃ v,quiet P H (envF ops (ancs [] ops.toList) (.f g ds) res i) o=some v∧k (.f (Gs ops g (S ||| 2 ^ i) (rput res i v)) ds) H:=by
      intro hna k h
      rcases quiet_form (P:=P) (H:=H) (ev:=envF ops (ancs [] ops.toList) (.f g ds) res i) hnc hno hna hcv with hb | ⟨v,hv,hq⟩
      · rw [hb] at h; exact h.elim
      · rw [hv] at h
        refine ⟨v,hq,?_⟩
        have h' : k ((Fr.f (Gs ops g S res) ds).put o.dst v) H:=h
        rw [put_eq hfit ho] at h'
        exact h'
    have ho' : ops.toList[i]?=some o:=toList_at.2 ho
    unfold stageW stepW
    rw [ho]
    dsimp only
    unfold planStage at ht hp
    rw [ho'] at ht hp
    dsimp only at ht hp
    cases hcl:cls o.op with
    | chain=>exact absurd hcl hnc
    | no=>exact absurd hcl hno
    | alloc =>
      rw [hcl] at ht hp
      simp only [topo,Bool.and_eq_true] at ht
      obtain ⟨⟨h1,h2⟩,ht⟩:=ht
      have hi:S.testBit i=false:=by simpa using h1
      have ha:=topo_anc h2
      unfold planW at hp
      rw [ho] at hp
      dsimp only at hp ⊢
      refine step ha hi hp ?_ ?_
      · intro hgr h
        have hvb:=vb_alloc (P:=P) (H:=H) (ev:=envF ops (ancs [] ops.toList) (.f g ds) res i) hcl
        cases hv:opV P H (envF ops (ancs [] ops.toList) (.f g ds) res i) o with
        | val v H' =>
          rw [hv] at h
          obtain ⟨f,x,e1,e2,_⟩:=alloc_sound (B:=0) hcl hv
          have h' : planW P W ops Q (planStage ops.toList L ⟨[],s.cl++s.di,[i],s.acl++s.adi⟩ K) ((Fr.f (Gs ops g S res) ds).put o.dst v) H' ((i,H.next,H'.get H.next) :: alsP):=h
          rw [put_eq hfit ho] at h'
          have hget:H'.get H.next=some x:=by rw [e2]; exact Mem.get_add_same _ _
          unfold allocW
          dsimp only
          rw [hget]
          refine ⟨ps.pi.un i hi,?_⟩
          refine plan_stage hfit hall hK L _ _ _ _ _ _ _ hL' ?_ ht h'
          have p1:=(ps.step hi ha v).soil (H':=H') (acl:=[i]) (cl:=[]) (i,H.next,H'.get H.next)
          refine ⟨p1.pi,p1.hd,fun y hy=>?_⟩
          rcases List.mem_cons.1 hy with rfl | hy
          · exact ⟨by rw [hget]; simp,.inr ⟨by simp,hget⟩⟩
          · exact p1.al y hy
        | bad=>rw [hv] at h; exact h.elim
        | _=>rw [hv] at hvb; cases hvb
      · intro h
        refine ⟨ps.pi.un i hi,?_⟩
        exact plan_stage hfit hall hK L _ _ _ _ _ _ _ hL' ((ps.step hi ha _).soil _) ht h
    | read =>
      rw [hcl] at ht hp
      simp only [topo,Bool.and_eq_true] at ht
      obtain ⟨⟨h1,h2⟩,ht⟩:=ht
      have hi:S.testBit i=false:=by simpa using h1
      have ha:=topo_anc h2
      unfold planW at hp
      rw [ho] at hp
      dsimp only at hp ⊢
      refine step ha hi hp ?_ ?_
      · intro hgr h
        obtain ⟨v,hq,h'⟩:=quietCase (by rw [hcl]; simp) h
        unfold quietW
        rw [hq]
        refine ⟨ps.pi.un i hi,?_⟩
        refine plan_stage hfit hall hK L _ _ _ _ _ _ _ hL' ?_ ht h'
        have p1:=ps.step hi ha v
        refine ⟨p1.pi,fun j hj=>?_,p1.al⟩
        rcases List.mem_cons.1 hj with rfl | hj
        · refine ⟨by rw [bit_or]; simp,⟨o,ho,hcl,fun gd e=>rput_keep (ps.pi.un _ hi) _ _ (hgr gd e)⟩,.inr ⟨by simp,o,v,ho,if_pos rfl,?_⟩⟩
          have:envF ops (ancs [] ops.toList) (.f g ds) (rput res j v) j=envF ops (ancs [] ops.toList) (.f g ds) res j:=by
            funext x
            cases x with
            | tmp t =>
              show envTF ops (ancs [] ops.toList) (.f g ds) (rput res j v) j t=envTF ops (ancs [] ops.toList) (.f g ds) res j t
              unfold envTF
              split
              · rfl
              · rename_i k hw
                cases hb:isAnc (ancs [] ops.toList) j k with
                | true =>
                  dsimp only
                  unfold rput
                  rw [if_neg]
                  intro e
                  subst e
                  rw [ha _ hb] at hi; cases hi
                | false=>rfl
            | const c=>rfl
            | global c=>rfl
            | func f=>rfl
          rw [this]; exact hq
        · obtain ⟨a,b,c⟩:=p1.hd j hj
          exact ⟨a,b,c.imp id fun ⟨d,e⟩=>⟨by simp [d],e⟩⟩
      · intro h
        refine ⟨ps.pi.un i hi,?_⟩
        refine plan_stage hfit hall hK L _ _ _ _ _ _ _ hL' ?_ ht h
        have p1:=ps.step hi ha (.lit undef)
        exact ⟨p1.pi,fun j hj=>let ⟨a,b,c⟩:=p1.hd j hj; ⟨a,b,c.imp id fun ⟨d,e⟩=>⟨by simp [d],e⟩⟩,p1.al⟩
    | free =>
      rw [hcl] at ht hp
      simp only [topo,Bool.and_eq_true] at ht
      obtain ⟨⟨h1,h2⟩,ht⟩:=ht
      have hi:S.testBit i=false:=by simpa using h1
      have ha:=topo_anc h2
      unfold planW at hp
      rw [ho] at hp
      dsimp only at hp ⊢
      refine step ha hi hp ?_ ?_
      · intro hgr h
        obtain ⟨v,hq,h'⟩:=quietCase (by rw [hcl]; simp) h
        unfold quietW
        rw [hq]
        exact ⟨ps.pi.un i hi,plan_stage hfit hall hK L _ _ _ _ _ _ _ hL' (ps.step hi ha v) ht h'⟩
      · intro h
        exact ⟨ps.pi.un i hi,plan_stage hfit hall hK L _ _ _ _ _ _ _ hL' (ps.step hi ha _) ht h⟩
    | gen =>
      rw [hcl] at ht hp
      simp only [topo,Bool.and_eq_true] at ht
      obtain ⟨⟨h1,h2⟩,ht⟩:=ht
      have hi:S.testBit i=false:=by simpa using h1
      have ha:=topo_anc h2
      unfold planW at hp
      rw [ho] at hp
      dsimp only at hp ⊢
      refine step ha hi hp ?_ ?_
      · intro hgr h
        obtain ⟨v,hq,h'⟩:=quietCase (by rw [hcl]; simp) h
        unfold quietW
        rw [hq]
        exact ⟨ps.pi.un i hi,plan_stage hfit hall hK L _ _ _ _ _ _ _ hL' (ps.step hi ha v) ht h'⟩
      · intro h
        exact ⟨ps.pi.un i hi,plan_stage hfit hall hK L _ _ _ _ _ _ _ hL' (ps.step hi ha _) ht h⟩
end Go.Ai
end
section
namespace Go.Ai
variable {P:Program} {W:WF} {ops:Array Oper} {g:Nat→Option AV} {ds:List Dfr} {Q:Out→Prop} {S:Nat} {res:ResF} {H:Mem} {held:List Nat} {als:Als} {alsP:AlP} {i:Nat} {o:Oper} {s:Hs} {K:Hs→List It}
theorem recheck_of {tab:List Nat} {fr:Fr} : ∀ {held:List Nat},(∀ i∈held,∃ o v,ops[i]?=some o∧res i=some v∧quiet P H (envF ops tab fr res i) o=some v)→recheckW P ops tab fr res H held
  | [],_=>trivial
  | i :: l,h=>by
    obtain ⟨o,v,h1,h2,h3⟩:=h i (by simp)
    refine ⟨?_,recheck_of fun j hj=>h j (by simp [hj])⟩
    rw [h1]
    exact ⟨v,h2,h3⟩
theorem stays_of:∀ {als:Als},(∀ x∈als,H.get x.2.1=some x.2.2)→staysW H als
  | [],_=>trivial
  | (a,b,c) :: l,h=>⟨h (a,b,c) (by simp),stays_of fun y hy=>h y (by simp [hy])⟩
theorem still_mem {tab:List Nat} {c i:Nat} : ∀ {held:List Nat},i∈still tab c held→i∈held∧isAnc tab c i=false
  | [],h=>by cases h
  | j :: held,h=>by
    unfold still at h
    split at h
    · obtain ⟨a,b⟩:=still_mem h; exact ⟨by simp [a],b⟩
    · rename_i hb
      rcases List.mem_cons.1 h with rfl | h
      · exact ⟨by simp,hb⟩
      · obtain ⟨a,b⟩:=still_mem h; exact ⟨by simp [a],b⟩
theorem stillA_mem {tab:List Nat} {c:Nat} : ∀ {als:Als} {x:Nat×Nat×Blk},x∈stillA tab c als→x∈als∧isAnc tab c x.1=false
  | [],_,h=>by cases h
  | y :: als,x,h=>by
    unfold stillA at h
    split at h
    · obtain ⟨a,b⟩:=stillA_mem h; exact ⟨by simp [a],b⟩
    · rename_i hb
      rcases List.mem_cons.1 h with rfl | h
      · exact ⟨by simp,hb⟩
      · obtain ⟨a,b⟩:=stillA_mem h; exact ⟨by simp [a],b⟩
theorem again_mem {fr:Fr} : ∀ {hs:List Nat},againW P W ops fr H hs→∀ i∈hs,∃ o,ops[i]?=some o∧oneW P W ops o fr H (fun fr' _=>slotOf fr' o.dst=slotOf fr o.dst) (fun _=>False)
  | j :: hs,h,i,hi=>by
    rcases List.mem_cons.1 hi with rfl | hi
    · have h1:=h.1
      split at h1
      · rename_i o ho; exact ⟨o,ho,h1⟩
      · exact h1.elim
    · exact again_mem h.2 i hi
theorem kept_mem {as:List Nat} : ∀ {l:AlP},keptW H as l→∀ x∈l,x.1∈as→H.get x.2.1=x.2.2
  | (i,a,b) :: l,h,x,hx,hm=>by
    rcases List.mem_cons.1 hx with rfl | hx
    · exact h.1 hm
    · exact kept_mem h.2 x hx hm
theorem again_Rq (hfit:fit ops.toList ops.toList 0=true) (hall:flatAll P (ancs [] ops.toList) ops.toList ops.toList 0=true) (hp:PI ops S res) (hi:S.testBit i=true) (hr:Ran ops res i)
    (hag:againFit (ancs [] ops.toList) ops.toList i=true) (ho:ops[i]?=some o) (h:oneW P W ops o (.f (Gs ops g S res) ds) H (fun fr' _=>slotOf fr' o.dst=slotOf (.f (Gs ops g S res) ds) o.dst) (fun _=>False)) :
    Rq P ops g ds H res i:=by
  obtain ⟨o',ho',hcl,hg⟩:=hr
  rw [ho] at ho'; cases ho'
  have hone:=flatAll_spec hall i o (toList_at.2 ho)
  rw [Nat.zero_add] at hone
  unfold flatOne at hone
  simp only [Bool.and_eq_true] at hone
  obtain ⟨⟨_,hgd⟩,hcv⟩:=hone
  unfold againFit at hag
  rw [toList_at.2 ho] at hag
  simp only [Bool.and_eq_true] at hag
  obtain ⟨hds,hah⟩:=hag
  obtain ⟨d,hd⟩:=Option.isSome_iff_exists.1 hds
  have hno:cls o.op≠.no:=by rw [hcl]; simp
  have key:afterW W o (.f (Gs ops g S res) ds) (fun fr' _=>slotOf fr' o.dst=slotOf (.f (Gs ops g S res) ds) o.dst) (fun _=>False) (opV P H (Fr.f (Gs ops g S res) ds).ev o)→Rq P ops g ds H res i:=by
    intro h
    rw [opV_evs (P:=P) (H:=H) (noSelect hno) (ev_again (g:=g) (ds:=ds) hp hi hah)] at h
    rcases quiet_form (P:=P) (H:=H) (ev:=envF ops (ancs [] ops.toList) (.f g ds) res i) (o:=o) (by rw [hcl]; simp) hno (by rw [hcl]; simp) hcv with hb | ⟨v,hv,hq⟩
    · rw [hb] at h; exact h.elim
    · rw [hv] at h
      have h' : slotOf ((Fr.f (Gs ops g S res) ds).put o.dst v) o.dst=slotOf (.f (Gs ops g S res) ds) o.dst:=h
      rw [hd] at h'
      have h2:some v=Gs ops g S res d:=by
        rw [show slotOf ((Fr.f (Gs ops g S res) ds).put (some d) v) (some d)=some v from if_pos rfl] at h'
        exact h'
      unfold Gs at h2
      rw [fit_writer hfit ho hd] at h2
      dsimp only at h2
      rw [hi] at h2
      exact ⟨o,v,ho,h2.symm,hq⟩
  unfold oneW at h
  split at h
  · exact key h
  · rename_i gd hgx
    rw [hgx] at hgd
    have hgd' : isAnc (ancs [] ops.toList) i gd.1=true:=hgd
    rw [slot_eq hfit ho hgx (hp.down _ _ hi hgd'),hg gd hgx] at h
    exact key (h.1 rfl)
theorem gateP_ok (hfit:fit ops.toList ops.toList 0=true) (hall:flatAll P (ancs [] ops.toList) ops.toList ops.toList 0=true) (h:PS P ops g ds s S res H held als alsP)
    (ht:topo (ancs [] ops.toList) ops.toList S (gateK s K)=true) (hp:planW P W ops Q (gateK s K) (.f (Gs ops g S res) ds) H alsP) :
    recheckW P ops (ancs [] ops.toList) (.f g ds) res H held∧staysW H als∧∃ s',s'.di=[]∧s'.adi=[]∧PS P ops g ds s' S res H held als alsP ∧
      topo (ancs [] ops.toList) ops.toList S (K s')=true∧planW P W ops Q (K s') (.f (Gs ops g S res) ds) H alsP:=by
  have done:s.di=[]→s.adi=[]→topo (ancs [] ops.toList) ops.toList S (K s)=true→planW P W ops Q (K s) (.f (Gs ops g S res) ds) H alsP→recheckW P ops (ancs [] ops.toList) (.f g ds) res H held∧staysW H als∧∃ s',s'.di=[]∧s'.adi=[]∧PS P ops g ds s' S res H held als alsP ∧
      topo (ancs [] ops.toList) ops.toList S (K s')=true∧planW P W ops Q (K s') (.f (Gs ops g S res) ds) H alsP:=by
    intro e1 e2 ht hp
    refine ⟨recheck_of fun i hi=>?_,stays_of fun x hx=>?_,s,e1,e2,h,ht,hp⟩
    · obtain ⟨_,_,c⟩:=h.hd i hi
      rcases c with c | ⟨_,c⟩
      · rw [e1] at c; cases c
      · exact c
    · obtain ⟨_,c⟩:=h.al x hx
      rcases c with c | ⟨_,c⟩
      · rw [e2] at c; cases c
      · exact c
  have go:topo (ancs [] ops.toList) ops.toList S (.gate s.di s.adi :: K ⟨s.di++s.cl,[],s.adi++s.acl,[]⟩)=true →
      planW P W ops Q (.gate s.di s.adi :: K ⟨s.di++s.cl,[],s.adi++s.acl,[]⟩) (.f (Gs ops g S res) ds) H alsP→recheckW P ops (ancs [] ops.toList) (.f g ds) res H held∧staysW H als∧∃ s',s'.di=[]∧s'.adi=[]∧PS P ops g ds s' S res H held als alsP ∧
      topo (ancs [] ops.toList) ops.toList S (K s')=true∧planW P W ops Q (K s') (.f (Gs ops g S res) ds) H alsP:=by
    intro ht hp
    simp only [topo,Bool.and_eq_true] at ht
    obtain ⟨hag,ht⟩:=ht
    obtain ⟨h1,h2,h3⟩:=hp
    have hR:∀ i∈held,Rq P ops g ds H res i:=by
      intro i hi
      obtain ⟨a,b,c⟩:=h.hd i hi
      rcases c with c | ⟨_,c⟩
      · obtain ⟨o,ho,ho'⟩:=again_mem h1 i c
        exact again_Rq hfit hall h.pi a b (List.all_eq_true.1 hag i c) ho ho'
      · exact c
    have hA:∀ x∈als,H.get x.2.1=some x.2.2:=by
      intro x hx
      obtain ⟨a,c⟩:=h.al x hx
      rcases c with c | ⟨_,c⟩
      · exact kept_mem h2 _ a c
      · exact c
    refine ⟨recheck_of hR,stays_of hA,_,rfl,rfl,⟨h.pi,fun i hi=>?_,fun x hx=>?_⟩,ht,h3⟩
    · obtain ⟨a,b,c⟩:=h.hd i hi
      exact ⟨a,b,.inr ⟨by rcases c with c | ⟨c,_⟩ <;> simp [c],hR i hi⟩⟩
    · obtain ⟨a,c⟩:=h.al x hx
      exact ⟨a,.inr ⟨by rcases c with c | ⟨c,_⟩ <;> simp [c],hA x hx⟩⟩
  unfold gateK at ht hp
  split at ht
  · rename_i e1 e2
    rw [e1,e2] at hp
    exact done e1 e2 ht hp
  · rename_i hne
    split at hp
    · rename_i e1 e2; exact absurd e2 (hne e1)
    · exact go ht hp
def WMono (W:WF) : Prop:=∀ (f:FuncId) (args:List AV) (H:Mem) (K K' : COut→Prop),(∀ r,K r→K' r)→W f args H K→W f args H K'
theorem WC_mono' (G:Nat) (P:Program) : WMono (WC G P):=fun _ _ _ _ _ hk h=>h.mono hk
theorem orW_mono {O:CallF} (h:WMono W) : WMono (orW O W):=by
  intro f args H K K' hk hw
  unfold orW at hw ⊢
  split
  · rename_i e; rw [e] at hw; exact h _ _ _ _ _ hk hw
  · rename_i hne
    split at hw
    · rename_i e; exact absurd e hne
    · exact hk _ hw
theorem act_plan (hW:WMono W) (hfit:fit ops.toList ops.toList 0=true) (hall:flatAll P (ancs [] ops.toList) ops.toList ops.toList 0=true) (hp:PI ops S res) (ho:ops[i]?=some o) (hc:cls o.op=.chain)
    (hi:S.testBit i=false) (ha:∀ j,isAnc (ancs [] ops.toList) i j=true→S.testBit j=true) {k:Fr→Mem→Prop} {K' : ResF→Mem→Prop}
    (h:oneW P W ops o (.f (Gs ops g S res) ds) H k (clearQ Q)) (hK:∀ v H',k (.f (Gs ops g (S ||| 2 ^ i) (rput res i v)) ds) H'→K' (rput res i v) H') :
    actW P W ops (ancs [] ops.toList) (.f g ds) i res H K' Q:=by
  have hone:=flatAll_spec hall i o (toList_at.2 ho)
  rw [Nat.zero_add] at hone
  unfold flatOne at hone
  simp only [Bool.and_eq_true] at hone
  obtain ⟨⟨hcmp,hgd⟩,hcv⟩:=hone
  have hno:cls o.op≠.no:=by rw [hc]; simp
  have hev:=opV_evs (P:=P) (H:=H) (noSelect hno) (ev_eq (g:=g) (ds:=ds) hp hi ha hcmp)
  have put:=fun v=>put_eq (g:=g) (ds:=ds) (S:=S) (res:=res) hfit ho v
  have act:afterW W o (.f (Gs ops g S res) ds) k (clearQ Q) (opV P H (envF ops (ancs [] ops.toList) (.f g ds) res i) o) →
      actRW W (.f g ds) i res K' Q (opV P H (envF ops (ancs [] ops.toList) (.f g ds) res i) o):=by
    intro h
    have hac:=acts_chain (P:=P) (H:=H) (ev:=envF ops (ancs [] ops.toList) (.f g ds) res i) hc
    cases hv:opV P H (envF ops (ancs [] ops.toList) (.f g ds) res i) o with
    | val v H' =>
      rw [hv] at h
      refine ⟨hp.un i hi,hK v H' ?_⟩
      rw [← put]; exact h
    | skip H' =>
      rw [hv] at h
      refine ⟨hp.un i hi,hK _ H' ?_⟩
      rw [← put]; exact h
    | enter f args H' =>
      rw [hv] at h
      refine hW _ _ _ _ _ ?_ h
      intro r hr
      cases r with
      | ret v H2 =>
        refine ⟨hp.un i hi,hK v H2 ?_⟩
        rw [← put]; exact hr
      | panic v H2=>exact hr
      | bad=>exact hr
    | bad=>rw [hv] at h; exact h.elim
    | dfr _ _ _ _=>rw [hv] at hac; cases hac
    | recover=>rw [hv] at hac; cases hac
    | panic _ _=>rw [hv] at hac; cases hac
  unfold actW
  rw [ho]
  dsimp only
  unfold oneW at h
  unfold wantedW
  split at h
  · rename_i hg
    rw [hev] at h
    exact act h
  · rename_i gd hg
    rw [hg] at hgd
    dsimp only at hgd
    rw [slot_eq hfit ho hg (ha _ hgd),put,hev] at h
    exact ⟨hgd,byGuard_to h (fun _=>act) fun h=>⟨hp.un i hi,hK _ _ h⟩⟩
theorem Gs_bits {S' : Nat} (h:∀ j,j < ops.size→S.testBit j=S'.testBit j) : Gs ops g S res=Gs ops g S' res:=by
  funext t
  unfold Gs
  split
  · rename_i j hj
    obtain ⟨_,o,ho,_⟩:=writer_spec hj
    have:j < ops.size:=lt_of_at (toList_at.1 (by simpa using ho))
    rw [h j this]
  · rfl
theorem fin_plan (hfit:fit ops.toList ops.toList 0=true) {KF:Fr→Prop} (hall:∀ j,j < ops.size→∃ v,res j=some v) : ∀ (l:List Oper) (k:Nat),ops.toList.drop k=l→k+l.length=ops.size →
    KF (.f (Gs ops g (2 ^ ops.size - 1) res) ds)→finW res KF l k (.f (Gs ops g (2 ^ k - 1) res) ds)
  | [],k,_,hl,h=>by
    have:k=ops.size:=by simpa using hl
    subst this
    exact h
  | o :: l,k,hk,hl,h=>by
    have hlt:k < ops.size:=by simp at hl; omega
    obtain ⟨v,hv⟩:=hall k hlt
    have hko:ops.toList[k]?=some o:=by
      have:(ops.toList.drop k)[0]?=some o:=by rw [hk]; rfl
      simpa using this
    unfold finW
    rw [hv]
    dsimp only
    rw [put_eq hfit (toList_at.1 hko)]
    have e1:rput res k v=res:=by
      funext j
      unfold rput
      by_cases e:j=k
      · subst e; rw [if_pos rfl,hv]
      · rw [if_neg e]
    rw [e1,Gs_bits (S':=2 ^ (k+1) - 1) (fun j _=>by
      rw [bit_or,Nat.testBit_two_pow_sub_one,Nat.testBit_two_pow_sub_one]
      by_cases e:k=j
      · subst e; simp
      · simp only [e,decide_false,Bool.or_false,decide_eq_decide]; omega)]
    refine fin_plan hfit hall l (k+1) ?_ (by simp at hl; omega) h
    have:=congrArg List.tail hk
    simpa using this
theorem plan_stages (hW:WMono W) (hfit:fit ops.toList ops.toList 0=true) (hall:flatAll P (ancs [] ops.toList) ops.toList ops.toList 0=true) (all:List Nat) :
    ∀ (cs:List Nat) (k:Nat) (s:Hs) (S:Nat) (res:ResF) (H:Mem) (held:List Nat) (als:Als) (alsP:AlP),(∀ c∈cs,∃ o,ops[c]?=some o∧isChain o.op=true) →
      PS P ops g ds s S res H held als alsP→topo (ancs [] ops.toList) ops.toList S (planIn (ancs [] ops.toList) all ops.toList k cs s)=true →
      planW P W ops (clearQ Q) (planIn (ancs [] ops.toList) all ops.toList k cs s) (.f (Gs ops g S res) ds) H alsP →
      stagesW P W ops (ancs [] ops.toList) (.f g ds) all Q k cs res H held als:=by
  intro cs
  induction cs with
  | nil =>
    intro k s S res H held als alsP _ ps ht hp
    rw [stagesW_eq]
    unfold planIn at ht hp
    refine plan_stage hfit hall ?_ _ _ _ _ _ _ _ _ (fun j hj=>?_) ps ht hp
    · intro s S res H held als alsP ps ht hp
      obtain ⟨h1,h2,s',_,_,ps',ht',hp'⟩:=gateP_ok hfit hall ps ht hp
      refine ⟨h1,h2,?_⟩
      have hS:S+1=2 ^ ops.toList.length:=Nat.eq_of_beq_eq_true ht'
      have hS' : S=2 ^ ops.size - 1:=by rw [Array.length_toList] at hS; omega
      have hq:Q (.norm (.f (Gs ops g S res) ds) H):=hp'
      subst hS'
      have hz:Fr.f g ds=.f (Gs ops g (2 ^ 0 - 1) res) ds:=by
        congr 1
        funext t
        unfold Gs
        split
        · rw [show (2 ^ 0 - 1:Nat)=0 from rfl,Nat.zero_testBit]
        · rfl
      show finW res (fun fr=>Q (.norm fr H)) ops.toList 0 (.f g ds)
      rw [hz]
      refine fin_plan hfit (fun j hj=>ps'.pi.dn j ?_) ops.toList 0 rfl (by simp) hq
      rw [Nat.testBit_two_pow_sub_one]; simpa using hj
    · obtain ⟨_,oj,hoj,hcj,_⟩:=mem_stageOf.1 hj
      have hoj' : ops[j]?=some oj:=toList_at.1 (by simpa using hoj)
      exact ⟨oj,hoj',hcj,fit_no hfit hoj'⟩
  | cons c cs ih =>
    intro k s S res H held als alsP hcs ps ht hp
    rw [stagesW_eq]
    unfold planIn at ht hp
    refine plan_stage hfit hall ?_ _ _ _ _ _ _ _ _ (fun j hj=>?_) ps ht hp
    · intro s S res H held als alsP ps ht hp
      obtain ⟨h1,h2,s',e1,e2,ps',ht',hp'⟩:=gateP_ok hfit hall ps ht hp
      refine ⟨h1,h2,?_⟩
      simp only [topo,Bool.and_eq_true] at ht'
      obtain ⟨⟨t1,t2⟩,ht'⟩:=ht'
      have hi:S.testBit c=false:=by simpa using t1
      have ha:=topo_anc t2
      obtain ⟨o,ho,hch⟩:=hcs c (by simp)
      have hcl:cls o.op=.chain:=by
        unfold isChain at hch
        cases h:cls o.op <;> rw [h] at hch <;> first | rfl | cases hch
      unfold planW at hp'
      rw [ho] at hp'
      dsimp only at hp'
      refine act_plan hW hfit hall ps'.pi ho hcl hi ha hp' ?_
      intro v H' hk
      refine ih _ _ _ _ _ _ _ _ (fun c hc=>hcs c (by simp [hc])) ?_ ht' hk
      have p1:=ps'.step hi ha v
      refine ⟨p1.pi,fun j hj=>?_,fun x hx=>?_⟩
      · have hm:j∈held∧isAnc (ancs [] ops.toList) c j=false:=still_mem hj
        obtain ⟨a,b,d⟩:=p1.hd j hm.1
        refine ⟨a,b,.inl ?_⟩
        rcases d with d | ⟨d,_⟩
        · rw [e1] at d; cases d
        · exact List.mem_filter.2 ⟨d,by rw [hm.2]; rfl⟩
      · have hm:x∈als∧isAnc (ancs [] ops.toList) c x.1=false:=stillA_mem hx
        obtain ⟨a,d⟩:=p1.al x hm.1
        refine ⟨a,.inl ?_⟩
        rcases d with d | ⟨d,_⟩
        · rw [e2] at d; cases d
        · exact List.mem_filter.2 ⟨d,by rw [hm.2]; rfl⟩
    · obtain ⟨_,oj,hoj,hcj,_⟩:=mem_stageOf.1 hj
      have hoj' : ops[j]?=some oj:=toList_at.1 (by simpa using hoj)
      exact ⟨oj,hoj',hcj,fit_no hfit hoj'⟩
theorem planW_drawn (hW:WMono W) (hok:flatOk P ops.toList=true) (h:planW P W ops (clearQ Q) (planOf ops.toList) (.f g ds) H []) : drawnW P W ops (.f g ds) H Q:=by
  unfold flatOk at hok
  simp only [Bool.and_eq_true] at hok
  obtain ⟨⟨⟨h1,h2⟩,h3⟩,h4⟩:=hok
  have hfit:fit ops.toList ops.toList 0=true:=by
    unfold planOk at h1
    simp only [Bool.and_eq_true] at h1
    exact h1.2
  have hz:Fr.f g ds=.f (Gs ops g 0 (fun _=>none)) ds:=by
    congr 1
    funext t
    unfold Gs
    split
    · rw [Nat.zero_testBit]
    · rfl
  refine ⟨h1,h2,?_⟩
  unfold planOf at h h4
  rw [hz] at h
  refine plan_stages hW hfit h3 _ _ _ _ 0 _ _ _ _ [] (fun c hc=>?_) ⟨⟨fun _ _=>rfl,fun j hj=>?_,fun j k hj=>?_⟩,fun _ h=>(by cases h),fun _ h=>(by cases h)⟩ h4 h
  · obtain ⟨_,o,ho,hch⟩:=mem_chainOf.1 hc
    exact ⟨o,toList_at.1 (by simpa using ho),hch⟩
  · rw [Nat.zero_testBit] at hj; cases hj
  · rw [Nat.zero_testBit] at hj; cases hj
end Go.Ai
end
section
namespace Go.Ai
open Go.RowKit (Below)
variable {B G:Nat} {P:Program} {n n0:Nat} {ρ0 ρ:Rn} {w0 w:World} {fr:Fr} {H:Mem} {a:Act} {W:WF} {Q:Out→Prop}
theorem execW_sound (hW:WOK G P W) (hG:G=P.globals.size) : ∀ (c:Code) (fr:Fr) (H:Mem) (Q:Out→Prop),dstsOk n c=true→execW P W (LX G P n) c fr H Q→XW G P n c fr H Q:=by
  intro c
  induction c with
  | skip=>intro fr H Q _ h B n0 ρ0 w0 ρ a w s; exact wp_skip ⟨_,h,ρ,s⟩
  | region id ops draw =>
    intro fr H Q hd h B n0 ρ0 w0 ρ a w s
    cases draw with
    | false=>exact wp_region_list (seqW_sound hW hG ops.toList fr H ρ a w (fun o ho=>List.all_eq_true.1 hd o ho) s h)
    | true=>exact drawnW_sound hW hG s hd h
  | seq x y ihx ihy =>
    intro fr H Q hd h B n0 ρ0 w0 ρ a w s
    simp only [dstsOk,Bool.and_eq_true] at hd
    refine wp_seq (Code.wp_mono ?_ (ihx fr H _ hd.1 h B n0 ρ0 w0 ρ a w s))
    rintro e a' w' ⟨out,hq,ho⟩
    cases out with
    | norm fr' H' =>
      cases e with
      | normal=>obtain ⟨ρ',s'⟩:=ho; exact ihy fr' H' Q hd.2 hq B n0 ρ0 w0 ρ' a' w' s'
      | _=>exact ho.elim
    | exit id fr' H'=>cases e <;> first | exact ho.elim | exact ⟨_,hq,ho⟩
    | ret fr' H'=>cases e <;> first | exact ho.elim | exact ⟨_,hq,ho⟩
    | panic v fr' H'=>cases e <;> first | exact ho.elim | exact ⟨_,hq,ho⟩
    | bad=>exact hq.elim
  | cond cnd x y ihx ihy =>
    intro fr H Q hd h B n0 ρ0 w0 ρ a w s
    simp only [dstsOk,Bool.and_eq_true] at hd
    have h' : condW (fr.ev cnd) (execW P W (LX G P n) x fr H Q) (execW P W (LX G P n) y fr H Q):=h
    unfold condW at h'
    split at h'
    · rename_i b hev
      have:=s.ev _ _ hev
      cases b with
      | true=>exact wp_cond_true this (ihx fr H Q hd.1 (h'.1 rfl) B n0 ρ0 w0 ρ a w s)
      | false=>exact wp_cond_false this (ihy fr H Q hd.2 (h'.2 rfl) B n0 ρ0 w0 ρ a w s)
    · exact h'.elim
  | block id b ih =>
    intro fr H Q hd h B n0 ρ0 w0 ρ a w s
    refine wp_block (Code.wp_mono ?_ (ih fr H _ hd h B n0 ρ0 w0 ρ a w s))
    rintro e a' w' ⟨out,hq,ho⟩
    cases out with
    | norm fr' H'=>cases e <;> first | exact ho.elim | exact ⟨_,hq,ho⟩
    | exit id' fr' H' =>
      cases e with
      | exit id2 =>
        obtain ⟨rfl,ρ',s'⟩:=ho
        have hq' : if id2=id then Q (.norm fr' H') else Q (.exit id2 fr' H'):=hq
        by_cases e:id2=id
        · subst e
          rw [if_pos rfl] at hq'
          simp only [Exit.inBlock,if_true]
          exact ⟨_,hq',ρ',s'⟩
        · rw [if_neg e] at hq'
          simp only [Exit.inBlock,e,if_false]
          exact ⟨_,hq',rfl,ρ',s'⟩
      | _=>exact ho.elim
    | ret fr' H'=>cases e <;> first | exact ho.elim | exact ⟨_,hq,ho⟩
    | panic v fr' H'=>cases e <;> first | exact ho.elim | exact ⟨_,hq,ho⟩
    | bad=>exact hq.elim
  | loop b ih =>
    intro fr H Q hd h B n0 ρ0 w0 ρ a w s
    exact (h B n0 ρ0 w0 ρ a w s).wp
  | rangeFunc f ps x y ihx ihy=>intro fr H Q hd h; exact h.elim
  | exit id=>intro fr H Q hd h B n0 ρ0 w0 ρ a w s; exact wp_exit ⟨_,h,rfl,ρ,s⟩
  | scope b ih=>intro fr H Q hd h; exact h.elim
  | label l=>intro fr H Q hd h B n0 ρ0 w0 ρ a w s; exact wp_label ⟨_,h,ρ,s⟩
  | goto l=>intro fr H Q hd h; exact h.elim
  | ret=>intro fr H Q hd h B n0 ρ0 w0 ρ a w s; exact wp_ret ⟨_,h,ρ,s⟩
  | refuse why=>intro fr H Q hd h; exact h.elim
theorem LX.round (hW:WOK G P W) (hG:G=P.globals.size) {b:Code} (hd:dstsOk n b=true) (h:execW P W (LX G P n) b fr H (thenW (fun fr H=>LX G P n b fr H Q) Q)) : LX G P n b fr H Q:=by
  intro B n0 ρ0 w0 ρ a w s
  refine LW.unroll (Code.wp_mono ?_ (execW_sound hW hG b fr H _ hd h B n0 ρ0 w0 ρ a w s))
  rintro e a' w' ⟨out,hq,ho⟩
  cases out with
  | norm fr' H' =>
    cases e with
    | normal=>obtain ⟨ρ',s'⟩:=ho; exact hq B n0 ρ0 w0 ρ' a' w' s'
    | _=>exact ho.elim
  | exit id fr' H'=>cases e <;> first | exact ho.elim | exact ⟨_,hq,ho⟩
  | ret fr' H'=>cases e <;> first | exact ho.elim | exact ⟨_,hq,ho⟩
  | panic v fr' H'=>cases e <;> first | exact ho.elim | exact ⟨_,hq,ho⟩
  | bad=>exact hq.elim
noncomputable def leaveW (P:Program) (O:CallF) (fn:Func) (K:COut→Prop) : Out→Prop
  | .norm fr H=>match leave P O (fun _ _ _=>.bad) fn fr fr.defers .returning H with | .bad=>False | r=>K r
  | .ret fr H=>match leave P O (fun _ _ _=>.bad) fn fr fr.defers .returning H with | .bad=>False | r=>K r
  | .panic v fr H=>match leave P O (fun _ _ _=>.bad) fn fr fr.defers (.panicking v) H with | .bad=>False | r=>K r
  | _=>False
noncomputable def argsF:List AV→Nat→(Nat→Option AV)→Nat→Option AV
  | [],_,g=>g
  | v :: l,i,g=>argsF l (i+1) (fput g i v)
noncomputable def frameW (args:List AV) : Fr:=.f (argsF args 0 (fun _=>none)) []
theorem argsF_get:∀ (l:List AV) (i:Nat) (g:Nat→Option AV) (t:Nat) (v:AV),argsF l i g t=some v→(i≤t∧l[t - i]?=some v)∨g t=some v
  | [],i,g,t,v,h=>.inr h
  | x :: l,i,g,t,v,h=>by
    rcases argsF_get l (i+1) (fput g i x) t v h with ⟨h1,h2⟩ | h1
    · left
      refine ⟨by omega,?_⟩
      rw [show t - i=(t - (i+1))+1 by omega]; simpa using h2
    · unfold fput at h1
      by_cases e:t=i
      · rw [if_pos e] at h1; cases h1; left; subst e; simp
      · rw [if_neg e] at h1; exact .inr h1
theorem frameW_entered {args:List AV} {us:Array Value} (hv:VRs ρ args us.toList) (hle:args.length≤n) :
    FRel n ρ (frameW args) { tmps:=us++Array.replicate (n - us.size) undef,defers:=[] }:=by
  have hsz:us.size=args.length:=by have:=hv.length; simpa using this
  have hget:∀ t v,(frameW args).get t=some v→args[t]?=some v:=by
    intro t v h
    rcases argsF_get args 0 _ t v h with ⟨_,h1⟩ | h1
    · simpa using h1
    · cases h1
  refine ⟨?_,rfl,by simp; omega,?_⟩
  · intro t v h _
    obtain ⟨u,hu,hvu⟩:=hv.get t (hget t v h)
    have hlt:t < us.size:=by have:=(List.getElem?_eq_some_iff.1 hu).1; simpa using this
    rw [Array.getD_eq_getD_getElem?,Array.getElem?_append_left hlt]
    have:us[t]?=some u:=by simpa using hu
    rw [this]; exact hvu
  · intro t v h
    have:=(List.getElem?_eq_some_iff.1 (hget t v h)).1
    omega
theorem badLoop_ok (B G:Nat) (P:Program) : LoopOK B G P (fun _ _ _=>.bad):=fun _ _ _ _ _ _ _ _ _ _ _ _ hne=>absurd rfl hne
theorem Leaves_mono {fn:Func} {tmps:Array Value} {R R' : Ending→World→Prop} (h:∀ e w,R e w→R' e w) : ∀ {ds:List Deferred} {u:FrameMode} {w:World},Leaves P fn tmps R ds u w→Leaves P fn tmps R' ds u w
  | [],.returning,w,⟨v,h1,h2⟩=>⟨v,h1,h _ _ h2⟩
  | [],.panicking chain,w,h1=>h _ _ h1
  | [],.run,w,h1=>h1.elim
  | d :: ds,u,w,⟨h1,fv,cap,f,args,h2,h3,h4⟩=>⟨h1,fv,cap,f,args,h2,h3,h4.mono fun e u' w' hr=>by
      cases e with
      | returned v=>exact Leaves_mono h hr
      | panicked chain=>exact Leaves_mono h hr
      | outgrown=>exact h _ _ hr⟩
theorem WC.enter {f:FuncId} {fn:Func} {c:Code} {args:List AV} {K:COut→Prop} {O:CallF} (hG:G=P.globals.size) (hO:∀ B,CallOK B G P O) (hW:WOK G P W) (hf:P.funcs[f]?=some fn) (hb:fn.body=some c)
    (hd:dstsOk fn.ntmps c=true) (hl:args.length≤fn.ntmps) (h:execW P W (LX G P fn.ntmps) c (frameW args) H (leaveW P O fn K)) : WC G P f args H K:=by
  intro B ρ us w s hv
  have s1:St B G fn.ntmps H.next ρ w ρ (frameW args) H { tmps:=us++Array.replicate (fn.ntmps - us.size) undef,defers:=[] } w:=⟨Ext.refl _ _ _ _,s,frameW_entered hv hl,Nat.le_refl _⟩
  refine calls_of_wp_defers hf hb (Code.wp_mono ?_ (execW_sound hW hG c _ H _ hd h B H.next ρ w ρ _ w s1))
  rintro e a' w' ⟨out,hq,ho⟩
  have fin:∀ {fr' : Fr} {u:Mode} {H' : Mem} {ρ' : Rn} {m:FrameMode},(match leave P O (fun _ _ _=>.bad) fn fr' fr'.defers u H' with | .bad=>False | r=>K r)→St B G fn.ntmps H.next ρ w ρ' fr' H' a' w'→MR ρ' u m →
      Leaves P fn a'.tmps (fun e w'=>∃ r,K r∧CPost B G H.next ρ w r e w') a'.defers m w':=by
    intro fr' u H' ρ' m hm s' hmr
    have key:∀ r,leave P O (fun _ _ _=>.bad) fn fr' fr'.defers u H'=r→r≠.bad→K r→Leaves P fn a'.tmps (fun e w'=>∃ r,K r∧CPost B G H.next ρ w r e w') a'.defers m w':=by
      intro r hr hne hk
      refine Leaves_mono (fun e w' hc=>⟨r,hk,hc⟩) ?_
      exact leave_sound (hO B) (badLoop_ok B G P) hG hne _ _ u H' ρ' m w' s'.frel.dfr s' hmr hr
    generalize hr:leave P O (fun _ _ _=>.bad) fn fr' fr'.defers u H'=r at hm
    cases r with
    | bad=>exact hm.elim
    | ret v H2=>exact key _ hr (by simp) hm
    | panic v H2=>exact key _ hr (by simp) hm
  cases out with
  | norm fr' H' =>
    cases e with
    | normal=>obtain ⟨ρ',s'⟩:=ho; exact fin (u:=.returning) (m:=.returning) hq s' rfl
    | _=>exact ho.elim
  | ret fr' H' =>
    cases e with
    | ret=>obtain ⟨ρ',s'⟩:=ho; exact fin (u:=.returning) (m:=.returning) hq s' rfl
    | _=>exact ho.elim
  | panic v fr' H' =>
    cases e with
    | panic chain=>obtain ⟨ρ',x,rfl,hx,s'⟩:=ho; exact fin (u:=.panicking v) hq s' ⟨x,rfl,hx⟩
    | _=>exact ho.elim
  | exit id fr' H'=>exact hq.elim
  | bad=>exact hq.elim
end Go.Ai
end
section
namespace Go.Ai
open Go.RowKit (Below)
def planAt:List (Nat×List It)→Nat→List It
  | [],_=>[]
  | (k,l) :: r,i=>if k=i then l else planAt r i
def codeOk (P:Program) (plan:List (Nat×List It)) : Code→Bool
  | .region id ops true=>flatOk P ops.toList && decide (planOf ops.toList=planAt plan id)
  | .seq a b=>codeOk P plan a && codeOk P plan b
  | .cond _ a b=>codeOk P plan a && codeOk P plan b
  | .block _ b=>codeOk P plan b
  | .loop b=>codeOk P plan b
  | _=>true
noncomputable def regP (P:Program) (W:WF) (ops:Array Oper) (Q:Out→Prop) (l:List It) (fr:Fr) (H:Mem) : Prop:=match fr with
  | .f g ds=>planW P W ops (clearQ Q) l (.f g ds) H []
  | _=>False
noncomputable def execP (P:Program) (W:WF) (L:LF) (plan:List (Nat×List It)) : Code→Fr→Mem→(Out→Prop)→Prop
  | .skip,fr,H,Q=>Q (.norm fr H)
  | .region _ ops false,fr,H,Q=>seqW P W ops Q ops.toList fr H
  | .region id ops true,fr,H,Q=>regP P W ops Q (planAt plan id) fr H
  | .seq a b,fr,H,Q=>execP P W L plan a fr H (thenW (fun fr H=>execP P W L plan b fr H Q) Q)
  | .cond c a b,fr,H,Q=>condW (fr.ev c) (execP P W L plan a fr H Q) (execP P W L plan b fr H Q)
  | .block id b,fr,H,Q=>execP P W L plan b fr H (inBlockW id Q)
  | .loop b,fr,H,Q=>L b fr H Q
  | .exit id,fr,H,Q=>Q (.exit id fr H)
  | .label _,fr,H,Q=>Q (.norm fr H)
  | .ret,fr,H,Q=>Q (.ret fr H)
  | _,_,_,_=>False
variable {B G:Nat} {P:Program} {n n0:Nat} {ρ0 ρ:Rn} {w0 w:World} {fr:Fr} {H:Mem} {a:Act} {W:WF} {Q:Out→Prop} {plan:List (Nat×List It)}
theorem execP_sound (hW:WOK G P W) (hM:WMono W) (hG:G=P.globals.size) : ∀ (c:Code) (fr:Fr) (H:Mem) (Q:Out→Prop),dstsOk n c=true→codeOk P plan c=true→execP P W (LX G P n) plan c fr H Q→XW G P n c fr H Q:=by
  intro c
  induction c with
  | skip=>intro fr H Q _ _ h B n0 ρ0 w0 ρ a w s; exact wp_skip ⟨_,h,ρ,s⟩
  | region id ops draw =>
    intro fr H Q hd hc h B n0 ρ0 w0 ρ a w s
    cases draw with
    | false=>exact wp_region_list (seqW_sound hW hG ops.toList fr H ρ a w (fun o ho=>List.all_eq_true.1 hd o ho) s h)
    | true =>
      simp only [codeOk,Bool.and_eq_true,decide_eq_true_eq] at hc
      have h' : regP P W ops Q (planAt plan id) fr H:=h
      rw [← hc.2] at h'
      cases fr with
      | f g ds=>exact drawnW_sound hW hG s hd (planW_drawn hM hc.1 h')
      | _=>exact h'.elim
  | seq x y ihx ihy =>
    intro fr H Q hd hc h B n0 ρ0 w0 ρ a w s
    simp only [dstsOk,Bool.and_eq_true] at hd
    simp only [codeOk,Bool.and_eq_true] at hc
    refine wp_seq (Code.wp_mono ?_ (ihx fr H _ hd.1 hc.1 h B n0 ρ0 w0 ρ a w s))
    rintro e a' w' ⟨out,hq,ho⟩
    cases out with
    | norm fr' H' =>
      cases e with
      | normal=>obtain ⟨ρ',s'⟩:=ho; exact ihy fr' H' Q hd.2 hc.2 hq B n0 ρ0 w0 ρ' a' w' s'
      | _=>exact ho.elim
    | exit id fr' H'=>cases e <;> first | exact ho.elim | exact ⟨_,hq,ho⟩
    | ret fr' H'=>cases e <;> first | exact ho.elim | exact ⟨_,hq,ho⟩
    | panic v fr' H'=>cases e <;> first | exact ho.elim | exact ⟨_,hq,ho⟩
    | bad=>exact hq.elim
  | cond cnd x y ihx ihy =>
    intro fr H Q hd hc h B n0 ρ0 w0 ρ a w s
    simp only [dstsOk,Bool.and_eq_true] at hd
    simp only [codeOk,Bool.and_eq_true] at hc
    have h' : condW (fr.ev cnd) (execP P W (LX G P n) plan x fr H Q) (execP P W (LX G P n) plan y fr H Q):=h
    unfold condW at h'
    split at h'
    · rename_i b hev
      have:=s.ev _ _ hev
      cases b with
      | true=>exact wp_cond_true this (ihx fr H Q hd.1 hc.1 (h'.1 rfl) B n0 ρ0 w0 ρ a w s)
      | false=>exact wp_cond_false this (ihy fr H Q hd.2 hc.2 (h'.2 rfl) B n0 ρ0 w0 ρ a w s)
    · exact h'.elim
  | block id b ih =>
    intro fr H Q hd hc h B n0 ρ0 w0 ρ a w s
    refine wp_block (Code.wp_mono ?_ (ih fr H _ hd hc h B n0 ρ0 w0 ρ a w s))
    rintro e a' w' ⟨out,hq,ho⟩
    cases out with
    | norm fr' H'=>cases e <;> first | exact ho.elim | exact ⟨_,hq,ho⟩
    | exit id' fr' H' =>
      cases e with
      | exit id2 =>
        obtain ⟨rfl,ρ',s'⟩:=ho
        have hq' : if id2=id then Q (.norm fr' H') else Q (.exit id2 fr' H'):=hq
        by_cases e:id2=id
        · subst e
          rw [if_pos rfl] at hq'
          simp only [Exit.inBlock,if_true]
          exact ⟨_,hq',ρ',s'⟩
        · rw [if_neg e] at hq'
          simp only [Exit.inBlock,e,if_false]
          exact ⟨_,hq',rfl,ρ',s'⟩
      | _=>exact ho.elim
    | ret fr' H'=>cases e <;> first | exact ho.elim | exact ⟨_,hq,ho⟩
    | panic v fr' H'=>cases e <;> first | exact ho.elim | exact ⟨_,hq,ho⟩
    | bad=>exact hq.elim
  | loop b ih =>
    intro fr H Q hd hc h B n0 ρ0 w0 ρ a w s
    exact LW.wp (h B n0 ρ0 w0 ρ a w s)
  | rangeFunc f ps x y ihx ihy=>intro fr H Q hd hc h; exact h.elim
  | exit id=>intro fr H Q hd hc h B n0 ρ0 w0 ρ a w s; exact wp_exit ⟨_,h,rfl,ρ,s⟩
  | scope b ih=>intro fr H Q hd hc h; exact h.elim
  | label l=>intro fr H Q hd hc h B n0 ρ0 w0 ρ a w s; exact wp_label ⟨_,h,ρ,s⟩
  | goto l=>intro fr H Q hd hc h; exact h.elim
  | ret=>intro fr H Q hd hc h B n0 ρ0 w0 ρ a w s; exact wp_ret ⟨_,h,ρ,s⟩
  | refuse why=>intro fr H Q hd hc h; exact h.elim
theorem LX.roundP {O:CallF} (hO:∀ B,CallOK B G P O) (hG:G=P.globals.size) (plan:List (Nat×List It)) {b:Code} (hd:(dstsOk n b && codeOk P plan b)=true)
    (h:execP P (orW O (WC G P)) (LX G P n) plan b fr H (thenW (fun fr H=>LX G P n b fr H Q) Q)) : LX G P n b fr H Q:=by
  rw [Bool.and_eq_true] at hd
  intro B n0 ρ0 w0 ρ a w s
  refine LW.unroll (Code.wp_mono ?_ (execP_sound (orW_ok hO) (orW_mono (WC_mono' G P)) hG b fr H _ hd.1 hd.2 h B n0 ρ0 w0 ρ a w s))
  rintro e a' w' ⟨out,hq,ho⟩
  cases out with
  | norm fr' H' =>
    cases e with
    | normal=>obtain ⟨ρ',s'⟩:=ho; exact hq B n0 ρ0 w0 ρ' a' w' s'
    | _=>exact ho.elim
  | exit id fr' H'=>cases e <;> first | exact ho.elim | exact ⟨_,hq,ho⟩
  | ret fr' H'=>cases e <;> first | exact ho.elim | exact ⟨_,hq,ho⟩
  | panic v fr' H'=>cases e <;> first | exact ho.elim | exact ⟨_,hq,ho⟩
  | bad=>exact hq.elim
theorem WC.enterP {f:FuncId} {fn:Func} {c:Code} {args:List AV} {K:COut→Prop} {O:CallF} (hO:∀ B,CallOK B G P O) (hG:G=P.globals.size) (plan:List (Nat×List It)) (hf:P.funcs[f]?=some fn) (hb:fn.body=some c)
    (hd:(dstsOk fn.ntmps c && codeOk P plan c)=true) (hl:args.length≤fn.ntmps) (h:execP P (orW O (WC G P)) (LX G P fn.ntmps) plan c (frameW args) H (leaveW P O fn K)) : WC G P f args H K:=by
  rw [Bool.and_eq_true] at hd
  intro B ρ us w s hv
  have s1:St B G fn.ntmps H.next ρ w ρ (frameW args) H { tmps:=us++Array.replicate (fn.ntmps - us.size) undef,defers:=[] } w:=⟨Ext.refl _ _ _ _,s,frameW_entered hv hl,Nat.le_refl _⟩
  refine calls_of_wp_defers hf hb (Code.wp_mono ?_ (execP_sound (orW_ok hO) (orW_mono (WC_mono' G P)) hG c _ H _ hd.1 hd.2 h B H.next ρ w ρ _ w s1))
  rintro e a' w' ⟨out,hq,ho⟩
  have fin:∀ {fr' : Fr} {u:Mode} {H' : Mem} {ρ' : Rn} {m:FrameMode},(match leave P O (fun _ _ _=>.bad) fn fr' fr'.defers u H' with | .bad=>False | r=>K r)→St B G fn.ntmps H.next ρ w ρ' fr' H' a' w'→MR ρ' u m →
      Leaves P fn a'.tmps (fun e w'=>∃ r,K r∧CPost B G H.next ρ w r e w') a'.defers m w':=by
    intro fr' u H' ρ' m hm s' hmr
    have key:∀ r,leave P O (fun _ _ _=>.bad) fn fr' fr'.defers u H'=r→r≠.bad→K r→Leaves P fn a'.tmps (fun e w'=>∃ r,K r∧CPost B G H.next ρ w r e w') a'.defers m w':=by
      intro r hr hne hk
      refine Leaves_mono (fun e w' hc=>⟨r,hk,hc⟩) ?_
      exact leave_sound (hO B) (badLoop_ok B G P) hG hne _ _ u H' ρ' m w' s'.frel.dfr s' hmr hr
    generalize hr:leave P O (fun _ _ _=>.bad) fn fr' fr'.defers u H'=r at hm
    cases r with
    | bad=>exact hm.elim
    | ret v H2=>exact key _ hr (by simp) hm
    | panic v H2=>exact key _ hr (by simp) hm
  cases out with
  | norm fr' H' =>
    cases e with
    | normal=>obtain ⟨ρ',s'⟩:=ho; exact fin (u:=.returning) (m:=.returning) hq s' rfl
    | _=>exact ho.elim
  | ret fr' H' =>
    cases e with
    | ret=>obtain ⟨ρ',s'⟩:=ho; exact fin (u:=.returning) (m:=.returning) hq s' rfl
    | _=>exact ho.elim
  | panic v fr' H' =>
    cases e with
    | panic chain=>obtain ⟨ρ',x,rfl,hx,s'⟩:=ho; exact fin (u:=.panicking v) hq s' ⟨x,rfl,hx⟩
    | _=>exact ho.elim
  | exit id fr' H'=>exact hq.elim
  | bad=>exact hq.elim
end Go.Ai
end
