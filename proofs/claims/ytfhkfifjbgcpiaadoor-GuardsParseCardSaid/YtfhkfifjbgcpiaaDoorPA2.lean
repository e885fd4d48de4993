/- A small verified interpreter over names, its proofs, and what was proved with it. No condition. -/
import Derived.Laws.BytesString
import Derived.Laws.IdiomStrings
import Derived.Tactics
import Derived.Recover
import Derived.Test.YtfhkfifjbgcpiaaDoorPA1
set_option linter.all false
set_option linter.deprecated false
section
namespace Go.Ai
open Go.RowKit (Below)
variable {B G:Nat} {ρ:Rn} {H:Mem} {w:World} {P:Program}
def VS (B G:Nat) (P:Program) (ρ:Rn) (H:Mem) (w:World) (r:Option (AV×Mem)) (m:Sem Value) : Prop :=
  ∀ v H',r=some (v,H')→∃ ρ' u w',m.run P w=.ok u w'∧Ext B H.next ρ w ρ' w'∧Sim B G ρ' H' w'∧VR ρ' v u∧H.next≤H'.next
theorem vs_quiet {v:AV} {u:Value} {m:Sem Value} (s:Sim B G ρ H w) (h:m.run P w=.ok u w) (hv:VR ρ v u) : VS B G P ρ H w (some (v,H)) m:=by
  intro v' H' e; cases e
  exact ⟨ρ,u,w,h,Ext.refl _ _ _ _,s,hv,Nat.le_refl _⟩
theorem vs_none {m:Sem Value} : VS B G P ρ H w none m:=fun _ _ e=>by cases e
theorem vs_newSlq {l:List AV} {cells:Array Value} {el:TypeId} {m:Sem Value} {n size cap:Nat} (s:Sim B G ρ H w) (hn:n≤cap) (hc:VRs ρ l cells.toList) (rest:Array Value)
    (hl:l.length=n * size) (hrest:rest.size=(cap - n) * size)
    (hrun:m.run P w=.ok (.slice (some ⟨w.heap.size,0,none⟩) n cap) (w.drew.alloc (.cells (cells++rest) el))) : VS B G P ρ H w (newSlq H l n size) m:=by
  unfold newSlq
  rw [Mem.newK_eq]
  intro v H' e; cases e
  have hcl:cells.size=n * size:=by have:=hc.length; simp at this; omega
  have hcap:n * size+(cap - n) * size=cap * size:=by rw [← Nat.add_mul]; congr 1; omega
  refine ⟨upd ρ H.next (w.heap.size,0,cap),_,_,hrun,Ext.alloc ρ _ _ w _ (.cells (cells++rest) el) rfl rfl rfl rfl s.base,?_,⟨_,_,_,upd_same _ _ _,by omega,rfl⟩,Nat.le_succ _⟩
  refine s.alloc _ (.cells (cells++rest) el) cap _ rfl ⟨cells++rest,el,(0,0),alloc_at w _ _ rfl,?_,fun _=>⟨s.base,by simp,?_,?_⟩⟩
  · intro i v hi
    obtain ⟨u,hu,hv⟩:=hc.get i hi
    have hlt:i < cells.size:=by
      have:=(List.getElem?_eq_some_iff.1 hu).1; simpa using this
    exact ⟨u,by rw [Nat.zero_add,Array.getElem?_append_left hlt]; simpa using hu,hv.mono (sub_upd s.none)⟩
  · simp [hrest,hcl]; omega
  · right; rw [hl]; exact Nat.mul_le_mul_right _ hn
theorem Sim.drew (s:Sim B G ρ H w) : Sim B G ρ H w.drew:=s.heap rfl
theorem zeroCells_size (z:Array Value) (n:Nat) : (Builtin.zeroCells z n).size=n * z.size:=by simp [Builtin.zeroCells]
theorem vs_setCells {a:Nat} {l new:List AV} {z off b q k:Nat} {vs:List Value} {v:AV} {u:Value} {m:Sem Value} (s:Sim B G ρ H w) (ha:H.get a=some (.cells l true z)) (hr:ρ a=some (b,q,k))
    (hv:VRs ρ new vs) (hvr:VR ρ v u) (hrun:∀ w',(storeCells ⟨b,q+off,none⟩ vs).run P w=.ok () w'→m.run P w=.ok u w') : VS B G P ρ H w (setCells H a l z off new v) m:=by
  unfold Go.Ai.setCells
  split
  · rename_i hall
    rw [putCellsK_eq]
    split
    · rename_i hle
      rw [Mem.setK_eq]
      intro v' H' e; cases e
      obtain ⟨w',h1,h2,h3⟩:=set_sound (P:=P) s ha hr hle hv (allOne_VRs hv hall)
      exact ⟨ρ,u,w',hrun w' h1,h2,h3,hvr,Nat.le_refl _⟩
    · exact vs_none
  · exact vs_none
section app
variable {argTypes:Array TypeId} {args:Array Value} {ty sT xT el:TypeId} {dx:TypeDesc} {i:TypeInfo} {zv:Value} {n:Nat} {x:AV} {xu su:Value} {st:AV} {new:List AV}
  (ht:argTypes[0]?=some sT) (hx:argTypes[1]?=some xT) (hd:P.underlying sT=some (.slice el)) (hxd:P.underlying xT=some dx) (hni:∀ k,dx≠.int k)
  (hi:P.info? el=some i) (hz:i.zero=some zv) (hzs:zv.cells.size=i.size) (ha0:args[0]?=some su) (ha1:args[1]?=some xu)
include ht hx hd hxd hni hi hz hzs ha0 ha1
theorem appTo_sound (s:Sim B G ρ H w) (hsv:VR ρ st su) (hxv:VR ρ x xu) (hn:lenOf x=some n) (hn0:n≠0) (hs0:i.size≠0) (hf:firstL H i.size n x=some new) :
    VS B G P ρ H w (appTo H i.size i.bytes n st new) (Builtin.append_ argTypes ty args):=by
  obtain ⟨cs,hfc,hcs⟩:=firstL_sound (P:=P) s hf hxv
  have hlen:=lenOf_sound (P:=P) hn hxv w
  unfold appTo
  split
  · rename_i hl
    have hl' : new.length=n * i.size:=by rw [← len_eq]; exact Nat.eq_of_beq_eq_true hl
    split
    ·
      cases hsv
      unfold appNil
      split
      · rename_i hsm
        obtain ⟨cap,hcap,hrun⟩:=run_append_grow (P:=P) (w:=w) (ty:=ty) (sLen:=0) (sCap:=0) (base:=none) ht hx hd hxd hni hi hz ha0 ha1 hlen (by omega) (by simpa using hsm) (old:=#[]) rfl (hfc _ rfl)
        simp only [Nat.zero_add] at hrun hcap
        refine vs_newSlq (el:=el) s hcap hcs (Builtin.zeroCells zv.cells (cap - n)) hl' (by rw [zeroCells_size,hzs]) ?_
        rw [hrun]; simp
      · exact vs_none
    ·
      rename_i a off k cap
      obtain ⟨b,q,kk,hr,hle,rfl⟩:=hsv
      unfold appSl
      split
      · rename_i hfit
        have hfit' : k+n≤cap:=Nat.le_of_ble_eq_true hfit
        split
        · rename_i l z hb
          refine vs_setCells s hb hr hcs ⟨b,q,kk,hr,hfit',rfl⟩ fun w' hw'=>?_
          rw [run_append_in (P:=P) (w:=w) (ty:=ty) ht hx hd hxd hni hi ha0 ha1 hlen hfit' (hfc w rfl)]
          simp only [add_none]
          rw [Nat.add_assoc,hw']
          rfl
        · exact vs_none
      · rename_i hfit
        have hfit' : cap < k+n:=Nat.not_le.1 fun h0=>by
          have h5:Nat.ble (k+n) cap=true:=by rw [Nat.ble_eq]; exact h0
          rw [h5] at hfit; cases hfit
        split
        · rename_i l own z hb hsm
          rw [sliceK_eq]
          split
          · rename_i hle2
            rw [appK_eq]
            obtain ⟨us,hul,hus,hcell⟩:=(s.at hb hr).sub hle2
            have hold:(Builtin.firstCells i.size k (.slice (some ⟨b,q+off,none⟩) k cap)).run P w.drew=.ok us.toArray w.drew:=by
              rw [Builtin.firstCells,← hul]
              exact run_loadAll us fun j v hj=>hcell j v hj
            obtain ⟨cap',hcap,hrun⟩:=run_append_grow (P:=P) (w:=w) (ty:=ty) ht hx hd hxd hni hi hz ha0 ha1 hlen hfit' hsm hold (hfc _ rfl)
            refine vs_newSlq (el:=el) s hcap (cells:=us.toArray++cs) (by simpa using hus.append hcs) (Builtin.zeroCells zv.cells (cap' - (k+n))) ?_ (by rw [zeroCells_size,hzs]) ?_
            · rw [List.length_append,hl',List.length_take,List.length_drop,Nat.add_mul]; omega
            · rw [hrun]; simp
          · exact vs_none
        · exact vs_none
    ·
      rename_i a off k d
      obtain ⟨b,q,K,hr,hle,rfl⟩:=hsv
      unfold appSlq
      split
      · rename_i l z hb
        have hBR:=s.at hb hr
        obtain ⟨c,e,fz,hbb,hcc,hown⟩:=hBR
        obtain ⟨hB,hfr,hK,hKl⟩:=hown rfl
        split
        · rename_i h1 h2
          simp only [Bool.and_eq_true] at h1
          have hz1:z=i.size:=Nat.eq_of_beq_eq_true h1.1
          have hoff:off=d * i.size:=Nat.eq_of_beq_eq_true h1.2
          have hvis:off+(k+n) * i.size≤l.length:=by rw [← len_eq]; exact Nat.le_of_ble_eq_true h2
          have hfit:k+n≤K - d:=by
            rcases hKl with h0 | h0
            · omega
            · rw [hz1] at h0
              have:(d+(k+n)) * i.size≤K * i.size:=by rw [Nat.add_mul]; omega
              have:=Nat.le_of_mul_le_mul_right this (by omega)
              omega
          refine vs_setCells s hb hr hcs ⟨b,q,K,hr,by omega,rfl⟩ fun w' hw'=>?_
          rw [run_append_in (P:=P) (w:=w) (ty:=ty) ht hx hd hxd hni hi ha0 ha1 hlen hfit (hfc w rfl)]
          simp only [add_none]
          rw [Nat.add_assoc,hw']
          rfl
        · rename_i h1 h2 h3
          simp only [Bool.and_eq_true] at h1 h3
          have hz1:z=i.size:=Nat.eq_of_beq_eq_true h1.1
          have hoff:off=d * i.size:=Nat.eq_of_beq_eq_true h1.2
          have hend:off+k * i.size=l.length:=by rw [← len_eq]; exact Nat.eq_of_beq_eq_true h3.1.1
          have hsm:=h3.1.2
          have hone:=allOne_VRs hcs h3.2
          rw [sliceK_eq]
          split
          · rename_i hle2
            rw [appK_eq,Mem.delK_eq]
            obtain ⟨us,hul,hus,hcell⟩:=(s.at hb hr).sub hle2
            by_cases hfit:k+n≤K - d
            ·
              have hsz:q+off+k * i.size+cs.toList.length≤c.size:=by
                have e1:cs.toList.length=n * i.size:=by have:=hcs.length; omega
                have e2:(d+(k+n)) * i.size≤K * i.size:=Nat.mul_le_mul_right _ (by omega)
                rw [Nat.add_mul,Nat.add_mul] at e2
                rw [hz1] at hK
                omega
              obtain ⟨w',c',hst,hb',hcz,hcells,hoth,hws,g2,g3,g4⟩:=run_storeAll (P:=P) b (q+off+k * i.size) e fz cs.toList 0 c w hbb hfr (by omega) hone
              unfold newSlq
              rw [Mem.newK_eq]
              intro v H' e0; cases e0
              have srm:=s.rm a
              have hext:Ext B H.next ρ w (upd ρ H.next (b,q+off,K - d)) w':=⟨fun j hj=>upd_ne _ _ (by omega),g2,g3,g4,by omega,fun j hj=>hoth j (by omega)⟩
              refine ⟨upd ρ H.next (b,q+off,K - d),.slice (some ⟨b,q+off,none⟩) (k+n) (K - d),w',?_,hext,?_,⟨_,_,_,upd_same _ _ _,by omega,by simp⟩,Nat.le_succ _⟩
              · rw [run_append_in (P:=P) (w:=w) (ty:=ty) ht hx hd hxd hni hi ha0 ha1 hlen hfit (hfc w rfl)]
                simp only [add_none,hst]
                rfl
              · refine srm.add (by omega) ?_ ⟨c',e,fz,hb',?_,fun _=>⟨hB,by rw [hcz]; exact hfr,?_,?_⟩⟩
                · intro j y b1 o1 k1 hy hrj
                  obtain ⟨hne,hy⟩:=Mem.get_rm hy
                  have hbne:b1≠b:=by
                    rintro rfl
                    exact s.inj a j _ y b1 q K o1 k1 hb hy (Ne.symm hne) rfl hr hrj
                  exact ⟨hbne,hoth b1 hbne⟩
                · intro j v hj
                  have hlo:((l.drop off).take (k * i.size)).length=k * i.size:=by simp; omega
                  have hsub:=sub_upd (x:=(b,q+off,K - d)) s.none
                  by_cases hj1:j < k * i.size
                  · rw [List.getElem?_append_left (by omega)] at hj
                    rw [List.getElem?_take,if_pos hj1,List.getElem?_drop] at hj
                    obtain ⟨u,hu,huv⟩:=hcc _ _ hj
                    refine ⟨u,?_,huv.mono hsub⟩
                    rw [hcells,if_neg (by omega),← hu]; congr 1; omega
                  · rw [List.getElem?_append_right (by omega),hlo] at hj
                    obtain ⟨u,hu,huv⟩:=hcs.get _ hj
                    have hjlt:=(List.getElem?_eq_some_iff.1 hu).1
                    refine ⟨u,?_,huv.mono hsub⟩
                    rw [hcells,if_pos (by omega),← hu]; congr 1; omega
                · rw [hcz]
                  have e2:(K - d) * i.size+d * i.size=K * i.size:=by rw [← Nat.add_mul]; congr 1; omega
                  rw [hz1] at hK
                  omega
                · right
                  have e2:(k+n) * i.size≤(K - d) * i.size:=Nat.mul_le_mul_right _ hfit
                  rw [List.length_append,hl',List.length_take,List.length_drop]
                  rw [Nat.add_mul] at e2; omega
            · have hfit' : K - d < k+n:=by omega
              have hold:(Builtin.firstCells i.size k (.slice (some ⟨b,q+off,none⟩) k (K - d))).run P w.drew=.ok us.toArray w.drew:=by
                rw [Builtin.firstCells,← hul]
                exact run_loadAll us fun j v hj=>hcell j v hj
              have hsm' : small (k+n) (K - d) i.bytes=true:=by
                simp only [small,Bool.and_eq_true,decide_eq_true_eq] at hsm ⊢
                omega
              obtain ⟨cap',hcap,hrun⟩:=run_append_grow (P:=P) (w:=w) (ty:=ty) ht hx hd hxd hni hi hz ha0 ha1 hlen hfit' hsm' hold (hfc _ rfl)
              refine vs_newSlq (el:=el) (H:=H.rm a) (s.rm a) hcap (cells:=us.toArray++cs) (by simpa using hus.append hcs) (Builtin.zeroCells zv.cells (cap' - (k+n))) ?_ (by rw [zeroCells_size,hzs]) ?_
              · rw [List.length_append,hl',List.length_take,List.length_drop,Nat.add_mul]; omega
              · rw [hrun]; simp
          · exact vs_none
        · exact vs_none
      · exact vs_none
    · exact vs_none
  · exact vs_none
end app
end Go.Ai
end
section
namespace Go.Ai
open Go.RowKit (Below)
variable {B G:Nat} {ρ:Rn} {H:Mem} {w:World} {P:Program}
theorem isSlice_VR {v:AV} {u:Value} (h:isSlice v=true) (hv:VR ρ v u) : ∃ base n c,u=.slice base n c∧n≤c:=by
  unfold isSlice at h
  split at h
  · obtain ⟨_,_,_,_,hle,rfl⟩:=hv; exact ⟨_,_,_,rfl,hle⟩
  · obtain ⟨_,_,_,_,hle,rfl⟩:=hv; exact ⟨_,_,_,rfl,by omega⟩
  · cases hv; exact ⟨_,_,_,rfl,Nat.le_refl _⟩
  · cases h
theorem ext0 (s:ByteArray) : (s.extract 0 0).data=#[]:=by
  have h:(s.extract 0 0).size=0:=by simp [ByteArray.size_extract]
  exact Array.eq_empty_of_size_eq_zero h
theorem first0 {x:AV} {u:Value} {size:Nat} (h:lenOf x=some 0) (hv:VR ρ x u) (w:World) : (Builtin.firstCells size 0 u).run P w=.ok #[] w:=by
  unfold lenOf at h
  split at h
  · obtain ⟨_,_,_,_,_,rfl⟩:=hv; simp [Builtin.firstCells,loadCells,loadCellsFrom]
  · obtain ⟨_,_,_,_,_,rfl⟩:=hv; simp [Builtin.firstCells,loadCells,loadCellsFrom]
  · obtain ⟨_,_,rfl⟩:=hv; simp [Builtin.firstCells,loadCells,loadCellsFrom]
  · cases hv; rfl
  · rename_i str
    cases hv
    have:(str.extract 0 0).data=#[]:=ext0 str
    simp [Builtin.firstCells,this]
  · cases h
theorem append_sound {argTypes:Array TypeId} {args:Array Value} {ty sT:TypeId} {st x:AV} {su xu:Value} (s:Sim B G ρ H w) (ht:argTypes[0]?=some sT)
    (ha0:args[0]?=some su) (ha1:args[1]?=some xu) (hsv:VR ρ st su) (hxv:VR ρ x xu) :
    VS B G P ρ H w (append P H sT argTypes[1]? st x) (Builtin.append_ argTypes ty args):=by
  unfold append
  split
  · rename_i el size bytes hel happ
    obtain ⟨hd,i,zv,hi,rfl,rfl,hz,hzs⟩:=elemOf_sound hel
    unfold appended at happ
    cases hx:argTypes[1]? with
    | none=>rw [hx] at happ; cases happ
    | some xT =>
      rw [hx] at happ
      have hdx:∃ dx,P.underlying xT=some dx∧∀ k,dx≠.int k:=by
        dsimp only at happ
        split at happ
        · rename_i e' h1; exact ⟨_,h1,by simp⟩
        · rename_i h1; exact ⟨_,h1,by simp⟩
        · cases happ
      obtain ⟨dx,hxd,hni⟩:=hdx
      unfold appendN
      split
      · rename_i hn
        split
        · rename_i hsl
          obtain ⟨base,n,c,rfl,hle⟩:=isSlice_VR hsl hsv
          refine vs_quiet s ?_ hsv
          rw [run_append_in (P:=P) (w:=w) (ty:=ty) ht hx hd hxd hni hi ha0 ha1 (lenOf_sound hn hxv w) (by omega) (first0 hn hxv w)]
          cases base <;> simp [storeCells]
        · exact vs_none
      · rename_i n hn0 hn
        split
        · rename_i new hs0 hf
          refine appTo_sound ht hx hd hxd hni hi hz hzs ha0 ha1 s hsv hxv hn (fun h0=>hn0 (by rw [h0])) (fun h0=>?_) hf
          rw [h0] at hs0; cases hs0
        · exact vs_none
      · exact vs_none
  · exact vs_none
theorem copy_sound {argTypes:Array TypeId} {args:Array Value} {ty dT:TypeId} {d x:AV} {du xu:Value} (s:Sim B G ρ H w) (ht:argTypes[0]?=some dT)
    (ha0:args[0]?=some du) (ha1:args[1]?=some xu) (hdv:VR ρ d du) (hxv:VR ρ x xu) :
    VS B G P ρ H w (copy P H dT d x) (Builtin.copy_ argTypes ty args):=by
  unfold copy
  split
  · rename_i el size bytes n k hel hn hk
    obtain ⟨hd,i,zv,hi,rfl,rfl,hz,hzs⟩:=elemOf_sound hel
    have hlen:=lenOf_sound (P:=P) hn hxv w
    have hrun:∀ {base:Option Addr} {k' c:Nat} {cells:Array Value},du=.slice base k' c→k'=k→(Builtin.firstCells i.size (Nat.min n k) xu).run P w=.ok cells w →
        (Builtin.copy_ argTypes ty args).run P w=((match base with | some a=>storeCells a cells.toList | none=>pure ()).run P w).andThen fun _ w'=>.ok (goInt (Nat.min n k)) w':=by
      intro base k' c cells hu hk' hf
      subst hu; subst hk'
      cases base <;> simp [Builtin.copy_,ht,ha0,ha1,run_und hd,hlen,run_size hi,hf]
    have hkk:∀ {base:Option Addr} {k' c:Nat},du=.slice base k' c→k'=k:=by
      intro base k' c hu
      have:=lenOf_sound (P:=P) hk hdv w
      rw [hu] at this
      simp only [Builtin.lenOf,Sem.run_pure] at this
      cases this; rfl
    split
    · rename_i hm
      split
      · rename_i hsl
        obtain ⟨base,k',c,hu,hle⟩:=isSlice_VR hsl hdv
        have hf:(Builtin.firstCells i.size (Nat.min n k) xu).run P w=.ok #[] w:=by
          rw [hm]
          unfold lenOf at hn
          split at hn
          · obtain ⟨_,_,_,_,_,rfl⟩:=hxv; simp [Builtin.firstCells,loadCells,loadCellsFrom]
          · obtain ⟨_,_,_,_,_,rfl⟩:=hxv; simp [Builtin.firstCells,loadCells,loadCellsFrom]
          · obtain ⟨_,_,rfl⟩:=hxv; simp [Builtin.firstCells,loadCells,loadCellsFrom]
          · cases hxv; rfl
          · rename_i str
            cases hxv
            have:(str.extract 0 0).data=#[]:=ext0 str
            simp [Builtin.firstCells,this]
          · cases hn
        refine vs_quiet (u:=goInt 0) s ?_ rfl
        rw [hrun hu (hkk hu) hf,hm]
        cases base <;> simp [storeCells]
      · exact vs_none
    · rename_i m hm0
      split
      · rename_i l hs0 hf
        obtain ⟨cs,hfc,hcs⟩:=firstL_sound (P:=P) s hf hxv
        unfold copyTo
        split
        · rename_i a off k1 c1
          obtain ⟨b,q,K,hr,hle,hu⟩:=hdv
          split
          · rename_i c z hb
            refine vs_setCells s hb hr hcs rfl fun w' hw'=>?_
            rw [hrun hu (hkk hu) (hfc w rfl)]
            simp [hw']
          · exact vs_none
        · rename_i a off k1 d1
          obtain ⟨b,q,K,hr,hle,hu⟩:=hdv
          split
          · rename_i c z hb
            refine vs_setCells s hb hr hcs rfl fun w' hw'=>?_
            rw [hrun hu (hkk hu) (hfc w rfl)]
            simp [hw']
          · exact vs_none
        · exact vs_none
      · exact vs_none
  · exact vs_none
theorem bytesOf_cons {v:AV} {l:List AV} {b:List UInt8} (h:bytesOf (v :: l)=some b) : ∃ n r,v=.lit (.int .u8 n)∧bytesOf l=some r∧b=UInt8.ofNat n.toNat :: r:=by
  unfold bytesOf at h
  split at h
  · rename_i heq; cases heq
  · rename_i n l' heq
    cases heq
    split at h
    · rename_i r hr; cases h; exact ⟨n,r,rfl,hr,rfl⟩
    · cases h
  · cases h
theorem bytesOf_ints:∀ {l:List AV} {b:List UInt8} {us:List Value},bytesOf l=some b→VRs ρ l us →
    ∃ ns:List Int,us=ns.map (Value.int .u8)∧∀ r:ByteArray,ns.foldl (fun r n=>r.push (UInt8.ofNat n.toNat)) r=⟨r.data++b.toArray⟩
  | [],b,us,h,hv=>by cases h; cases hv; exact ⟨[],rfl,fun r=>by simp⟩
  | v :: l,b,us,h,⟨u,us',e,hv,hr⟩=>by
    subst e
    obtain ⟨n,r,rfl,hb,rfl⟩:=bytesOf_cons h
    cases hv
    obtain ⟨ns,rfl,hf⟩:=bytesOf_ints hb hr
    exact ⟨n :: ns,rfl,fun r=>by rw [List.foldl_cons,hf]; simp [ByteArray.push]⟩
end Go.Ai
end
section
namespace Go.Ai
open Go.RowKit (Below)
variable {B G:Nat} {ρ:Rn} {H:Mem} {w:World} {P:Program}
theorem strBytes_sound {src dst e:TypeId} {str:ByteArray} (s:Sim B G ρ H w) (hs:P.underlying src=some .string) (hd:P.underlying dst=some (.slice e)) (he:P.underlying e=some (.int .u8)) :
    VS B G P ρ H w (newSlq H (str.data.toList.map fun b=>.lit (.int .u8 b.toNat)) str.size 1) (Go.convert src dst (.string str)):=by
  unfold newSlq
  rw [Mem.newK_eq]
  intro v H' e0; cases e0
  have hrun:=run_bytes_of_string (P:=P) w src dst e str hs hd he
  have hcap:str.size≤grownCap w str.size 0 e:=by simp [grownCap,Question.cut]
  have hsz:str.data.size=str.size:=rfl
  have hcs:(bytesRow str (grownCap w str.size 0 e)).size=grownCap w str.size 0 e:=by simp [bytesRow,hsz]; omega
  refine ⟨upd ρ H.next (w.heap.size,0,grownCap w str.size 0 e),_,_,hrun,Ext.alloc ρ _ _ w _ _ rfl rfl rfl rfl s.base,?_,⟨_,_,_,upd_same _ _ _,by omega,by simp⟩,Nat.le_succ _⟩
  refine s.alloc _ _ (grownCap w str.size 0 e) _ rfl ⟨bytesRow str (grownCap w str.size 0 e),e,_,alloc_at w _ _ rfl,?_,fun _=>⟨s.base,by intro j hj h0; simp at h0; omega,by omega,.inr ?_⟩⟩
  · intro j v hj
    rw [List.getElem?_map] at hj
    cases hb:str.data.toList[j]? with
    | none=>rw [hb] at hj; cases hj
    | some b =>
      rw [hb] at hj
      cases hj
      have hlt:=(List.getElem?_eq_some_iff.1 hb).1
      have hlt' : j < str.data.size:=by simpa using hlt
      refine ⟨_,?_,rfl⟩
      rw [Nat.zero_add,bytesRow_at str _ j hlt']
      have:str.data[j]=b:=by have:=(List.getElem?_eq_some_iff.1 hb).2; simpa using this
      rw [this]
  · simp; omega
theorem bytesStr_sound {src dst e:TypeId} {x:AV} {u:Value} {n:Nat} {l:List AV} {b:List UInt8} (s:Sim B G ρ H w) (hx:VR ρ x u) (hs:P.underlying src=some (.slice e)) (hd:P.underlying dst=some .string)
    (he:P.underlying e=some (.int .u8)) (hn:lenOf x=some n) (hl:firstL H 1 n x=some l) (hb:bytesOf l=some b) (hst:∀ str,x≠.lit (.string str)) :
    (Go.convert src dst u).run P w=.ok (.string ⟨b.toArray⟩) w:=by
  obtain ⟨cs,hfc,hcs⟩:=firstL_sound (P:=P) s hl hx
  obtain ⟨ns,hns,hfold⟩:=bytesOf_ints hb hcs
  have hr:=hfc w rfl
  have key:∀ {a:Addr} {c:Nat},u=.slice (some a) n c→(Go.convert src dst u).run P w=.ok (.string ⟨b.toArray⟩) w:=by
    intro a c hu
    subst hu
    rw [run_convert_bytes_string w src dst e (some a) n c hs he hd,run_bytesToString w a n c ns ?_]
    · rw [hfold]; simp
    · simp only [Builtin.firstCells,Nat.mul_one] at hr
      rw [hr,← hns]
  unfold lenOf at hn
  split at hn
  · obtain ⟨_,_,_,_,_,hu⟩:=hx; cases hn; exact key hu
  · obtain ⟨_,_,_,_,_,hu⟩:=hx; cases hn; exact key hu
  · obtain ⟨_,_,hu⟩:=hx; cases hn; exact key hu
  · cases hx
    cases hn
    simp only [firstL] at hl
    cases hl
    cases hb
    rw [run_convert_bytes_string w src dst e none _ _ hs he hd]
    rfl
  · exact absurd rfl (hst _)
  · cases hn
theorem convert_sound {src dst:TypeId} {x:AV} {u:Value} (s:Sim B G ρ H w) (hx:VR ρ x u) : VS B G P ρ H w (convert P H src dst x) (Go.convert src dst u):=by
  unfold Go.Ai.convert
  split
  · rename_i e str hs hd
    cases hx
    split
    · rename_i he
      split
      · exact strBytes_sound s hs hd he
      · exact vs_none
    · exact vs_none
  · exact vs_none
  · rename_i y e hst hs hd
    split
    · rename_i he
      split
      · rename_i n hn
        split
        · rename_i l hl
          split
          · rename_i b hb
            exact vs_quiet s (bytesStr_sound s hx (by assumption) (by assumption) he hn hl hb (by intro str h0; subst h0; simp_all)) rfl
          · exact vs_none
        · exact vs_none
      · exact vs_none
    · exact vs_none
  · exact vs_none
section one
variable {ev:Ev} {e:Operand→Value} {o:Oper} (s:Sim B G ρ H w) (he:EvR ρ ev e)
include s he
theorem s_convert {src dst:TypeId} {x:Operand} (h:o.op=.convert src dst x) : RS B G P ρ H w (oConvert P H ev o src dst (ev x)) (execOp e o):=by
  unfold oConvert
  split
  · rename_i r hr
    obtain ⟨u,h1,h2⟩:=generic_sound (P:=P) (w:=w) (by simp [h]) he hr
    exact RS.quiet s h1 h2
  · split
    · rename_i v hv
      have key:=convert_sound (P:=P) (src:=src) (dst:=dst) s (he _ _ hv)
      split
      · rename_i r H' hr
        obtain ⟨ρ',u,w',h1,h2,h3,h4,h5⟩:=key r H' hr
        exact ⟨ρ',u,w',by simp [execOp,h,h1],h2,h3,h4,h5⟩
      · trivial
    · trivial
end one
end Go.Ai
end
section
namespace Go.Ai
open Go.RowKit (Below)
variable {B G:Nat} {ρ:Rn} {H:Mem} {w:World} {P:Program}
theorem pureV_bind {α β:Type} (m:Sem α) (f:α→Sem β) : pureV P (m.bind f)=match pureV P m with | some a=>pureV P (f a) | none=>none:=by
  induction m with
  | pure a=>simp [Sem.bind,pureV]
  | program k ih=>simp only [Sem.bind,pureV]; exact ih P
  | mark m k ih=>simp only [Sem.bind,pureV]; exact ih
  | choose q k ih=>simp only [Sem.bind,pureV]; split <;> first | exact ih 0 | rfl
  | _=>simp [Sem.bind,pureV]
theorem findNow_rel (kind:TypeDesc) (k:Value) : ∀ (l1 l2:List MapEntry) (i:Nat),l1.map (·.key)=l2.map (·.key) →
    match Instr.findNow kind k l1 i with
    | none=>Instr.findNow kind k l2 i=none
    | some none=>Instr.findNow kind k l2 i=some none
    | some (some (j,_))=>∃ e,l2[j - i]?=some e∧i≤j∧Instr.findNow kind k l2 i=some (some (j,e.val))
  | [],[],i,_=>rfl
  | [],_ :: _,_,h=>by simp at h
  | _ :: _,[],_,h=>by simp at h
  | a :: l1,b :: l2,i,h=>by
    simp only [List.map_cons,List.cons.injEq] at h
    obtain ⟨hk,hl⟩:=h
    simp only [Instr.findNow,hk]
    cases hs:Instr.sameNow kind k b.key with
    | none=>rfl
    | some t=>cases t with
      | true=>exact ⟨b,by simp,Nat.le_refl _,rfl⟩
      | false =>
        have:=findNow_rel kind k l1 l2 (i+1) hl
        dsimp only
        revert this
        cases Instr.findNow kind k l1 (i+1) with
        | none=>exact id
        | some r=>cases r with
          | none=>exact id
          | some y =>
            obtain ⟨j,v⟩:=y
            rintro ⟨e,he,hle,hr⟩
            exact ⟨e,by rw [show j - i=(j - (i+1))+1 by omega]; simpa using he,by omega,hr⟩
theorem findAsking_rel (kt:TypeId) (k:Value) : ∀ (l1 l2:List MapEntry) (i:Nat) (r:Option (Nat×Value)),l1.map (·.key)=l2.map (·.key)→pureV P (Instr.findAsking kt k l1 i)=some r→∀ w:World,
    match r with
    | none=>(Instr.findAsking kt k l2 i).run P w=.ok none w
    | some (j,_)=>∃ e,l2[j - i]?=some e∧i≤j∧(Instr.findAsking kt k l2 i).run P w=.ok (some (j,e.val)) w
  | [],[],i,r,_,hp,w=>by simp only [Instr.findAsking] at hp; cases hp; rfl
  | [],_ :: _,_,_,h,_,_=>by simp at h
  | _ :: _,[],_,_,h,_,_=>by simp at h
  | a :: l1,b :: l2,i,r,h,hp,w=>by
    simp only [List.map_cons,List.cons.injEq] at h
    obtain ⟨hk,hl⟩:=h
    simp only [Instr.findAsking,hk] at hp ⊢
    have hp':=hp
    change pureV P (Sem.bind _ _)=_ at hp'
    rw [pureV_bind] at hp'
    cases hq:pureV P (Op.equal kt k b.key) with
    | none=>rw [hq] at hp'; cases hp'
    | some t =>
      rw [hq] at hp'
      have hrun:=pureV_run hq w
      cases t with
      | true =>
        simp only [if_true] at hp'
        cases hp'
        exact ⟨b,by simp,Nat.le_refl _,by simp [hrun]⟩
      | false =>
        simp only [Bool.false_eq_true,if_false] at hp'
        have:=findAsking_rel kt k l1 l2 (i+1) r hl hp' w
        cases r with
        | none=>simpa [hrun] using this
        | some y =>
          obtain ⟨j,v⟩:=y
          obtain ⟨e,he,hle,hr⟩:=this
          exact ⟨e,by rw [show j - i=(j - (i+1))+1 by omega]; simpa using he,by omega,by simp [hrun,hr]⟩
theorem findKey_rel {kt:TypeId} {k:Value} {l1 l2:List MapEntry} {r:Option (Nat×Value)} (h:l1.map (·.key)=l2.map (·.key)) (hp:pureV P (Instr.findKey kt k l1)=some r) (w:World) :
    match r with
    | none=>(Instr.findKey kt k l2).run P w=.ok none w
    | some (j,_)=>∃ e,l2[j]?=some e∧(Instr.findKey kt k l2).run P w=.ok (some (j,e.val)) w:=by
  unfold Instr.findKey at hp ⊢
  have hp':=hp
  change pureV P (Sem.bind _ _)=_ at hp'
  rw [pureV_bind] at hp'
  cases hq:pureV P (underlying kt) with
  | none=>rw [hq] at hp'; cases hp'
  | some d =>
    rw [hq] at hp'
    have hrun:=pureV_run hq w
    have hn:=findNow_rel d k l1 l2 0 h
    dsimp only at hp'
    cases hf:Instr.findNow d k l1 0 with
    | some x =>
      rw [hf] at hp' hn
      cases x with
      | none =>
        cases hp'
        dsimp only at hn
        simp [hrun,hn]
      | some y =>
        obtain ⟨j,v⟩:=y
        cases hp'
        obtain ⟨e,he,_,hr⟩:=hn
        exact ⟨e,by simpa using he,by simp [hrun,hr]⟩
    | none =>
      rw [hf] at hp' hn
      dsimp only at hn hp'
      have:=findAsking_rel kt k l1 l2 0 r h hp' w
      cases r with
      | none=>simpa [hrun,hn] using this
      | some y =>
        obtain ⟨j,v⟩:=y
        obtain ⟨e,he,_,hr⟩:=this
        exact ⟨e,by simpa using he,by simp [hrun,hn,hr]⟩
theorem ER.keys:∀ {es:List (AV×AV×Nat)} {l:List MapEntry} {ks:List Value},ER ρ es l→litAll (es.map (·.1))=some ks→l.map (·.key)=ks
  | [],_,_,h,hk=>by cases h; cases hk; rfl
  | (k,v,b) :: es,_,ks,⟨e,l',he,h1,h2,h3,h4⟩,hk=>by
    subst he
    simp only [List.map_cons] at hk
    cases k with
    | lit x =>
      simp only [litAll] at hk
      split at hk
      · rename_i ws hw; cases hk; cases h1; simp [ER.keys h4 hw]
      · cases hk
    | _=>simp [litAll] at hk
theorem ER.get:∀ {es:List (AV×AV×Nat)} {l:List MapEntry} {i:Nat} {k v:AV} {b:Nat} {e:MapEntry},ER ρ es l→es[i]?=some (k,v,b)→l[i]?=some e→VR ρ k e.key∧VR ρ v e.val
  | [],_,i,_,_,_,_,_,h,_=>by simp at h
  | (k,v,b) :: es,_,0,_,_,_,_,⟨e,l',he,h1,h2,h3,h4⟩,h,h'=>by subst he; simp at h h'; obtain ⟨rfl,rfl,rfl⟩:=h; subst h'; exact ⟨h1,h2⟩
  | (k,v,b) :: es,_,i+1,_,_,_,_,⟨e,l',he,h1,h2,h3,h4⟩,h,h'=>by subst he; simp at h h'; exact ER.get h4 h h'
theorem ER.length:∀ {es:List (AV×AV×Nat)} {l:List MapEntry},ER ρ es l→l.length=es.length
  | [],_,h=>by cases h; rfl
  | _ :: _,_,⟨e,l',he,_,_,_,h4⟩=>by subst he; simp [ER.length h4]
theorem ER.snoc:∀ {es:List (AV×AV×Nat)} {l:List MapEntry} {k v:AV} {b:Nat} {e:MapEntry},ER ρ es l→VR ρ k e.key→VR ρ v e.val→e.born=b→ER ρ (es++[(k,v,b)]) (l++[e])
  | [],_,_,_,_,e,h,h1,h2,h3=>by cases h; exact ⟨e,[],rfl,h1,h2,h3,rfl⟩
  | _ :: _,_,_,_,_,_,⟨e,l',he,a,b,c,d⟩,h1,h2,h3=>by subst he; exact ⟨e,_,rfl,a,b,c,ER.snoc d h1 h2 h3⟩
theorem ER.set {k v:AV} {ku vu:Value} (h1:VR ρ k ku) (h2:VR ρ v vu) : ∀ {es:List (AV×AV×Nat)} {l:List MapEntry} (i:Nat),ER ρ es l→ER ρ (setNth (k,v) es i) (l.modify i fun e=>{ e with key:=ku,val:=vu })
  | [],_,i,h=>by cases h; simp [setNth]; rfl
  | (_,_,b) :: _,_,0,⟨e,l',he,_,_,c,d⟩=>by subst he; exact ⟨{ e with key:=ku,val:=vu },l',by simp,h1,h2,c,d⟩
  | _ :: _,_,i+1,⟨e,l',he,a,b,c,d⟩=>by subst he; exact ⟨e,l'.modify i fun e=>{ e with key:=ku,val:=vu },by simp,a,b,c,ER.set h1 h2 i d⟩
theorem findK_sound {kt:TypeId} {k:Value} {es:List (AV×AV×Nat)} {l:List MapEntry} {r:Option Nat} (h:findK P kt k es=some r) (he:ER ρ es l) (w:World) :
    match r with
    | none=>(Instr.findKey kt k l).run P w=.ok none w
    | some j=>∃ e,l[j]?=some e∧(Instr.findKey kt k l).run P w=.ok (some (j,e.val)) w:=by
  unfold findK at h
  split at h
  · rename_i ks hks
    have hkeys:=he.keys hks
    have hmap:(ks.map fun q=>({ key:=q,val:=undef,born:=0 } : MapEntry)).map (·.key)=l.map (·.key):=by
      rw [hkeys,List.map_map]; exact List.map_id' ks
    split at h
    · rename_i i v hp; cases h; exact findKey_rel hmap hp w
    · rename_i hp; cases h; exact findKey_rel hmap hp w
    · cases h
  · cases h
section one
variable {ev:Ev} {e:Operand→Value} {o:Oper} (s:Sim B G ρ H w) (he:EvR ρ ev e)
include s he
theorem s_lookup {t:TypeId} {m k:Operand} {ok:Bool} (h:o.op=.lookup t m k ok) : RS B G P ρ H w (oLookup P H ev o t (ev m) (ev k) ok) (execOp e o):=by
  unfold oLookup
  split
  · rename_i m' k' hm hk
    refine RS.ofOpt s fun r hr=>?_
    unfold orElse at hr
    split at hr
    · rename_i v hv; cases hr; exact generic_sound (by simp [h]) he hv
    · unfold lookup at hr
      split at hr
      · rename_i key elem a kv hd hkv
        obtain ⟨b,q,K,hrr,hmu⟩:=he _ _ hm
        have hku:=toLit_VR hkv (he _ _ hk)
        split at hr
        · rename_i es clock hx
          obtain ⟨es',hb,her,hB⟩:=s.at hx hrr
          split at hr
          · rename_i x i hck hfk
            have hlen:=her.length
            have hemp:es'.isEmpty=es.isEmpty:=by
              have:es'.size=es.length:=by simpa using hlen
              cases es with
              | nil=>simp at this; simp [this]
              | cons a l =>
                have h1:es'.size≠0:=by rw [this]; simp
                have h2:es'.isEmpty=false:=by rw [Bool.eq_false_iff]; intro h3; exact h1 (by simpa [Array.isEmpty] using h3)
                rw [h2]; rfl
            have hck':=pureV_run hck w
            have hf:=findK_sound hfk her w
            have hget:(getObj b).run P w=.ok (.map es' clock) w:=by simp [getObj,Sem.run,hb]
            unfold lookupIn at hr
            cases i with
            | some j =>
              dsimp only at hr
              obtain ⟨en,hen,hrun⟩:=hf
              rw [nth_eq] at hr
              split at hr
              · rename_i k0 v0 b0 hes
                cases hr
                have hvr:=(her.get hes hen).2
                cases ok
                · exact ⟨en.val,by simp [execOp,h,Instr.lookup,run_und hd,hmu,hku,hget,hemp,hck',hrun],hvr⟩
                · exact ⟨.tuple #[en.val,.bool true],by simp [execOp,h,Instr.lookup,run_und hd,hmu,hku,hget,hemp,hck',hrun],⟨_,rfl,_,_,rfl,hvr,_,_,rfl,rfl,rfl⟩⟩
              · cases hr
            | none =>
              dsimp only at hr hf
              split at hr
              · rename_i z hz
                cases hr
                unfold zeroV at hz
                split at hz
                · rename_i info hinfo
                  cases ok
                  · exact ⟨z,by simp [execOp,h,Instr.lookup,run_und hd,hmu,hku,hget,hemp,hck',hf,run_zero hinfo hz],rfl⟩
                  · exact ⟨.tuple #[z,.bool false],by simp [execOp,h,Instr.lookup,run_und hd,hmu,hku,hget,hemp,hck',hf,run_zero hinfo hz],⟨_,rfl,_,_,rfl,rfl,_,_,rfl,rfl,rfl⟩⟩
                · cases hz
              · cases hr
          · cases hr
        · cases hr
      · cases hr
  · trivial
theorem s_mapUpdate {t:TypeId} {m k x:Operand} (h:o.op=.mapUpdate t m k x∨o.op=.insert t m k x) : RS B G P ρ H w (oMapUpdate P H t (ev m) (ev k) (ev x)) (execOp e o):=by
  have hexec:execOp e o=(do Instr.mapUpdate t (e m) (e k) (e x); pure .skip):=by rcases h with h | h <;> simp [execOp,h]
  rw [hexec]
  unfold oMapUpdate
  split
  · rename_i m' k' x' hm hk hx
    split
    · rename_i H' hu
      unfold mapUpdate at hu
      split at hu
      · rename_i key elem a kv hd hkv
        obtain ⟨b,q,K,hrr,hmu⟩:=he _ _ hm
        have hku:=toLit_VR hkv (he _ _ hk)
        split at hu
        · rename_i es clock hmx
          obtain ⟨es',hb,her,hB⟩:=s.at hmx hrr
          split at hu
          · rename_i y i hck hfk
            have hck':=pureV_run hck w
            have hf:=findK_sound hfk her w
            have hget:(getObj b).run P w=.ok (.map es' clock) w:=by simp [getObj,Sem.run,hb]
            have hblt:b < w.heap.size:=(Array.getElem?_eq_some_iff.1 hb).1
            have fin:∀ (es1:List (AV×AV×Nat)) (es2:Array MapEntry) (c2:Nat),ER ρ es1 es2.toList →
                (Instr.mapUpdate t (e m) (e k) (e x)).run P w=.ok () { w with heap:=w.heap.setIfInBounds b (.map es2 c2) } →
                RS B G P ρ H w (.skip (H.upd a (.map es1 c2))) (do Instr.mapUpdate t (e m) (e k) (e x); pure .skip):=by
              intro es1 es2 c2 hE hrun
              refine ⟨ρ,{ w with heap:=w.heap.setIfInBounds b (.map es2 c2) },by simp [hrun],⟨fun _ _=>rfl,rfl,rfl,rfl,by simp,fun j hj=>by simp [Array.getElem?_setIfInBounds,show b≠j by omega]⟩,?_,Nat.le_refl _⟩
              exact s.set hmx hrr rfl rfl (by simp) (fun j hj _=>by simp [Array.getElem?_setIfInBounds,Ne.symm hj]) ⟨es2,by simp [hblt],hE,hB⟩
            split at hu
            · rename_i blk hblk
              rw [Mem.setK_eq] at hu
              cases hu
              unfold updIn at hblk
              cases i with
              | some j =>
                dsimp only at hblk
                obtain ⟨en,hen,hrun⟩:=hf
                rw [nth_eq] at hblk
                split at hblk
                · rename_i old v0 b0 hes
                  split at hblk
                  · rename_i hsb
                    cases hblk
                    have hold:=(her.get hes hen).1
                    simp only [VR] at hold
                    refine fin _ (es'.modify j fun en=>{ en with key:=kv,val:=e x }) _ ?_ ?_
                    · have:=ER.set (ρ:=ρ) (k:=.lit kv) (v:=x') (ku:=kv) (vu:=e x) rfl (he _ _ hx) j her
                      simpa [Array.toList_modify] using this
                    · have hen' : es'[j]?=some en:=by simpa using hen
                      simp [Instr.mapUpdate,run_und hd,hmu,hku,hget,hck',hrun,hen',hold,Instr.keyThatStays,hsb,setObj,Sem.run,hb]
                  · cases hblk
                · cases hblk
              | none =>
                dsimp only at hblk hf
                cases hblk
                refine fin _ (es'.push { key:=kv,val:=e x,born:=clock }) _ ?_ ?_
                · have:=ER.snoc (k:=.lit kv) (v:=x') (b:=clock) (e:={ key:=kv,val:=e x,born:=clock }) her rfl (he _ _ hx) rfl
                  simpa using this
                · simp [Instr.mapUpdate,run_und hd,hmu,hku,hget,hck',hf,setObj,Sem.run,hb]
            · cases hu
          · cases hu
        · cases hu
      · cases hu
    · trivial
  · trivial
end one
end Go.Ai
end
section
namespace Go.Ai
open Go.RowKit (Below)
variable {B G:Nat} {ρ:Rn} {H:Mem} {w:World} {P:Program}
theorem hasBody_run {f:FuncId} (h:hasBody P f=true) (args:Array Value) (w:World) : (callFunc f args).run P w=.ok (.enter f args) w:=by
  unfold hasBody at h
  split at h
  · rename_i fn hfn
    simp only [Bool.and_eq_true,Bool.not_eq_true'] at h
    obtain ⟨h1,h2⟩:=h
    have h4:¬(fn.name = "runtime.NumGoroutine"):=by simpa using h2
    simp [callFunc,hfn,h4]
    intro h5
    rw [h5] at h1; cases h1
  · cases h
section one
variable {ev:Ev} {e:Operand→Value} {o:Oper} (s:Sim B G ρ H w) (he:EvR ρ ev e)
include s
omit s in
theorem s_enterF {f:FuncId} {args:List AV} {us:Array Value} {m:Sem Next} (hm:m.run P w=(callFunc f us).run P w) (hv:VRs ρ args us.toList) : RS B G P ρ H w (enterF P H f args) m:=by
  unfold enterF
  split
  · rename_i h; exact ⟨us,by rw [hm,hasBody_run h],hv,rfl⟩
  · trivial
omit s in
theorem isPtr_true {d:Option TypeDesc} (h:isPtr d=some true) : ∃ e,d=some (.pointer e):=by
  unfold isPtr at h; split at h
  · exact ⟨_,rfl⟩
  · cases h
  · cases h
omit s in
theorem isPtr_false {d:Option TypeDesc} (h:isPtr d=some false) : ∃ t,d=some t∧∀ e,t≠.pointer e:=by
  unfold isPtr at h; split at h
  · cases h
  · rename_i t hn; exact ⟨t,rfl,fun e h0=>hn e (by rw [h0])⟩
  · cases h
omit s in
theorem methodOf_run {t:TypeId} {name:String} {f:FuncId} {u:Value} (h:methodOf P t name=some f) (n:Nat) (w:World) : (method (n+1) t u name).run P w=.ok (f,u) w:=by
  unfold methodOf at h
  split at h
  · rename_i i hi
    split at h
    · rename_i m hm
      have base:∀ (pr:Bool),m.path.isEmpty=true→m.func=some (f,pr)→(receiverAt t (.val u) pr (some ((name.splitOn ".").getLastD name))).run P w=.ok u w→(method (n+1) t u name).run P w=.ok (f,u) w:=by
        intro pr hp hf hr
        have hp' : m.path.toList=[]:=by simpa [Array.isEmpty] using hp
        simp only [method,Sem.run_bind,run_info hi,Result.andThen_ok,hm,hp',follow,Sem.run_pure,hf,hp,if_true,hr]
      unfold methodAt at h
      split at h
      · rename_i f' pr h1 h2
        split at h
        · rename_i h3
          cases h
          obtain ⟨el,hd⟩:=isPtr_true h3
          exact base true h1 h2 (by simp [receiverAt,run_und hd,Place.get])
        · rename_i h3
          cases h
          obtain ⟨d,hd,hnp⟩:=isPtr_false h3
          refine base false h1 h2 ?_
          cases d <;> first | exact absurd rfl (hnp _) | simp [receiverAt,run_und hd,Place.get]
        · cases h
      · cases h
    · cases h
  · cases h
omit s in
theorem extract_tail (a:Value) (b:Array Value) : (#[a]++b).extract 1 (#[a]++b).size=b:=by
  apply Array.ext
  · simp
  · intro i h1 h2
    simp
include he
theorem s_call {c:Call} (h:o.op=.call c) : RS B G P ρ H w (callOp P H ev o c) (execOp e o):=by
  unfold callOp
  split
  · trivial
  · rename_i args hargs
    have hva:VRs ρ args (c.args.map e).toList:=by simpa using evals_VRs he hargs
    split
    · rename_i b hc
      unfold oBuiltin
      have two:∀ {x y:AV},args=[x,y]→∃ u u',(c.args.map e)[0]?=some u∧(c.args.map e)[1]?=some u'∧VR ρ x u∧VR ρ y u':=by
        intro x y ha
        subst ha
        obtain ⟨u,u',hl,h1,h2⟩:=hva.two
        exact ⟨u,u',by rw [← Array.getElem?_toList,hl]; rfl,by rw [← Array.getElem?_toList,hl]; rfl,h1,h2⟩
      split
      · unfold oAppend
        split
        · rename_i x y st hst
          obtain ⟨u,u',h0,h1,hx,hy⟩:=two rfl
          have key:=append_sound (P:=P) (ty:=o.type) s hst h0 h1 hx hy
          split
          · rename_i v H' hr
            obtain ⟨ρ',r,w',g1,g2,g3,g4,g5⟩:=key v H' hr
            exact ⟨ρ',r,w',by rw [exec_builtin h hc]; simp [builtin,g1],g2,g3,g4,g5⟩
          · trivial
        · trivial
      · unfold oCopy
        split
        · rename_i x y st hst
          obtain ⟨u,u',h0,h1,hx,hy⟩:=two rfl
          have key:=copy_sound (P:=P) (ty:=o.type) s hst h0 h1 hx hy
          split
          · rename_i v H' hr
            obtain ⟨ρ',r,w',g1,g2,g3,g4,g5⟩:=key v H' hr
            exact ⟨ρ',r,w',by rw [exec_builtin h hc]; simp [builtin,g1],g2,g3,g4,g5⟩
          · trivial
        · trivial
      · exact s_len s he h hc hva
      · exact s_cap s he h hc hva
      · show (execOp e o).run P w=.ok .recover w
        rw [exec_builtin h hc]; rfl
      · exact s_gen s he (call_gen_ok h)
    · rename_i recv name hc
      unfold oInvoke
      split
      · rename_i r hr
        split
        · rename_i t v hi
          have hv:∃ u,e recv=.iface t u∧VR ρ v u:=by
            unfold ifaceOf at hi
            split at hi
            · cases hi; exact he _ _ hr
            · cases hi; have:=he _ _ hr; simp only [VR] at this; exact ⟨_,this,rfl⟩
            · cases hi
          obtain ⟨u,hu,hvu⟩:=hv
          split
          · rename_i f hm
            refine s_enterF (us:=#[u]++c.args.map e) ?_ (by simpa using VRs.cons hvu hva)
            have hd:Made.depth=99+1:=rfl
            simp only [execOp,h,resolve,hc,hu,Sem.run_bind,Sem.run_pure,Result.andThen_ok,invoke,callMethod]
            have h0:(#[Value.iface t u]++c.args.map e)[0]?=some (Value.iface t u):=by rw [Array.getElem?_append_left (by simp)]; rfl
            rw [h0]
            simp only [extract_tail,Sem.run_bind,run_program,Result.andThen_ok,hd,← Nat.add_assoc,methodOf_run hm (P.types.size+99) w]
          · trivial
        · trivial
      · trivial
    · rename_i f hc
      unfold oValue
      split
      · rename_i g first cap hf
        have:=he _ _ hf
        simp only [VR] at this
        refine s_enterF (us:=first++c.args.map e++cap) ?_ ?_
        · simp [execOp,h,resolve,hc,this,Deferred.ofValue,invoke]
        · have h1:=(VRs.lits (ρ:=ρ) first.toList).append hva
          simpa using h1.append (VRs.lits (ρ:=ρ) cap.toList)
      · rename_i g first cap hf
        obtain ⟨f',c',hu,h1,h2⟩:=he _ _ hf
        refine s_enterF (us:=f'++c.args.map e++c') ?_ ?_
        · simp [execOp,h,resolve,hc,hu,Deferred.ofValue,invoke]
        · simpa using (h1.append hva).append h2
      · trivial
omit s in
theorem s_defer {c:Call} (h:o.op=.defer c) : RS B G P ρ H w (deferOp H ev c) (execOp e o):=by
  unfold deferOp
  split
  · rename_i args f hargs hc
    have hva:VRs ρ args (c.args.map e).toList:=by simpa using evals_VRs he hargs
    split
    · rename_i fn first cap hf
      obtain ⟨f',c',hu,h1,h2⟩:=he _ _ hf
      exact ⟨c',f'++c.args.map e,by simp [execOp,h,resolve,hc,hu,Deferred.ofValue],h2,by simpa using h1.append hva,rfl⟩
    · rename_i fn first cap hf
      have:=he _ _ hf
      simp only [VR] at this
      exact ⟨cap,first++c.args.map e,by simp [execOp,h,resolve,hc,this,Deferred.ofValue],VRs.lits _,by simpa using (VRs.lits (ρ:=ρ) first.toList).append hva,rfl⟩
    · trivial
  · trivial
theorem opV_sound (hG:G=P.globals.size) : RS B G P ρ H w (opV P H ev o) (execOp e o):=by
  unfold opV
  cases hop:o.op with
  | move x=>exact s_move s he (by simp [execOp,hop])
  | assign x=>exact s_move s he (by simp [execOp,hop])
  | pick c a b=>exact s_pick s he hop
  | alloc t=>exact s_alloc s hop
  | box t x=>exact s_box s he hop
  | build t ps=>exact s_build s he hop
  | buildSlice t n ps=>exact s_buildSlice s he hop
  | insert t m k x=>exact s_mapUpdate s he (.inr hop)
  | load t a=>exact s_load s hG he hop
  | store t a x=>exact s_store s he hop
  | ready g=>trivial
  | waits g=>trivial
  | nilCheck x=>exact s_nilCheck s he hop
  | binOp op t x y ty=>exact s_bin s he hop
  | unOp op t x=>exact s_gen s he (by simp [hop])
  | convert a b x=>exact s_convert s he hop
  | sliceToArrayPointer t x=>trivial
  | makeInterface t x=>exact s_makeInterface s he hop
  | makeFunc fn a b=>exact s_makeFunc s he hop
  | makeMap t r=>exact s_makeMap s he hop
  | makeChan t x=>trivial
  | makeSlice t l c=>exact s_makeSlice s he hop
  | slice t x lo hi mx=>exact s_slice s he hop
  | fieldAddr t x f=>exact s_fieldAddr s he hop
  | field t x f=>exact s_field s he hop
  | indexAddr t x i=>exact s_indexAddr s he hop
  | index t x i=>exact s_index s he hop
  | lookup t m k ok=>exact s_lookup s he hop
  | mapUpdate t m k x=>exact s_mapUpdate s he (.inl hop)
  | mapEntry t m k=>trivial
  | entryStore t m a x=>trivial
  | range t x=>exact s_range s he hop
  | next it b=>cases b with
    | true=>exact s_next s he hop
    | false=>trivial
  | entry it=>trivial
  | typeAssert x t a ok=>exact s_typeAssert s he hop
  | extract x i=>exact s_extract s he hop
  | call c=>exact s_call s he hop
  | go c=>trivial
  | defer c=>exact s_defer he hop
  | panic x=>exact s_panic he hop
  | send a b=>trivial
  | recv t x b=>trivial
  | select a b=>trivial
end one
end Go.Ai
end
section
namespace Go.Ai
variable {P:Program} {ev:Ev} {o:Oper}
def Free (f:Mem→R) : Prop:=∀ H v H',f H=.val v H'→H'=H∧∀ H2,f H2=.val v H2
theorem free_ofOpt (r:Option AV) : Free (fun H=>ofOpt H r):=by
  intro H v H' h
  cases r with
  | none=>cases h
  | some x=>cases h; exact ⟨rfl,fun _=>rfl⟩
theorem free_bad:Free (fun _=>R.bad):=fun _ _ _ h=>by cases h
theorem free_val (v:AV) : Free (fun H=>R.val v H):=fun _ _ _ h=>by cases h; exact ⟨rfl,fun _=>rfl⟩
theorem freeOp_sound (h:freeOp o.op=true) : Free (fun H=>opV P H ev o):=by
  unfold opV
  cases hop:o.op with
  | move x=>show Free (fun H=>oMove H (ev x)); unfold oMove; cases ev x <;> first | exact free_bad | exact free_val _
  | assign x=>show Free (fun H=>oMove H (ev x)); unfold oMove; cases ev x <;> first | exact free_bad | exact free_val _
  | pick c a b =>
    show Free (fun H=>oPick H (ev c) (ev a) (ev b))
    unfold oPick
    split <;> first | exact free_ofOpt _ | exact free_bad
  | build t ps =>
    show Free (fun H=>oBuild P H t (evalParts ev ps.toList))
    unfold oBuild
    split <;> first | exact free_ofOpt _ | exact free_bad
  | nilCheck x =>
    show Free (fun H=>oNilCheck P H ev o (ev x))
    unfold oNilCheck
    split <;> first | exact free_val _ | exact free_ofOpt _
  | binOp op t x y ty =>
    show Free (fun H=>oBin P H ev o op t (ev x) (ev y))
    unfold oBin
    split
    · exact free_val _
    · split
      · exact free_val _
      · unfold oNilEq
        split
        · split <;> first | exact free_val _ | exact free_bad
        · exact free_bad
  | unOp op t x=>exact free_ofOpt _
  | makeInterface t x =>
    show Free (fun H=>oMakeInterface P H t (ev x))
    unfold oMakeInterface
    split <;> first | exact free_val _ | exact free_bad
  | makeFunc fn a b =>
    show Free (fun H=>oMakeFunc H fn (evals ev a.toList) (evals ev b.toList))
    unfold oMakeFunc
    split <;> first | exact free_val _ | exact free_bad
  | slice t x lo hi mx =>
    show Free (fun H=>oSlice P H ev o t (ev x) lo hi mx)
    unfold oSlice
    split
    · exact free_val _
    · unfold oSliceN
      split
      · split <;> first | exact free_ofOpt _ | exact free_bad
      · exact free_bad
  | fieldAddr t x f =>
    show Free (fun H=>oFieldAddr P H ev o t (ev x) f)
    unfold oFieldAddr orGen
    split
    · split <;> first | exact free_val _ | exact free_ofOpt _
    · exact free_bad
  | field t x f =>
    show Free (fun H=>oField P H t (ev x) f)
    unfold oField
    split <;> first | exact free_ofOpt _ | exact free_bad
  | indexAddr t x i =>
    show Free (fun H=>oIndexAddr P H ev o t (ev x) (ev i))
    unfold oIndexAddr orGen
    split
    · split <;> first | exact free_val _ | exact free_ofOpt _
    · exact free_bad
  | index t x i =>
    show Free (fun H=>oIndex P H ev o t (ev x) (ev i))
    unfold oIndex
    split
    · split <;> first | exact free_val _ | exact free_ofOpt _
    · exact free_bad
  | typeAssert x t a ok =>
    show Free (fun H=>oTypeAssert P H ev o (ev x) a ok)
    unfold oTypeAssert
    split
    · exact free_val _
    · split <;> first | exact free_ofOpt _ | exact free_bad
  | extract x i =>
    show Free (fun H=>oExtract H (ev x) i)
    unfold oExtract
    split
    · exact free_ofOpt _
    · split <;> first | exact free_val _ | exact free_bad
    · exact free_bad
  | _=>rw [hop] at h; cases h
theorem eqV_sound:∀ (n:Nat) (a b:Value),eqV n a b=true→a=b:=by
  intro n
  induction n with
  | zero =>
    intro a b h
    unfold eqV at h
    split at h <;> simp_all
  | succ n ih =>
    intro a b h
    unfold eqV at h
    split at h <;> simp_all
    exact ih _ _ h.2
end Go.Ai
end
section
namespace Go.Ai
theorem bits_fold (acc:List Nat) (j:Nat) : ∀ (l:List Edge) (s:Nat),
    (l.foldl (fun s e=>match Region.binds .any e with | true=>s ||| 2 ^ e.on ||| acc.getD e.on 0 | false=>s) s).testBit j=true →
    s.testBit j=true∨∃ e∈l,Region.binds .any e=true∧(e.on=j∨(acc.getD e.on 0).testBit j=true)
  | [],s,h=>.inl h
  | e :: l,s,h=>by
    simp only [List.foldl_cons] at h
    rcases bits_fold acc j l _ h with h1 | ⟨e',he',h2⟩
    · cases hb:Region.binds .any e with
      | false=>rw [hb] at h1; exact .inl h1
      | true =>
        rw [hb] at h1
        simp only [Nat.testBit_or,Bool.or_eq_true] at h1
        rcases h1 with (h1 | h1) | h1
        · exact .inl h1
        · right; exact ⟨e,by simp,hb,.inl (by rw [Nat.testBit_two_pow] at h1; simpa using h1)⟩
        · right; exact ⟨e,by simp,hb,.inr h1⟩
    · exact .inr ⟨e',by simp [he'],h2⟩
theorem ancs_spec:∀ (l:List Oper) (acc:List Nat) (i j:Nat),isAnc (ancs acc l) i j=true →
    (i < acc.length∧isAnc acc i j=true)∨∃ o e,acc.length≤i∧l[i - acc.length]?=some o∧e∈o.after.toList∧Region.binds .any e=true∧(e.on=j∨(e.on < i∧isAnc (ancs acc l) e.on j=true))
  | [],acc,i,j,h=>by
    have h' : isAnc acc i j=true:=h
    refine .inl ⟨?_,h'⟩
    rcases Nat.lt_or_ge i acc.length with h1 | h1
    · exact h1
    · unfold isAnc at h'
      rw [List.getD_eq_getElem?_getD,List.getElem?_eq_none h1] at h'
      simp at h'
  | o :: l,acc,i,j,h=>by
    have pre:∀ (l:List Oper) (acc:List Nat) (k:Nat),k < acc.length→(ancs acc l).getD k 0=acc.getD k 0:=by
      intro l
      induction l with
      | nil=>intro acc k _; rfl
      | cons o l ih =>
        intro acc k hk
        rw [ancs,ih _ _ (by simp; omega)]
        simp only [List.getD_eq_getElem?_getD]
        rw [List.getElem?_append_left hk]
    rcases ancs_spec l (acc++[bitsOf acc o]) i j h with ⟨h1,h2⟩ | ⟨o',e,h1,h2,h3⟩
    · simp only [List.length_append,List.length_singleton] at h1
      rcases Nat.lt_or_ge i acc.length with h4 | h4
      · left
        refine ⟨h4,?_⟩
        unfold isAnc at h2 ⊢
        simp only [List.getD_eq_getElem?_getD] at h2 ⊢
        rw [List.getElem?_append_left h4] at h2; exact h2
      · right
        have hi:i=acc.length:=by omega
        subst hi
        unfold isAnc at h2
        simp only [List.getD_eq_getElem?_getD] at h2
        rw [List.getElem?_append_right (Nat.le_refl _)] at h2
        simp only [Nat.sub_self,List.getElem?_cons_zero,Option.getD_some] at h2
        unfold bitsOf at h2
        rcases bits_fold acc j _ 0 h2 with h5 | ⟨e,he,hb,hor⟩
        · simp at h5
        · refine ⟨o,e,Nat.le_refl _,by simp,he,hb,?_⟩
          rcases hor with h6 | h6
          · exact .inl h6
          · right
            have hlt:e.on < acc.length:=by
              rcases Nat.lt_or_ge e.on acc.length with h7 | h7
              · exact h7
              · rw [List.getD_eq_getElem?_getD,List.getElem?_eq_none h7] at h6; simp at h6
            refine ⟨hlt,?_⟩
            unfold isAnc
            rw [ancs,pre _ _ _ (by simp; omega)]
            simp only [List.getD_eq_getElem?_getD] at h6 ⊢
            rw [List.getElem?_append_left hlt]; exact h6
    · right
      simp only [List.length_append,List.length_singleton] at h1 h2
      refine ⟨o',e,by omega,?_,h3⟩
      rw [show i - acc.length=(i - (acc.length+1))+1 by omega]; simpa using h2
theorem anc_listed {ops:Array Oper} {listed:Nat→Prop} (down:∀ i o,listed i→ops[i]?=some o→∀ e∈o.after.toList,Region.binds .any e=true→listed e.on) :
    ∀ (i:Nat) (o:Oper) (j:Nat),ops[i]?=some o→(∀ e∈o.after.toList,Region.binds .any e=true→listed e.on)→isAnc (ancs [] ops.toList) i j=true→listed j:=by
  intro i
  induction i using Nat.strongRecOn with
  | _ i ih =>
    intro o j ho hready h
    rcases ancs_spec ops.toList [] i j h with ⟨h1,_⟩ | ⟨o',e,_,h2,he,hb,hor⟩
    · simp at h1
    · have:o'=o:=by
        have h3:ops[i]?=some o':=by simpa using h2
        rw [ho] at h3; cases h3; rfl
      subst this
      have hl:=hready e he hb
      rcases hor with rfl | ⟨hlt,hanc⟩
      · exact hl
      · rcases ancs_spec ops.toList [] e.on j hanc with ⟨h4,_⟩ | ⟨o2,e2,_,h5,_⟩
        · simp at h4
        · have h6:ops[e.on]?=some o2:=by simpa using h5
          exact ih e.on hlt o2 j h6 (fun e3 he3 hb3=>down e.on o2 hl h6 e3 he3 hb3) hanc
mutual
theorem eqAV_sound:∀ (a b:AV),eqAV a b=true→a=b
  | .lit a,b,h=>by cases b <;> simp [eqAV] at h; rw [eqV_sound 4 _ _ h]
  | .ptr a i,b,h=>by cases b <;> simp [eqAV] at h; simp [h]
  | .sl a i n c,b,h=>by cases b <;> simp [eqAV] at h; simp [h]
  | .slq a i n c,b,h=>by cases b <;> simp [eqAV] at h; simp [h]
  | .es,b,h=>by cases b <;> simp [eqAV] at h; rfl
  | .map a,b,h=>by cases b <;> simp [eqAV] at h; simp [h]
  | .func f x y,b,h=>by
    cases b <;> simp [eqAV] at h
    rename_i g u v
    rw [h.1.1,eqAVs_sound x u h.1.2,eqAVs_sound y v h.2]
  | .iface t x,b,h=>by
    cases b <;> simp [eqAV] at h
    rename_i u y
    rw [h.1,eqAV_sound x y h.2]
  | .agg l,b,h=>by cases b <;> simp [eqAV] at h; rename_i m; rw [eqAVs_sound l m h]
  | .tup l,b,h=>by cases b <;> simp [eqAV] at h; rename_i m; rw [eqAVs_sound l m h]
theorem eqAVs_sound:∀ (a b:List AV),eqAVs a b=true→a=b
  | [],b,h=>by cases b <;> simp [eqAVs] at h; rfl
  | x :: l,b,h=>by
    cases b <;> simp [eqAVs] at h
    rename_i y m
    rw [eqAV_sound x y h.1,eqAVs_sound l m h.2]
end
end Go.Ai
end
section
namespace Go.Ai
open Go.RowKit (Below)
variable {B G:Nat} {ρ:Rn} {H:Mem} {w:World} {P:Program}
def ND (B:Nat) (P:Program) (ρ:Rn) (w:World) (f:Nat→AV) (x:Blk) (m:Sem Next) : Prop :=
  ∃ ob k u w',m.run P w=.ok (.value u) w'∧w'.heap=w.heap.push ob∧w'.os=w.os∧w'.tape=w.tape∧w'.output=w.output ∧
    ∀ nm,ρ nm=none→BR B (upd ρ nm (w.heap.size,0,k)) x w.heap.size 0 k w'∧VR (upd ρ nm (w.heap.size,0,k)) (f nm) u
theorem nd_cells {l:List AV} {cells:Array Value} {elem:TypeId} {m:Sem Next} {f:Nat→AV} {u:Value} (hB:B≤w.heap.size) (hc:VRs ρ l cells.toList)
    (hrun:m.run P w=.ok (.value u) { w with heap:=w.heap.push (.cells cells elem) }) (hv:∀ nm,VR (upd ρ nm (w.heap.size,0,0)) (f nm) u) :
    ND B P ρ w f (.cells l true 0) m:=by
  refine ⟨.cells cells elem,0,u,_,hrun,rfl,rfl,rfl,rfl,fun nm hn=>⟨⟨cells,elem,(0,0),by simp,?_,fun _=>⟨hB,by simp,by simp,.inl rfl⟩⟩,hv nm⟩⟩
  intro i v hi
  obtain ⟨u,hu,hv⟩:=hc.get i hi
  exact ⟨u,by simpa using hu,hv.mono (sub_upd hn)⟩
def New (B:Nat) (P:Program) (ev:Ev) (o:Oper) (H:Mem) (v:AV) (H' : Mem) : Prop :=
  ∃ f x,v=f H.next∧H'=H.add x∧∀ (ρ:Rn) (w:World) (e:Operand→Value),EvR ρ ev e→B≤w.heap.size→ND B P ρ w f x (execOp e o)
variable {ev:Ev} {o:Oper} {v:AV} {H' : Mem}
theorem n_box {t:TypeId} {x:Operand} (h:o.op=.box t x) (hv:oBox H (ev x)=.val v H') : New B P ev o H v H':=by
  unfold oBox at hv
  split at hv
  · rename_i y hy
    unfold newBlk at hv
    rw [Mem.newK_eq] at hv
    cases hv
    refine ⟨fun n=>.ptr n 0,_,rfl,rfl,fun ρ w e he hB=>?_⟩
    refine nd_cells hB (cells:=(e x).cells) (elem:=t) (he _ _ hy).cells (u:=.pointer (some ⟨w.heap.size,0,none⟩)) ?_ fun nm=>⟨_,_,_,upd_same _ _ _,rfl⟩
    simp [execOp,h,Instr.box,newVar,newRow]
  · cases hv
theorem n_alloc {t:TypeId} (h:o.op=.alloc t) (hv:oAlloc P H t=.val v H') : New B P ev o H v H':=by
  unfold oAlloc at hv
  split at hv
  · rename_i l hl
    unfold zeroL at hl
    split at hl
    · rename_i i hi
      split at hl
      · rename_i zv hz
        cases hl
        unfold newBlk at hv
        rw [Mem.newK_eq] at hv
        cases hv
        refine ⟨fun n=>.ptr n 0,_,rfl,rfl,fun ρ w e he hB=>?_⟩
        refine nd_cells hB (cells:=zv.cells) (elem:=t) (VRs.lits _) (u:=.pointer (some ⟨w.heap.size,0,none⟩)) ?_ fun nm=>⟨_,_,_,upd_same _ _ _,rfl⟩
        simp [execOp,h,Instr.alloc,newVar,newRow,run_zero hi hz]
      · cases hl
    · cases hl
  · cases hv
theorem n_makeMap {t:TypeId} {r:Option Operand} (h:o.op=.makeMap t r) (hv:oMakeMap P H ev t r=.val v H') : New B P ev o H v H':=by
  have key:(∀ (ρ:Rn) (w:World) (e:Operand→Value),EvR ρ ev e→(execOp e o).run P w=.ok (.value (.map (some w.heap.size))) { w with heap:=w.heap.push (.map #[] 0) }) →
      (H.newK (.map [] 0) fun H2=>R.val (.map H.next) H2)=.val v H'→New B P ev o H v H':=by
    intro hrun hv
    rw [Mem.newK_eq] at hv
    cases hv
    refine ⟨fun n=>.map n,_,rfl,rfl,fun ρ w e he hB=>?_⟩
    exact ⟨_,0,_,_,hrun ρ w e he,rfl,rfl,rfl,rfl,fun nm hn=>⟨⟨#[],by simp,rfl,hB⟩,⟨_,_,_,upd_same _ _ _,rfl⟩⟩⟩
  unfold oMakeMap at hv
  split at hv
  · exact key (fun ρ w e he=>by simp [execOp,h,Instr.makeMap]) hv
  · rename_i x
    split at hv
    · rename_i k y kk n hd hy
      refine key (fun ρ w e he=>?_) hv
      have hu:=he _ _ hy
      simp only [VR] at hu
      simp [execOp,h,Instr.makeMap,run_und hd,hu,asInt,asIntOf]
    · cases hv
theorem n_buildSlice {t:TypeId} {len:Nat} {parts:Array (Nat×Operand)} (h:o.op=.buildSlice t len parts) (hv:oBuildSlice P H t len (evalParts ev parts.toList)=.val v H') : New B P ev o H v H':=by
  unfold oBuildSlice at hv
  split at hv
  · rename_i el size bytes ps hel hps
    obtain ⟨hd,i,zv,hi,rfl,rfl,hz,hzs⟩:=elemOf_sound hel
    split at hv
    · rename_i z hle hz0
      split at hv
      · rename_i l hl
        unfold newBlk at hv
        rw [Mem.newK_eq] at hv
        cases hv
        refine ⟨fun n=>.sl n 0 len len,_,rfl,rfl,fun ρ w e he hB=>?_⟩
        have hpr:=evalParts_PR he hps
        obtain ⟨zs,hzr,hzc,hze,hz1⟩:=zeroFor_sound (ρ:=ρ) hi hz hz0 w
        have hrep:VRs ρ (rep z len) ((Array.range (len * i.size)).map (zs[· % zs.size]!)).toList:=by
          by_cases h0:len * i.size=0
          · have hzn:z=[]:=by unfold zeroFor at hz0; rw [h0] at hz0; simpa using hz0.symm
            subst hzn
            rw [h0]
            have:rep [] len=[]:=by have:=rep_length [] len; simpa using this
            rw [this]; simp [VRs]
          · have:=hze h0
            subst this
            rw [← hzs]
            exact rep_VRs hzc len
        obtain ⟨cs,h1,h2,h3⟩:=afill_sound (place':=fun j=>some (j * i.size,i.size)) (fun _ _ hr=>hr) hpr hrep hl
        have hle' : len * i.size≤1048576:=Nat.le_of_ble_eq_true hle
        refine nd_cells hB (cells:=cs) (elem:=el) h2 (u:=.slice (some ⟨w.heap.size,0,none⟩) len len) ?_ fun nm=>⟨_,_,_,upd_same _ _ _,Nat.le_refl _,rfl⟩
        have hnl:¬(len * i.size > 2 ^ 24):=by omega
        simp only [execOp,h,Instr.buildSlice,Sem.run_bind,run_und hd,Result.andThen_ok,run_size hi]
        simp only [hnl,if_false]
        by_cases h0:len * i.size=0
        · rw [hz1 h0] at h1
          simp [h0] at h1
          simp [h0,h1,newRow]
        · rw [hze h0] at h1
          simp at h1
          simp [h0,run_zero hi hz,h1,newRow]
      · cases hv
    · cases hv
  · cases hv
theorem n_makeSlice {t:TypeId} {l c:Operand} (h:o.op=.makeSlice t l c) (hv:oMakeSlice P H t (ev l) (ev c)=.val v H') : New B P ev o H v H':=by
  unfold oMakeSlice at hv
  split at hv
  · rename_i el size bytes n k hel hn hk
    obtain ⟨hd,i,zv,hi,rfl,rfl,hz,hzs⟩:=elemOf_sound hel
    split at hv
    · rename_i z hc hz0
      unfold newBlk at hv
      rw [Mem.newK_eq] at hv
      cases hv
      refine ⟨fun nm=>.sl nm 0 n k,_,rfl,rfl,fun ρ w e he hB=>?_⟩
      have num:∀ {x:Operand} {m:Nat},(ev x).bind natOf=some m→∃ kk,e x=.int kk m:=by
        intro x m hx
        cases hx' : ev x with
        | none=>rw [hx'] at hx; cases hx
        | some v=>rw [hx'] at hx; exact natOf_VR hx (he _ _ hx')
      obtain ⟨k1,hn'⟩:=num hn
      obtain ⟨k2,hk'⟩:=num hk
      simp only [Bool.and_eq_true] at hc
      have hnk:n≤k:=Nat.le_of_ble_eq_true hc.1.1
      have hk20:k≤1048576:=Nat.le_of_ble_eq_true hc.1.2
      have hb20:i.bytes≤1048576:=Nat.le_of_ble_eq_true hc.2
      obtain ⟨zs,hzr,hzc,hze,hz1⟩:=zeroFor_sound (ρ:=ρ) hi hz hz0 w
      have hrep:VRs ρ (rep z k) ((Array.range (k * i.size)).map (zs[· % zs.size]!)).toList:=by
        by_cases h0:k * i.size=0
        · have hzn:z=[]:=by unfold zeroFor at hz0; rw [h0] at hz0; simpa using hz0.symm
          subst hzn
          rw [h0]
          have:rep [] k=[]:=by have:=rep_length [] k; simpa using this
          rw [this]; simp [VRs]
        · have:=hze h0
          subst this
          rw [← hzs]
          exact rep_VRs hzc k
      refine nd_cells hB (cells:=(Array.range (k * i.size)).map (zs[· % zs.size]!)) (elem:=el) hrep (u:=.slice (some ⟨w.heap.size,0,none⟩) n k) ?_ fun nm=>⟨_,_,_,upd_same _ _ _,hnk,rfl⟩
      have w1:IntKind.i64.wrap (n:Int)=n:=wrap_i64 (by omega)
      have w2:IntKind.i64.wrap (k:Int)=k:=wrap_i64 (by omega)
      have hprod:(i.bytes:Int) * k≤2 ^ 48:=by
        have:i.bytes * k≤1099511627776:=Nat.le_trans (Nat.mul_le_mul hb20 hk20) (by decide)
        have e1:(i.bytes:Int) * k=((i.bytes * k:Nat) : Int):=by simp
        rw [e1]; omega
      simp only [execOp,h,Instr.makeSlice,Sem.run_bind,run_und hd,Result.andThen_ok,run_info hi,hn',hk',asInt,asIntOf,Sem.run_pure,w1,w2]
      have c1:¬((k:Int) < 0):=by omega
      have c2:¬((n:Int) < 0):=by omega
      have c3:¬((n:Int) > (k:Int)):=by omega
      have c4:¬((i.bytes:Int) * k > 2 ^ 48):=by omega
      simp only [c1,c2,c3,c4,decide_false,Bool.or_false,Bool.false_eq_true,if_false,run_askRoom,Result.andThen_ok,Sem.run_bind,run_size hi,Int.toNat_natCast]
      by_cases h0:k * i.size=0
      · rw [hz1 h0]
        simp [h0,newRow]
      · rw [hze h0]
        simp [h0,run_zero hi hz,newRow]
    · cases hv
  · cases hv
theorem cls_alloc {op:Op} (h:cls op=.alloc) : (∃ t,op=.alloc t)∨(∃ t x,op=.box t x)∨(∃ t n ps,op=.buildSlice t n ps)∨(∃ t l c,op=.makeSlice t l c)∨(∃ t r,op=.makeMap t r):=by
  cases op <;> first | (simp [cls,freeOp] at h; done) | (simp; done) | skip
  rename_i c
  simp only [cls,freeOp] at h
  split at h <;> first | (cases h; done) | skip
  all_goals (split at h <;> cases h)
theorem alloc_sound (h:cls o.op=.alloc) (hv:opV P H ev o=.val v H') : New B P ev o H v H':=by
  unfold opV at hv
  rcases cls_alloc h with ⟨t,hop⟩ | ⟨t,x,hop⟩ | ⟨t,n,ps,hop⟩ | ⟨t,l,c,hop⟩ | ⟨t,r,hop⟩ <;> rw [hop] at hv
  · exact n_alloc hop hv
  · exact n_box hop hv
  · exact n_buildSlice hop hv
  · exact n_makeSlice hop hv
  · exact n_makeMap hop hv
end Go.Ai
end
section
namespace Go.Ai
open Go.RowKit (Below)
def Gr (r r' : T2 AV) : Prop:=∀ j v,get2 r j=some v→get2 r' j=some v
theorem Gr.refl (r:T2 AV) : Gr r r:=fun _ _ h=>h
theorem Gr.trans {a b c:T2 AV} (h:Gr a b) (k:Gr b c) : Gr a c:=fun j v e=>k j v (h j v e)
theorem setRes_ok {res:T2 AV} {i:Nat} {v:AV} {K:T2 AV→Out} {out:Out} (h:setRes res i v K=out) (hne:out≠.bad) :
    ∃ res',K res'=out∧Gr res res'∧get2 res' i=some v:=by
  unfold setRes at h
  split at h
  · rename_i he
    rw [put2_eq] at h
    refine ⟨_,h,?_,?_⟩
    · intro j y hj
      unfold get2 at hj ⊢
      have same:d0 i=d0 j→d1 i=d1 j→False:=by
        intro e0 e1
        unfold emptyAt at he
        rw [e0,e1] at he
        cases hl:gN (d1 j) (gN (d0 j) res) with
        | e=>rw [hl] at hj; cases hj
        | v k x=>rw [hl] at he; cases he
      unfold u2
      rcases Dg.em (d0 i) (d0 j) with h0 | h0
      · rw [h0,gN_same]
        rcases Dg.em (d1 i) (d1 j) with h1 | h1
        · exact (same h0.symm h1.symm).elim
        · rw [gN_ne _ _ _ _ h1,← h0]; exact hj
      · rw [gN_ne _ _ _ _ h0]; exact hj
    · unfold get2
      rw [at2_same]
      show Bool.rec (motive:=fun _=>Option AV) none (some v) (Nat.beq i i)=some v
      rw [Nat.beq_refl]
  · exact absurd h.symm hne
theorem writer_spec {t:Nat} : ∀ {l:List Oper} {k j:Nat},writer t l k=some j→k≤j∧∃ o,l[j - k]?=some o∧o.dst=some t
  | [],_,_,h=>by cases h
  | o :: l,k,j,h=>by
    unfold writer at h
    cases hd:o.dst with
    | none =>
      rw [hd] at h
      obtain ⟨h1,o',h2,h3⟩:=writer_spec h
      exact ⟨by omega,o',by rw [show j - k=(j - (k+1))+1 by omega]; simpa using h2,h3⟩
    | some d =>
      rw [hd] at h
      dsimp only at h
      cases hb:Nat.beq d t with
      | true =>
        rw [hb] at h
        cases h
        exact ⟨Nat.le_refl _,o,by simp,by rw [hd,Nat.eq_of_beq_eq_true hb]⟩
      | false =>
        rw [hb] at h
        obtain ⟨h1,o',h2,h3⟩:=writer_spec h
        exact ⟨by omega,o',by rw [show j - k=(j - (k+1))+1 by omega]; simpa using h2,h3⟩
theorem fit_spec {ops:List Oper} : ∀ {l:List Oper} {k:Nat},fit ops l k=true→∀ i o,l[i]?=some o→fitOne ops o (k+i)=true
  | [],_,_,i,o,h=>by simp at h
  | x :: l,k,h,i,o,ho=>by
    simp only [fit,Bool.and_eq_true] at h
    cases i with
    | zero=>simp at ho; subst ho; exact h.1
    | succ i =>
      have:=fit_spec h.2 i o (by simpa using ho)
      rw [show k+(i+1)=k+1+i by omega]; exact this
theorem mem_chainOf:∀ {l:List Oper} {k i:Nat},i∈chainOf l k↔k≤i∧∃ o,l[i - k]?=some o∧isChain o.op=true
  | [],k,i=>by simp [chainOf]
  | x :: l,k,i=>by
    have ih:=@mem_chainOf l (k+1) i
    have tail:∀ {o:Oper},k+1≤i→((x :: l)[i - k]?=some o↔l[i - (k+1)]?=some o):=by
      intro o h
      rw [show i - k=(i - (k+1))+1 by omega]; simp
    unfold chainOf
    cases hc:isChain x.op with
    | true =>
      simp only [List.mem_cons]
      constructor
      · rintro (rfl | h)
        · exact ⟨Nat.le_refl _,x,by simp,hc⟩
        · obtain ⟨h1,o,h2,h3⟩:=ih.1 h
          exact ⟨by omega,o,(tail h1).2 h2,h3⟩
      · rintro ⟨h1,o,h2,h3⟩
        rcases Nat.lt_or_ge k i with h4 | h4
        · exact .inr (ih.2 ⟨h4,o,(tail h4).1 h2,h3⟩)
        · exact .inl (by omega)
    | false =>
      constructor
      · intro h
        obtain ⟨h1,o,h2,h3⟩:=ih.1 h
        exact ⟨by omega,o,(tail h1).2 h2,h3⟩
      · rintro ⟨h1,o,h2,h3⟩
        rcases Nat.lt_or_ge k i with h4 | h4
        · exact ih.2 ⟨h4,o,(tail h4).1 h2,h3⟩
        · have:i=k:=by omega
          subst this
          simp at h2; subst h2
          rw [hc] at h3; cases h3
theorem mem_stageOf {tab cs:List Nat} {s:Nat} : ∀ {l:List Oper} {k i:Nat},i∈stageOf tab cs s l k↔k≤i∧∃ o,l[i - k]?=some o∧isChain o.op=false∧countAnc tab i cs=s
  | [],k,i=>by simp [stageOf]
  | x :: l,k,i=>by
    have ih:=@mem_stageOf tab cs s l (k+1) i
    have tail:∀ {o:Oper},k+1≤i→((x :: l)[i - k]?=some o↔l[i - (k+1)]?=some o):=by
      intro o h
      rw [show i - k=(i - (k+1))+1 by omega]; simp
    have hb:(!isChain x.op && Nat.beq (countAnc tab k cs) s)=true↔isChain x.op=false∧countAnc tab k cs=s:=by
      simp [Nat.beq_eq]
    unfold stageOf
    cases hc:(!isChain x.op && Nat.beq (countAnc tab k cs) s) with
    | true =>
      rw [hc] at hb
      simp only [List.mem_cons]
      constructor
      · rintro (rfl | h)
        · exact ⟨Nat.le_refl _,x,by simp,(hb.1 rfl).1,(hb.1 rfl).2⟩
        · obtain ⟨h1,o,h2,h3⟩:=ih.1 h
          exact ⟨by omega,o,(tail h1).2 h2,h3⟩
      · rintro ⟨h1,o,h2,h3⟩
        rcases Nat.lt_or_ge k i with h4 | h4
        · exact .inr (ih.2 ⟨h4,o,(tail h4).1 h2,h3⟩)
        · exact .inl (by omega)
    | false =>
      rw [hc] at hb
      constructor
      · intro h
        obtain ⟨h1,o,h2,h3⟩:=ih.1 h
        exact ⟨by omega,o,(tail h1).2 h2,h3⟩
      · rintro ⟨h1,o,h2,h3⟩
        rcases Nat.lt_or_ge k i with h4 | h4
        · exact ih.2 ⟨h4,o,(tail h4).1 h2,h3⟩
        · have:i=k:=by omega
          subst this
          simp at h2; subst h2
          exact absurd (hb.2 h3) (by simp)
theorem countAnc_none {tab:List Nat} {i:Nat} : ∀ {l:List Nat},(∀ c∈l,isAnc tab i c=false)→countAnc tab i l=0
  | [],_=>rfl
  | c :: l,h=>by
    unfold countAnc
    rw [h c (by simp)]
    exact countAnc_none fun c hc=>h c (by simp [hc])
theorem countAnc_le {tab:List Nat} {i:Nat} {cs:List Nat} (h:∀ c∈cs,isAnc tab i c=false) : ∀ {dn:List Nat},countAnc tab i (dn++cs)≤dn.length
  | []=>by rw [List.nil_append,countAnc_none h]; exact Nat.zero_le _
  | c :: dn=>by
    have ih:=countAnc_le h (dn:=dn)
    rw [List.cons_append]
    unfold countAnc
    split <;> simp <;> omega
theorem ordered_next {tab:List Nat} {c:Nat} {cs:List Nat} : ∀ {dn:List Nat},ordered tab (dn++c :: cs)=true→∀ j∈cs,∃ p∈c :: cs,isAnc tab j p=true
  | [],h,j,hj=>by
    have:∀ (c:Nat) (cs:List Nat),ordered tab (c :: cs)=true→∀ j∈cs,∃ p∈c :: cs,isAnc tab j p=true:=by
      intro c cs
      induction cs generalizing c with
      | nil=>intro _ j hj; cases hj
      | cons d cs ih =>
        intro h j hj
        simp only [ordered,Bool.and_eq_true] at h
        rcases List.mem_cons.1 hj with rfl | hj
        · exact ⟨c,by simp,h.1⟩
        · obtain ⟨p,hp,ha⟩:=ih d h.2 j hj
          exact ⟨p,List.mem_cons_of_mem _ hp,ha⟩
    exact this c cs h j hj
  | d :: dn,h,j,hj=>by
    refine ordered_next (dn:=dn) ?_ j hj
    cases dn with
    | nil=>simp only [List.cons_append,List.nil_append,ordered,Bool.and_eq_true] at h; exact h.2
    | cons x dn=>simp only [List.cons_append,ordered,Bool.and_eq_true] at h; exact h.2
end Go.Ai
end
section
namespace Go.Ai
open Go.RowKit (Below)
variable {B G:Nat} {P:Program} {ops:Array Oper} {tab:List Nat} {fr0:Fr}
def Known (B:Nat) (P:Program) (ops:Array Oper) (tab:List Nat) (fr0:Fr) (res:T2 AV) (held:List Nat) (als:Als) (i:Nat) (o:Oper) : Prop :=
  ∃ r0 v,Gr r0 res∧get2 res i=some v ∧
    ((wantedD tab r0 i o=some false∧v=.lit undef) ∨
     (wantedD tab r0 i o=some true ∧
      ((cls o.op=.free∧∀ H,opV P H (env ops tab fr0 r0 i) o=.val v H) ∨
       (cls o.op=.gen∧generic P (env ops tab fr0 r0 i) o=some v) ∨
       (cls o.op=.read∧i∈held) ∨
       (∃ f x nm,(∀ (ρ:Rn) (w:World) (e:Operand→Value),EvR ρ (env ops tab fr0 r0 i) e→B≤w.heap.size→ND B P ρ w f x (execOp e o))∧v=f nm∧(i,nm,x)∈als))))
theorem Known.mono {res res' : T2 AV} {held held' : List Nat} {als als' : Als} {i:Nat} {o:Oper} (h:Known B P ops tab fr0 res held als i o) (hg:Gr res res')
    (hh:i∈held→i∈held') (ha:∀ nm x,(i,nm,x)∈als→(i,nm,x)∈als') : Known B P ops tab fr0 res' held' als' i o:=by
  obtain ⟨r0,v,h1,h2,h3⟩:=h
  refine ⟨r0,v,h1.trans hg,hg _ _ h2,h3.imp id fun ⟨h4,h5⟩=>⟨h4,h5.imp id fun h5=>h5.imp id fun h5=>h5.imp ?_ ?_⟩⟩
  · exact fun ⟨a,b⟩=>⟨a,hh b⟩
  · exact fun ⟨f,x,nm,a,b,c⟩=>⟨f,x,nm,a,b,ha _ _ c⟩
structure Ph (H H' : Mem) : Prop where
  sim:∀ {B G:Nat} {ρ:Rn} {w:World},Sim B G ρ H w→Sim B G ρ H' w
  le:H.next≤H'.next
theorem Ph.refl (H:Mem) : Ph H H:=⟨id,Nat.le_refl _⟩
theorem Ph.trans {a b c:Mem} (h:Ph a b) (k:Ph b c) : Ph a c:=⟨fun s=>k.sim (h.sim s),Nat.le_trans h.le k.le⟩
theorem Ph.add (H:Mem) (x:Blk) : Ph H (H.add x):=by
  refine ⟨fun {B G ρ w} s=>?_,Nat.le_succ _⟩
  refine ⟨?_,?_,fun a ha=>s.fresh a (Nat.le_of_succ_le ha),?_,Nat.le_succ_of_le s.names,s.base⟩
  · intro a y hy
    rcases Mem.get_add hy with ⟨rfl,rfl⟩ | ⟨hne,hy⟩
    · exact .inl s.none
    · exact s.blk a y hy
  · intro a a' y y' b o k o' k' h h' hne ho hr hr'
    rcases Mem.get_add h with ⟨e1,_⟩ | ⟨_,g⟩
    · subst e1; rw [s.none] at hr; cases hr
    · rcases Mem.get_add h' with ⟨e1,_⟩ | ⟨_,g'⟩
      · subst e1; rw [s.none] at hr'; cases hr'
      · exact s.inj a a' y y' b o k o' k' g g' hne ho hr hr'
  · intro a y ha hy
    rcases Mem.get_add hy with ⟨rfl,_⟩ | ⟨hne,hy⟩
    · have:=s.names; omega
    · exact s.glob a y ha hy
structure AlsOK (n:Nat) (H:Mem) (als:Als) : Prop where
  lo:∀ x∈als,n≤x.2.1
  hi:∀ x∈als,x.2.1 < H.next
  own:∀ x∈als,∀ y∈als,x.2.1=y.2.1→x=y
theorem AlsOK.nil (n:Nat) (H:Mem) : AlsOK n H []:=⟨(fun _ h=>(by cases h)),(fun _ h=>(by cases h)),(fun _ h=>(by cases h))⟩
theorem AlsOK.sub {n:Nat} {H H' : Mem} {als als' : Als} (h:AlsOK n H als) (hs:∀ x∈als',x∈als) (hn:H.next≤H'.next) : AlsOK n H' als' :=
  ⟨fun x hx=>h.lo x (hs x hx),fun x hx=>Nat.lt_of_lt_of_le (h.hi x (hs x hx)) hn,fun x hx y hy=>h.own x (hs x hx) y (hs y hy)⟩
theorem AlsOK.cons {n:Nat} {H:Mem} {als:Als} (h:AlsOK n H als) (hn:n≤H.next) (i:Nat) (x b:Blk) : AlsOK n (H.add b) ((i,H.next,x) :: als):=by
  refine ⟨?_,?_,?_⟩
  · intro y hy; rcases List.mem_cons.1 hy with rfl | hy
    · exact hn
    · exact h.lo y hy
  · intro y hy; rcases List.mem_cons.1 hy with rfl | hy
    · exact Nat.lt_succ_self _
    · exact Nat.lt_succ_of_lt (h.hi y hy)
  · intro y hy z hz e
    rcases List.mem_cons.1 hy with rfl | hy <;> rcases List.mem_cons.1 hz with rfl | hz
    · rfl
    · have:=h.hi z hz; dsimp only at e; omega
    · have:=h.hi y hy; dsimp only at e; omega
    · exact h.own y hy z hz e
structure Found (B:Nat) (P:Program) (ops:Array Oper) (tab:List Nat) (fr0:Fr) (L:List Nat) (res:T2 AV) (H:Mem) (held:List Nat) (als:Als) (res' : T2 AV) (H' : Mem) (held' : List Nat) (als' : Als) : Prop where
  gr:Gr res res'
  ph:Ph H H'
  keepH:∀ i∈held,i∈held'
  keepA:∀ x∈als,x∈als'
  new:∀ x∈als',x∈als∨H.next≤x.2.1
  ok:∀ n,n≤H.next→AlsOK n H als→AlsOK n H' als'
  known:∀ i∈L,∀ o,ops[i]?=some o→Known B P ops tab fr0 res' held' als' i o
variable {L:List Nat} {res:T2 AV} {H:Mem} {held:List Nat} {als:Als} {K:StF} {out:Out}
theorem stepQ_sound {i:Nat} {o:Oper} (ho:ops[i]?=some o) (hk:isChain o.op=false) (hn:cls o.op≠.no) (h:stepQ P ops tab fr0 i res H held als K=out) (hne:out≠.bad) :
    ∃ res' H' held' als',K res' H' held' als'=out∧Found B P ops tab fr0 [i] res H held als res' H' held' als':=by
  have only:∀ {res' : T2 AV} {held' : List Nat} {als' : Als},Known B P ops tab fr0 res' held' als' i o→∀ j∈[i],∀ o',ops[j]?=some o'→Known B P ops tab fr0 res' held' als' j o':=by
    intro res' held' als' hkn j hj o' ho'
    simp at hj; subst hj
    rw [ho] at ho'; cases ho'; exact hkn
  unfold stepQ at h
  rw [ho] at h
  dsimp only at h
  split at h
  · rename_i hw
    obtain ⟨res',h1,h2,h3⟩:=setRes_ok h hne
    exact ⟨res',H,held,als,h1,h2,Ph.refl _,fun _ h=>h,fun _ h=>h,fun _ h=>.inl h,fun _ _ h=>h,only ⟨res,_,h2,h3,.inl ⟨hw,rfl⟩⟩⟩
  · rename_i hw
    split at h
    · rename_i hc
      split at h
      · rename_i v H' hv
        split at h
        · rename_i b hb
          obtain ⟨f,x,e1,e2,hnd⟩:=alloc_sound (B:=B) hc hv
          subst e1; subst e2
          have hbx:b=x:=by
            rcases Mem.get_add hb with ⟨_,e⟩ | ⟨e,_⟩
            · exact e
            · exact absurd rfl e
          subst hbx
          obtain ⟨res',h1,h2,h3⟩:=setRes_ok h hne
          refine ⟨res',_,held,_,h1,h2,Ph.add _ _,fun _ h=>h,fun _ h=>List.mem_cons_of_mem _ h,?_,fun n hn hk=>hk.cons hn i b b,only ?_⟩
          · intro y hy; rcases List.mem_cons.1 hy with rfl | hy
            · exact .inr (Nat.le_refl _)
            · exact .inl hy
          · exact ⟨res,_,h2,h3,.inr ⟨hw,.inr (.inr (.inr ⟨f,b,H.next,hnd,rfl,by simp⟩))⟩⟩
        · exact absurd h.symm hne
      · exact absurd h.symm hne
    · rename_i hc
      split at h
      · rename_i v hv
        obtain ⟨res',h1,h2,h3⟩:=setRes_ok h hne
        refine ⟨res',H,i :: held,als,h1,h2,Ph.refl _,fun _ h=>List.mem_cons_of_mem _ h,fun _ h=>h,fun _ h=>.inl h,fun _ _ h=>h,only ?_⟩
        exact ⟨res,_,h2,h3,.inr ⟨hw,.inr (.inr (.inl ⟨hc,by simp⟩))⟩⟩
      · exact absurd h.symm hne
    · rename_i hc1 hc2
      split at h
      · rename_i v hv
        obtain ⟨res',h1,h2,h3⟩:=setRes_ok h hne
        refine ⟨res',H,held,als,h1,h2,Ph.refl _,fun _ h=>h,fun _ h=>h,fun _ h=>.inl h,fun _ _ h=>h,only ?_⟩
        refine ⟨res,_,h2,h3,.inr ⟨hw,?_⟩⟩
        cases hc:cls o.op with
        | free =>
          left
          refine ⟨rfl,?_⟩
          unfold quiet at hv
          rw [hc] at hv
          dsimp only at hv
          have hf:freeOp o.op=true:=by
            cases hf:freeOp o.op with
            | true=>rfl
            | false =>
              exfalso
              unfold cls at hc
              rw [hf] at hc
              dsimp only at hc
              split at hc <;> first | (cases hc; done) | skip
              split at hc <;> cases hc
          split at hv
          · rename_i v' H' hv'
            cases hv
            intro H2
            have hfr:=freeOp_sound hf H v H' hv'
            exact hfr.2 H2
          · cases hv
        | gen =>
          right; left
          refine ⟨rfl,?_⟩
          unfold quiet at hv
          rw [hc] at hv
          exact hv
        | read=>exact absurd hc hc2
        | alloc=>exact absurd hc hc1
        | chain=>unfold isChain at hk; rw [hc] at hk; cases hk
        | no=>exact absurd hc hn
      · exact absurd h.symm hne
  · exact absurd h.symm hne
theorem stage_sound:∀ (L:List Nat) (res:T2 AV) (H:Mem) (held:List Nat) (als:Als),(∀ i∈L,∃ o,ops[i]?=some o∧isChain o.op=false∧cls o.op≠.no) →
    stage P ops tab fr0 L res H held als K=out→out≠.bad →
    ∃ res' H' held' als',K res' H' held' als'=out∧Found B P ops tab fr0 L res H held als res' H' held' als'
  | [],res,H,held,als,_,h,_=>⟨res,H,held,als,h,Gr.refl _,Ph.refl _,fun _ h=>h,fun _ h=>h,fun _ h=>.inl h,fun _ _ h=>h,fun _ h=>by cases h⟩
  | i :: L,res,H,held,als,hL,h,hne=>by
    obtain ⟨o,ho,hk,hn⟩:=hL i (by simp)
    obtain ⟨r1,H1,hd1,al1,h1,f1⟩:=stepQ_sound (B:=B) ho hk hn h hne
    obtain ⟨r2,H2,hd2,al2,h2,f2⟩:=stage_sound L r1 H1 hd1 al1 (fun i hi=>hL i (by simp [hi])) h1 hne
    refine ⟨r2,H2,hd2,al2,h2,f1.gr.trans f2.gr,f1.ph.trans f2.ph,fun i hi=>f2.keepH i (f1.keepH i hi),fun x hx=>f2.keepA x (f1.keepA x hx),?_,?_,?_⟩
    · intro x hx
      rcases f2.new x hx with h | h
      · exact f1.new x h
      · exact .inr (Nat.le_trans f1.ph.le h)
    · intro n hn hk
      exact f2.ok n (Nat.le_trans hn f1.ph.le) (f1.ok n hn hk)
    · intro j hj o' ho'
      rcases List.mem_cons.1 hj with rfl | hj
      · exact (f1.known j (by simp) o' ho').mono f2.gr (fun h=>f2.keepH _ h) fun nm x h=>f2.keepA _ h
      · exact f2.known j hj o' ho'
end Go.Ai
end
section
namespace Go.Ai
open Go.RowKit (Below)
variable {B G:Nat} {P:Program}
def DR (ρ:Rn) : List Dfr→List Deferred→Prop
  | [],ds=>ds=[]
  | (fn,cap,args) :: l,ds=>∃ (cs as:Array Value) (ds' : List Deferred),ds = { target:=.fn fn cs,args:=as } :: ds'∧VRs ρ cap cs.toList∧VRs ρ args as.toList∧DR ρ l ds'
theorem DR.mono {ρ ρ' : Rn} (h:Sub ρ ρ') : ∀ {l:List Dfr} {ds:List Deferred},DR ρ l ds→DR ρ' l ds
  | [],_,r=>r
  | _ :: _,_,⟨cs,as,ds',e,a,b,c⟩=>⟨cs,as,ds',e,a.mono h,b.mono h,DR.mono h c⟩
structure FRel (n:Nat) (ρ:Rn) (fr:Fr) (a:Act) : Prop where
  slot:∀ t v,fr.get t=some v→t < n→VR ρ v (a.tmps.getD t undef)
  dfr:DR ρ fr.defers a.defers
  size:n≤a.tmps.size
  only:∀ t v,fr.get t=some v→t < n
structure St (B G n n0:Nat) (ρ0:Rn) (w0:World) (ρ:Rn) (fr:Fr) (H:Mem) (a:Act) (w:World) : Prop where
  ext:Ext B n0 ρ0 w0 ρ w
  sim:Sim B G ρ H w
  frel:FRel n ρ fr a
  le:n0≤H.next
variable {n n0:Nat} {ρ0 ρ:Rn} {w0 w:World} {fr:Fr} {H:Mem} {a:Act}
theorem St.ev (s:St B G n n0 ρ0 w0 ρ fr H a w) : EvR ρ fr.ev a.eval:=by
  intro x v h
  cases x with
  | tmp t=>exact s.frel.slot t v h (s.frel.only t v h)
  | const c=>cases h; rfl
  | global g=>cases h; rfl
  | func f=>cases h; rfl
theorem FRel.put {u:Value} {v:AV} {d:Option Tmp} (h:FRel n ρ fr a) (hd:∀ t,d=some t→t < n) (hv:VR ρ v u) : FRel n ρ (fr.put d v) (a.put d u):=by
  cases d with
  | none=>exact h
  | some t =>
    have ht:=hd t rfl
    refine ⟨?_,?_,?_,?_⟩
    · intro j y hy hj
      rcases Fr.get_upd hy with ⟨rfl,rfl⟩ | ⟨hne,hy⟩
      · show VR ρ y ((a.tmps.setIfInBounds j u).getD j undef)
        have:j < a.tmps.size:=Nat.lt_of_lt_of_le ht h.size
        rw [Array.getD_eq_getD_getElem?,Array.getElem?_setIfInBounds]
        simp [this]; exact hv
      · show VR ρ y ((a.tmps.setIfInBounds t u).getD j undef)
        rw [Array.getD_eq_getD_getElem?,Array.getElem?_setIfInBounds]
        have:=h.slot j y hy hj
        rw [Array.getD_eq_getD_getElem?] at this
        simp [Ne.symm hne]; exact this
    · show DR ρ (fr.upd t v).defers a.defers
      rw [Fr.defers_upd]; exact h.dfr
    · show n≤(a.tmps.setIfInBounds t u).size
      simp; exact h.size
    · intro j y hy
      rcases Fr.get_upd hy with ⟨rfl,rfl⟩ | ⟨hne,hy⟩
      · exact ht
      · exact h.only j y hy
theorem FRel.mono {ρ' : Rn} (h:FRel n ρ fr a) (hs:Sub ρ ρ') : FRel n ρ' fr a :=
  ⟨fun t v hv ht=>(h.slot t v hv ht).mono hs,h.dfr.mono hs,h.size,h.only⟩
theorem St.step {ρ' : Rn} {H' : Mem} {w' : World} {v:AV} {u:Value} {d:Option Tmp} (s:St B G n n0 ρ0 w0 ρ fr H a w) (he:Ext B H.next ρ w ρ' w') (hs:Sim B G ρ' H' w') (hv:VR ρ' v u) (hn:H.next≤H'.next)
    (hd:∀ t,d=some t→t < n) : St B G n n0 ρ0 w0 ρ' (fr.put d v) H' (a.put d u) w' :=
  ⟨s.ext.trans he s.le,hs,(s.frel.mono (he.sub s.sim)).put hd hv,Nat.le_trans s.le hn⟩
def OutPost (B G n n0:Nat) (ρ0:Rn) (w0:World) (out:Out) : Exit→Act→World→Prop:=fun e a' w' =>
  match out,e with
  | .norm fr H,.normal=>∃ ρ',St B G n n0 ρ0 w0 ρ' fr H a' w'
  | .exit id fr H,.exit id'=>id'=id∧∃ ρ',St B G n n0 ρ0 w0 ρ' fr H a' w'
  | .ret fr H,.ret=>∃ ρ',St B G n n0 ρ0 w0 ρ' fr H a' w'
  | .panic v fr H,.panic chain=>∃ ρ' u,chain=[{ v:=u,recovered:=false }]∧VR ρ' v u∧St B G n n0 ρ0 w0 ρ' fr H a' w'
  | _,_=>False
def CPost (B G n0:Nat) (ρ0:Rn) (w0:World) (r:COut) : Ending→World→Prop:=fun e w' =>
  match r,e with
  | .ret v H,.returned u=>∃ ρ',Ext B n0 ρ0 w0 ρ' w'∧Sim B G ρ' H w'∧VR ρ' v u∧n0≤H.next
  | .panic v H,.panicked chain=>∃ ρ' u,chain=[{ v:=u,recovered:=false }]∧VR ρ' v u∧Ext B n0 ρ0 w0 ρ' w'∧Sim B G ρ' H w'∧n0≤H.next
  | _,_=>False
def CallOK (B G:Nat) (P:Program) (callf:CallF) : Prop:=∀ f args H,callf f args H≠.bad→∀ (ρ:Rn) (us:Array Value) (w:World),Sim B G ρ H w→VRs ρ args us.toList →
  Calls P f us w (CPost B G H.next ρ w (callf f args H))
theorem dstOk_lt {o:Oper} (h:dstOk n o=true) : ∀ t,o.dst=some t→t < n:=by
  intro t ht
  unfold dstOk at h
  rw [ht] at h
  have:t+1≤n:=Nat.le_of_ble_eq_true h
  exact this
theorem wantedG_sound {ops:Array Oper} {g:Nat×Bool} {b:Bool} {o:Oper} (s:St B G n n0 ρ0 w0 ρ fr H a w) (ho:o.guard=some g) (h:wantedG ops fr g=some b) :
    Region.wanted o (yielded ops a.tmps)=b:=by
  obtain ⟨j,want⟩:=g
  have slot:∀ {d:Tmp} {v:AV},fr.get d=some v→∃ u,a.tmps[d]?=some u∧VR ρ v u:=by
    intro d v hv
    have hlt:=s.frel.only d v hv
    have:=s.frel.slot d v hv hlt
    have hsz:d < a.tmps.size:=Nat.lt_of_lt_of_le hlt s.frel.size
    refine ⟨a.tmps[d],by simp [hsz],?_⟩
    rw [Array.getD_eq_getD_getElem?] at this
    simpa [hsz] using this
  unfold wantedG at h
  split at h
  · rename_i b' hy
    unfold yieldedA at hy
    split at hy
    · rename_i oj hoj
      split at hy
      · rename_i d hd
        split at hy
        · rename_i bb hg
          cases hy
          obtain ⟨u,hu,hv⟩:=slot hg
          cases hv
          have hyl:yielded ops a.tmps j=some b':=by simp [yielded,hoj,hd,hu]
          simp only [Region.wanted,ho,hyl]
          revert h
          cases b' <;> cases want <;> simp <;> exact fun h=>h ▸ rfl
        · cases hy
      · cases hy
    · cases hy
  · split at h
    · rename_i oj hoj
      split at h
      · rename_i d hd
        split at h
        · rename_i vs hg
          cases h
          obtain ⟨u,hu,hv⟩:=slot hg
          cases hv
          have hyl:yielded ops a.tmps j=none:=by simp [yielded,hoj,hd,hu]
          simp [Region.wanted,ho,hyl]
        · cases h
      · cases h
    · cases h
theorem undef_VR (ρ:Rn) : VR ρ (.lit undef) undef:=rfl
theorem after_sound {callf:CallF} {ops:Array Oper} {o:Oper} {rest:List Oper} {k:Fr→Mem→Out} {out:Out} (hc:CallOK B G P callf) (hG:G=P.globals.size) (hdst:dstOk n o=true)
    (s:St B G n n0 ρ0 w0 ρ fr H a w)
    (hk:∀ (fr' : Fr) (H' : Mem) (ρ' : Rn) (a' : Act) (w' : World),St B G n n0 ρ0 w0 ρ' fr' H' a' w'→k fr' H'=out→wpList P ops (OutPost B G n n0 ρ0 w0 out) rest a' w')
    (hout:after callf o fr k (opV P H fr.ev o)=out) (hne:out≠.bad) :
    o.wp P a w (wpList P ops (OutPost B G n n0 ρ0 w0 out) rest) (OutPost B G n n0 ρ0 w0 out):=by
  have hrs:=opV_sound (o:=o) s.sim s.ev hG
  have hd:=dstOk_lt hdst
  unfold Oper.wp
  unfold after at hout
  cases hr:opV P H fr.ev o with
  | val v H' =>
    rw [hr] at hrs hout
    obtain ⟨ρ',u,w',h1,h2,h3,h4,h5⟩:=hrs
    rw [h1]
    have hout' : k (fr.put o.dst v) H'=out:=by
      have:(fr.putK o.dst v fun fr=>k fr H')=out:=hout
      rw [Fr.putK_eq] at this; exact this
    exact hk _ _ _ _ _ (s.step h2 h3 h4 h5 hd) hout'
  | skip H' =>
    rw [hr] at hrs hout
    obtain ⟨ρ',w',h1,h2,h3,h5⟩:=hrs
    rw [h1]
    have hout' : k (fr.put o.dst (.lit undef)) H'=out:=by
      have:(fr.putK o.dst (.lit undef) fun fr=>k fr H')=out:=hout
      rw [Fr.putK_eq] at this; exact this
    exact hk _ _ _ _ _ (s.step h2 h3 (undef_VR _) h5 hd) hout'
  | enter f args H' =>
    rw [hr] at hrs hout
    obtain ⟨us,h1,h2,rfl⟩:=hrs
    rw [h1]
    have hout' : (match callf f args H' with
      | .ret v H=>fr.putK o.dst v fun fr=>k fr H
      | .panic v H=>.panic v fr H
      | .bad=>.bad)=out:=hout
    cases hcall:callf f args H' with
    | bad=>rw [hcall] at hout'; exact absurd hout'.symm hne
    | ret v H2 =>
      rw [hcall] at hout'
      dsimp only at hout'
      rw [Fr.putK_eq] at hout'
      have:=hc f args H' (by rw [hcall]; simp) ρ us w s.sim h2
      rw [hcall] at this
      refine this.mono fun e w' he=>?_
      cases e with
      | returned u =>
        obtain ⟨ρ',g1,g2,g3,g4⟩:=he
        exact hk _ _ _ _ _ (s.step g1 g2 g3 g4 hd) hout'
      | panicked chain=>exact he.elim
      | outgrown=>exact he.elim
    | panic v H2 =>
      rw [hcall] at hout'
      dsimp only at hout'
      have:=hc f args H' (by rw [hcall]; simp) ρ us w s.sim h2
      rw [hcall] at this
      refine this.mono fun e w' he=>?_
      cases e with
      | returned u=>exact he.elim
      | panicked chain =>
        obtain ⟨ρ',u,g0,g1,g2,g3,g4⟩:=he
        subst hout'
        exact ⟨ρ',u,g0,g1,s.ext.trans g2 s.le,g3,s.frel.mono (g2.sub s.sim),Nat.le_trans s.le g4⟩
      | outgrown=>exact he.elim
  | dfr fn cap args H' =>
    rw [hr] at hrs hout
    obtain ⟨cs,as,h1,h2,h3,rfl⟩:=hrs
    rw [h1]
    have hout' : k ((fr.defer (fn,cap,args)).put o.dst (.lit undef)) H'=out:=by
      have:((fr.defer (fn,cap,args)).putK o.dst (.lit undef) fun fr=>k fr H')=out:=hout
      rw [Fr.putK_eq] at this; exact this
    have hf:FRel n ρ (fr.defer (fn,cap,args)) { a with defers:={ target:=.fn fn cs,args:=as } :: a.defers } :=
      ⟨fun t v hv ht=>s.frel.slot t v (by rw [Fr.get_defer] at hv; exact hv) ht,by rw [Fr.defers_defer]; exact ⟨cs,as,_,rfl,h2,h3,s.frel.dfr⟩,s.frel.size,
        fun t v hv=>s.frel.only t v (by rw [Fr.get_defer] at hv; exact hv)⟩
    exact hk _ _ _ _ _ ⟨s.ext,s.sim,hf.put hd (undef_VR _),s.le⟩ hout'
  | recover=>rw [hr] at hout; exact absurd hout.symm hne
  | panic v H' =>
    rw [hr] at hrs hout
    obtain ⟨u,h1,h2,rfl⟩:=hrs
    rw [h1]
    have hout' : Out.panic v fr H'=out:=hout
    subst hout'
    exact ⟨ρ,u,rfl,h2,s⟩
  | bad=>rw [hr] at hout; exact absurd hout.symm hne
theorem seqOps_sound {callf:CallF} {ops:Array Oper} (hc:CallOK B G P callf) (hG:G=P.globals.size) {out:Out} (hne:out≠.bad) : ∀ (l:List Oper) (fr:Fr) (H:Mem) (ρ:Rn) (a:Act) (w:World),
    (∀ o∈l,dstOk n o=true)→St B G n n0 ρ0 w0 ρ fr H a w→seqOps P callf ops l fr H=out→wpList P ops (OutPost B G n n0 ρ0 w0 out) l a w
  | [],fr,H,ρ,a,w,_,s,h=>by
    have:Out.norm fr H=out:=h
    subst this
    exact wpList_nil ⟨ρ,s⟩
  | o :: l,fr,H,ρ,a,w,hd,s,h=>by
    have h' : oneOp P callf ops o fr H (seqOps P callf ops l)=out:=h
    have hdo:=hd o (by simp)
    have hk:∀ (fr' : Fr) (H' : Mem) (ρ' : Rn) (a' : Act) (w' : World),St B G n n0 ρ0 w0 ρ' fr' H' a' w'→seqOps P callf ops l fr' H'=out→wpList P ops (OutPost B G n n0 ρ0 w0 out) l a' w' :=
      fun fr' H' ρ' a' w' s' hk=>seqOps_sound hc hG hne l fr' H' ρ' a' w' (fun o ho=>hd o (by simp [ho])) s' hk
    unfold oneOp at h'
    unfold wpList
    cases hg:o.guard with
    | none =>
      rw [hg] at h'
      rw [if_pos (by simp [Region.wanted,hg])]
      exact .inl (after_sound hc hG hdo s hk h' hne)
    | some g =>
      rw [hg] at h'
      have h2:guarded P callf ops o fr H (seqOps P callf ops l) g=out:=h'
      unfold guarded at h2
      split at h2
      · rename_i hw
        rw [if_pos (wantedG_sound s hg hw)]
        exact .inl (after_sound hc hG hdo s hk h2 hne)
      · rename_i hw
        rw [if_neg (by rw [wantedG_sound s hg hw]; simp)]
        rw [Fr.putK_eq] at h2
        exact hk _ _ _ _ _ ⟨s.ext,s.sim,s.frel.put (dstOk_lt hdo) (undef_VR _),s.le⟩ h2
      · exact absurd h2.symm hne
end Go.Ai
end
section
namespace Go.Ai
open Go.RowKit (Below)
variable {B G:Nat} {P:Program} {ops:Array Oper} {tab:List Nat} {fr0:Fr} {callf:CallF}
theorem read_keeps {ev:Ev} {o:Oper} {H H' : Mem} {v:AV} (h:cls o.op=.read) (hv:opV P H ev o=.val v H') : H'=H:=by
  have opt:∀ {r:Option AV},ofOpt H r=.val v H'→H'=H:=by
    intro r hr
    cases r with
    | none=>cases hr
    | some x=>cases hr; rfl
  unfold opV at hv
  cases hop:o.op <;> rw [hop] at h hv <;> first | (simp [cls,freeOp] at h; done) | skip
  · rename_i t x
    have hv' : oLoad P H t (ev x)=.val v H':=hv
    unfold oLoad at hv'
    split at hv'
    · exact opt hv'
    · cases hv'
  · rename_i t m k ok
    have hv' : oLookup P H ev o t (ev m) (ev k) ok=.val v H':=hv
    unfold oLookup at hv'
    split at hv'
    · exact opt hv'
    · cases hv'
  · rename_i c
    have hv' : callOp P H ev o c=.val v H':=hv
    unfold callOp at hv'
    split at hv'
    · cases hv'
    · rename_i args _
      simp only [cls,freeOp] at h
      split at hv'
      · rename_i b hc
        rw [hc] at h
        unfold oBuiltin at hv'
        cases b <;> first | (cases h; done) | skip
        · dsimp only at hv'
          unfold oCap at hv'
          split at hv'
          · cases hv'; rfl
          · split at hv' <;> first | (cases hv'; rfl; done) | (cases hv'; done)
        · dsimp only at hv'
          unfold oLen at hv'
          split at hv'
          · exact opt hv'
          · unfold oLenN at hv'
            split at hv' <;> first | (cases hv'; rfl; done) | (cases hv'; done) | skip
            split at hv' <;> first | (cases hv'; rfl; done) | (cases hv'; done)
      · rename_i hc; rw [hc] at h; cases h
      · rename_i hc; rw [hc] at h; cases h
noncomputable def nxt (P:Program) (callf:CallF) (ops:Array Oper) (tab:List Nat) (fr:Fr) (all:List Nat) (k:Nat) (cs:List Nat) (res:T2 AV) (H:Mem) (held:List Nat) (als:Als) : Out :=
  match cs with
  | []=>fin res H ops.toList 0 fr
  | c :: cs=>act P callf ops tab fr c res H fun res H=>stages P callf ops tab fr all (k+1) cs res H (still tab c held) (stillA tab c als)
noncomputable def gate (P:Program) (callf:CallF) (ops:Array Oper) (tab:List Nat) (fr:Fr) (all:List Nat) (k:Nat) (cs:List Nat) (res:T2 AV) (H:Mem) (held:List Nat) (als:Als) : Out :=
  match recheck P ops tab fr res H held && stays H als with
  | true=>nxt P callf ops tab fr all k cs res H held als
  | false=>.bad
theorem stages_eq (all:List Nat) (k:Nat) (cs:List Nat) (res:T2 AV) (H:Mem) (held:List Nat) (als:Als) :
    stages P callf ops tab fr0 all k cs res H held als=stage P ops tab fr0 (stageOf tab all k ops.toList 0) res H held als fun res H held als=>gate P callf ops tab fr0 all k cs res H held als:=by
  cases cs <;> rfl
theorem recheck_spec {res:T2 AV} {H:Mem} : ∀ {held:List Nat},recheck P ops tab fr0 res H held=true→∀ i∈held,∃ o v,ops[i]?=some o∧get2 res i=some v∧quiet P H (env ops tab fr0 res i) o=some v
  | [],_,_,h=>by cases h
  | j :: held,h,i,hi=>by
    unfold recheck at h
    split at h
    · rename_i o v ho hv
      split at h
      · rename_i v' hq
        split at h
        · rename_i he
          rcases List.mem_cons.1 hi with rfl | hi
          · exact ⟨o,v,ho,hv,by rw [hq,eqAV_sound _ _ he]⟩
          · exact recheck_spec h i hi
        · cases h
      · cases h
    · cases h
theorem eqBlk_sound {a b:Blk} (h:eqBlk a b=true) : a=b:=by
  unfold eqBlk at h
  split at h
  · simp only [Bool.and_eq_true] at h
    rw [eqAVs_sound _ _ h.1.1,eq_of_beq h.1.2,Nat.eq_of_beq_eq_true h.2]
  · rw [Nat.eq_of_beq_eq_true h]
  · cases h
theorem stays_spec {H:Mem} : ∀ {als:Als},stays H als=true→∀ i nm x,(i,nm,x)∈als→H.get nm=some x
  | [],_,_,_,_,h=>by cases h
  | (j,a,b) :: als,h,i,nm,x,hx=>by
    unfold stays at h
    split at h
    · rename_i b' hb
      split at h
      · rename_i he
        rcases List.mem_cons.1 hx with e | hx
        · cases e; rw [hb,eqBlk_sound he]
        · exact stays_spec h i nm x hx
      · cases h
    · cases h
theorem mem_still {c i:Nat} (h:isAnc tab c i=false) : ∀ {held:List Nat},i∈held→i∈still tab c held
  | [],hi=>by cases hi
  | j :: held,hi=>by
    unfold still
    rcases List.mem_cons.1 hi with rfl | hi
    · rw [h]; simp
    · split
      · exact mem_still h hi
      · exact List.mem_cons_of_mem _ (mem_still h hi)
theorem mem_stillA {c i:Nat} (h:isAnc tab c i=false) : ∀ {als:Als} {nm:Nat} {x:Blk},(i,nm,x)∈als→(i,nm,x)∈stillA tab c als
  | [],_,_,hi=>by cases hi
  | y :: als,nm,x,hi=>by
    unfold stillA
    rcases List.mem_cons.1 hi with rfl | hi
    · rw [h]; simp
    · split
      · exact mem_stillA h hi
      · exact List.mem_cons_of_mem _ (mem_stillA h hi)
theorem stillA_sub {c:Nat} : ∀ {als:Als},∀ x∈stillA tab c als,x∈als
  | [],_,h=>by cases h
  | y :: als,x,h=>by
    unfold stillA at h
    split at h
    · exact List.mem_cons_of_mem _ (stillA_sub x h)
    · rcases List.mem_cons.1 h with rfl | h
      · simp
      · exact List.mem_cons_of_mem _ (stillA_sub x h)
end Go.Ai
end
section
namespace Go.Ai
open Go.RowKit (Below)
def Dn (listed:Array Bool) (i:Nat) : Prop:=listed.getD i false=true
structure DInv (B G n n0:Nat) (P:Program) (ops:Array Oper) (fr0:Fr) (ρ0:Rn) (w0:World) (dn cs:List Nat) (res:T2 AV) (H:Mem) (held:List Nat) (als:Als) (listed:Array Bool) (ρ:Rn) (a:Act) (w:World) : Prop where
  ext:Ext B n0 ρ0 w0 ρ w
  sim:Sim B G ρ H w
  le:n0≤H.next
  size:listed.size=ops.size
  tsz:n≤a.tmps.size
  dfr:DR ρ fr0.defers a.defers
  only:∀ t v,fr0.get t=some v→t < n
  chain:chainOf ops.toList 0=dn++cs
  csN:∀ c∈cs,¬Dn listed c
  down:∀ i o,Dn listed i→ops[i]?=some o→∀ e∈o.after.toList,Region.binds .any e=true→Dn listed e.on
  old:∀ t,(∀ j,writer t ops.toList 0=some j→¬Dn listed j)→∀ v,fr0.get t=some v→VR ρ v (a.tmps.getD t undef)
  new:∀ j o,Dn listed j→ops[j]?=some o→∃ v,get2 res j=some v∧∀ d,o.dst=some d→VR ρ v (a.tmps.getD d undef)
  known:∀ i o,¬Dn listed i→ops[i]?=some o→isChain o.op=false→countAnc (ancs [] ops.toList) i (dn++cs)≤dn.length→Known B P ops (ancs [] ops.toList) fr0 res held als i o
  aok:AlsOK n0 H als
  alsN:∀ x∈als,¬Dn listed x.1→ρ x.2.1=none
variable {B G n n0:Nat} {P:Program} {ops:Array Oper} {fr0:Fr} {ρ0 ρ:Rn} {w0 w:World} {dn cs:List Nat} {res:T2 AV} {H:Mem} {held:List Nat} {als:Als} {listed:Array Bool} {a:Act}
structure Rd (ops:Array Oper) (listed:Array Bool) (i:Nat) (o:Oper) : Prop where
  at' : ops[i]?=some o
  un:¬Dn listed i
  all:∀ e∈o.after.toList,Region.binds .any e=true→Dn listed e.on
theorem rd_of {i:Nat} (h:i∈Region.ready .any ops listed) : ∃ o,Rd ops listed i o:=by
  obtain ⟨h1,o,h2,h3⟩:=mem_ready.1 h
  refine ⟨o,h2,?_,fun e he hb=>h3 e (Array.mem_toList_iff.1 he) hb⟩
  intro h4
  unfold Dn at h4
  rw [Array.getD_eq_getD_getElem?] at h1 h4
  cases hg:listed[i]? with
  | none=>rw [hg] at h4; cases h4
  | some b=>rw [hg] at h1 h4; simp at h1 h4; rw [h1] at h4; cases h4
theorem Rd.anc {i j:Nat} {o:Oper} (r:Rd ops listed i o) (d:DInv B G n n0 P ops fr0 ρ0 w0 dn cs res H held als listed ρ a w) (h:isAnc (ancs [] ops.toList) i j=true) : Dn listed j :=
  anc_listed (listed:=Dn listed) d.down i o j r.at' r.all h
theorem Rd.not_anc {i j:Nat} {o:Oper} (r:Rd ops listed i o) (d:DInv B G n n0 P ops fr0 ρ0 w0 dn cs res H held als listed ρ a w) (hj:j < ops.size) (h:isAnc (ancs [] ops.toList) j i=true) : ¬Dn listed j:=by
  intro hd
  obtain ⟨oj,hoj⟩ : ∃ oj,ops[j]?=some oj:=⟨ops[j],by simp [hj]⟩
  exact r.un (anc_listed (listed:=Dn listed) d.down j oj i hoj (d.down j oj hd hoj) h)
theorem lt_of_at {i:Nat} {o:Oper} (h:ops[i]?=some o) : i < ops.size:=(Array.getElem?_eq_some_iff.1 h).1
theorem toList_at {i:Nat} {o:Oper} : ops.toList[i]?=some o↔ops[i]?=some o:=by rw [Array.getElem?_toList]
theorem Dn.set {i j:Nat} (h:i < listed.size) : Dn (listed.setIfInBounds i true) j↔j=i∨Dn listed j:=by
  unfold Dn
  rw [Array.getD_eq_getD_getElem?,Array.getD_eq_getD_getElem?,Array.getElem?_setIfInBounds]
  by_cases e:i=j
  · subst e; simp [h]
  · simp [e,Ne.symm e]
theorem env_EvR {i:Nat} {o:Oper} {r0:T2 AV} (d:DInv B G n n0 P ops fr0 ρ0 w0 dn cs res H held als listed ρ a w) (r:Rd ops listed i o) (hg:Gr r0 res) :
    EvR ρ (env ops (ancs [] ops.toList) fr0 r0 i) a.eval:=by
  intro x v hx
  cases x with
  | tmp t =>
    have hx' : envT ops (ancs [] ops.toList) fr0 r0 i t=some v:=hx
    unfold envT at hx'
    split at hx'
    · rename_i hw
      exact d.old t (fun j hj=>by rw [hw] at hj; cases hj) v hx'
    · rename_i j hw
      obtain ⟨_,oj,hoj,hdj⟩:=writer_spec hw
      have hoj' : ops[j]?=some oj:=toList_at.1 (by simpa using hoj)
      split at hx'
      · rename_i ha
        obtain ⟨y,hy,hv⟩:=d.new j oj (r.anc d ha) hoj'
        have:=hg _ _ hx'
        rw [this] at hy; cases hy
        exact hv t hdj
      · split at hx'
        · rename_i ha
          refine d.old t (fun j' hj'=>?_) v hx'
          rw [hw] at hj'; cases hj'
          rcases Bool.or_eq_true _ _ ▸ ha with h1 | h1
          · exact r.not_anc d (lt_of_at hoj') h1
          · have:=Nat.eq_of_beq_eq_true h1
            subst this; exact r.un
        · cases hx'
  | const c=>cases hx; rfl
  | global g=>cases hx; rfl
  | func f=>cases hx; rfl
theorem wantedD_sound {i:Nat} {o:Oper} {r0:T2 AV} {b:Bool} (hfit:fit ops.toList ops.toList 0=true) (hdst:∀ (j:Nat) (o:Oper),ops[j]?=some o→dstOk n o=true)
    (d:DInv B G n n0 P ops fr0 ρ0 w0 dn cs res H held als listed ρ a w) (r:Rd ops listed i o) (hg:Gr r0 res) (h:wantedD (ancs [] ops.toList) r0 i o=some b) :
    Region.wanted o (yielded ops a.tmps)=b:=by
  unfold wantedD at h
  split at h
  · rename_i hn; cases h; simp [Region.wanted,hn]
  · rename_i g hgd
    obtain ⟨j,want⟩:=g
    have hone:=fit_spec hfit i o (toList_at.2 r.at')
    unfold fitOne at hone
    simp only [Bool.and_eq_true] at hone
    have hgo:=hone.2
    rw [hgd] at hgo
    dsimp only at hgo
    split at hgo
    · rename_i oj hoj
      have hoj' : ops[j]?=some oj:=toList_at.1 hoj
      obtain ⟨t,ht⟩:=Option.isSome_iff_exists.1 hgo
      have slot:∀ {v:AV},isAnc (ancs [] ops.toList) i j=true→get2 r0 j=some v→∃ u,a.tmps[t]?=some u∧VR ρ v u:=by
        intro v ha hv
        obtain ⟨y,hy,hv'⟩:=d.new j oj (r.anc d ha) hoj'
        rw [hg _ _ hv] at hy; cases hy
        have hlt:t < n:=dstOk_lt (hdst j oj hoj') t ht
        have hsz:t < a.tmps.size:=Nat.lt_of_lt_of_le hlt d.tsz
        have:=hv' t ht
        refine ⟨a.tmps[t],by simp [hsz],?_⟩
        rw [Array.getD_eq_getD_getElem?] at this
        simpa [hsz] using this
      unfold wantedR at h
      split at h
      · rename_i b' ha hb
        obtain ⟨u,hu,hv⟩:=slot ha hb
        cases hv
        have hyl:yielded ops a.tmps j=some b':=by simp [yielded,hoj',ht,hu]
        simp only [Region.wanted,hgd,hyl]
        revert h
        cases b' <;> cases want <;> simp <;> exact fun h=>h ▸ rfl
      · rename_i vs ha hb
        obtain ⟨u,hu,hv⟩:=slot ha hb
        cases hv
        cases h
        have hyl:yielded ops a.tmps j=none:=by simp [yielded,hoj',ht,hu]
        simp [Region.wanted,hgd,hyl]
      · cases h
    · cases hgo
end Go.Ai
end
section
namespace Go.Ai
open Go.RowKit (Below)
variable {B G n n0:Nat} {P:Program} {ops:Array Oper} {fr0:Fr} {ρ0 ρ:Rn} {w0 w:World} {dn cs:List Nat} {res:T2 AV} {H:Mem} {held:List Nat} {als:Als} {listed:Array Bool} {a:Act}
theorem fitW {i t:Nat} {o:Oper} (hfit:fit ops.toList ops.toList 0=true) (ho:ops[i]?=some o) (hd:o.dst=some t) : writer t ops.toList 0=some i:=by
  have hone:=fit_spec hfit i o (toList_at.2 ho)
  unfold fitOne at hone
  simp only [Bool.and_eq_true] at hone
  have h:=hone.1.1.1
  rw [hd] at h
  dsimp only at h
  split at h
  · rename_i j hj
    rw [hj,← Nat.eq_of_beq_eq_true h,Nat.zero_add]
  · cases h
theorem put_ne {d:Option Tmp} {t:Tmp} {u:Value} (h:d≠some t) : (a.put d u).tmps.getD t undef=a.tmps.getD t undef:=by
  cases d with
  | none=>rfl
  | some d =>
    have hne:d≠t:=fun e=>h (by rw [e])
    show (a.tmps.setIfInBounds d u).getD t undef=_
    rw [Array.getD_eq_getD_getElem?,Array.getD_eq_getD_getElem?,Array.getElem?_setIfInBounds_ne hne]
theorem put_at {t:Tmp} {u:Value} (h:t < a.tmps.size) : (a.put (some t) u).tmps.getD t undef=u:=by
  show (a.tmps.setIfInBounds t u).getD t undef=_
  rw [Array.getD_eq_getD_getElem?,Array.getElem?_setIfInBounds]
  simp [h]
theorem put_size (d:Option Tmp) (u:Value) : (a.put d u).tmps.size=a.tmps.size:=by
  cases d with
  | none=>rfl
  | some d=>show (a.tmps.setIfInBounds d u).size=_; simp
theorem put_defers (d:Option Tmp) (u:Value) : (a.put d u).defers=a.defers:=by cases d <;> rfl
theorem DInv.go {i:Nat} {o:Oper} {ρ' : Rn} {w' : World} {u:Value} {v:AV} {dn' cs' : List Nat} {res' : T2 AV} {H' : Mem} {held' : List Nat} {als' : Als}
    (hfit:fit ops.toList ops.toList 0=true) (hdst:∀ (j:Nat) (o:Oper),ops[j]?=some o→dstOk n o=true)
    (d:DInv B G n n0 P ops fr0 ρ0 w0 dn cs res H held als listed ρ a w) (r:Rd ops listed i o)
    (hext:Ext B n0 ρ w ρ' w') (hsub:Sub ρ ρ') (hs:Sim B G ρ' H' w') (hle:n0≤H'.next) (hgr:Gr res res') (hv:get2 res' i=some v) (hr:VR ρ' v u)
    (hchain:chainOf ops.toList 0=dn'++cs') (hcs:∀ c∈cs',c≠i∧c∈cs)
    (hkn:∀ j oj,j≠i→¬Dn listed j→ops[j]?=some oj→isChain oj.op=false→countAnc (ancs [] ops.toList) j (dn'++cs')≤dn'.length→Known B P ops (ancs [] ops.toList) fr0 res' held' als' j oj)
    (haok:AlsOK n0 H' als') (haln:∀ x∈als',x.1≠i→¬Dn listed x.1→ρ' x.2.1=none) :
    DInv B G n n0 P ops fr0 ρ0 w0 dn' cs' res' H' held' als' (listed.setIfInBounds i true) ρ' (a.put o.dst u) w':=by
  have hi:i < listed.size:=by rw [d.size]; exact lt_of_at r.at'
  have dset:∀ j,Dn (listed.setIfInBounds i true) j↔j=i∨Dn listed j:=fun j=>Dn.set hi
  refine ⟨d.ext.trans hext (Nat.le_refl _),hs,hle,by simp [d.size],by rw [put_size]; exact d.tsz,by rw [put_defers]; exact d.dfr.mono hsub,d.only,hchain,?_,?_,?_,?_,?_,haok,?_⟩
  · intro c hc hd
    rcases (dset c).1 hd with e | h
    · exact (hcs c hc).1 e
    · exact d.csN c (hcs c hc).2 h
  · intro j oj hj hoj e he hb
    rcases (dset j).1 hj with e1 | h
    · subst e1
      rw [r.at'] at hoj; cases hoj
      exact (dset _).2 (.inr (r.all e he hb))
    · exact (dset _).2 (.inr (d.down j oj h hoj e he hb))
  · intro t ht y hy
    have hne:o.dst≠some t:=fun e=>ht i (fitW hfit r.at' e) ((dset i).2 (.inl rfl))
    rw [put_ne hne]
    exact (d.old t (fun j hj hd=>ht j hj ((dset j).2 (.inr hd))) y hy).mono hsub
  · intro j oj hj hoj
    by_cases e:j=i
    · subst e
      rw [r.at'] at hoj; cases hoj
      refine ⟨v,hv,fun t ht=>?_⟩
      have hlt:t < a.tmps.size:=Nat.lt_of_lt_of_le (dstOk_lt (hdst j _ r.at') t ht) d.tsz
      rw [ht,put_at hlt]; exact hr
    · rcases (dset j).1 hj with e1 | h
      · exact absurd e1 e
      · obtain ⟨y,h1,h2⟩:=d.new j oj h hoj
        refine ⟨y,hgr _ _ h1,fun t ht=>?_⟩
        have hne:o.dst≠some t:=by
          intro e1
          have h3:=fitW hfit r.at' e1
          rw [fitW hfit hoj ht] at h3
          exact e (Option.some.inj h3)
        rw [put_ne hne]
        exact (h2 t ht).mono hsub
  · intro j oj hj hoj hc hcnt
    exact hkn j oj (fun e=>hj ((dset j).2 (.inl e))) (fun h=>hj ((dset j).2 (.inr h))) hoj hc hcnt
  · intro x hx hd
    exact haln x hx (fun e=>hd ((dset _).2 (.inl e))) (fun h=>hd ((dset _).2 (.inr h)))
end Go.Ai
end
section
namespace Go.Ai
open Go.RowKit (Below)
variable {B G n n0:Nat} {P:Program} {ops:Array Oper} {fr0:Fr} {ρ0 ρ:Rn} {w0 w:World} {dn cs:List Nat} {res:T2 AV} {H:Mem} {held:List Nat} {als:Als} {listed:Array Bool} {a:Act} {callf:CallF}
theorem Sim.named (s:Sim B G ρ H w) {nm:Nat} {x:Blk} {ob:Obj} {k:Nat} {w' : World} (hx:H.get nm=some x) (hn:ρ nm=Option.none) (hlt:nm < H.next) (hG:G≤nm) (hw:w'.heap=w.heap.push ob)
    (hb:BR B (upd ρ nm (w.heap.size,0,k)) x w.heap.size 0 k w') : Sim B G (upd ρ nm (w.heap.size,0,k)) H w':=by
  have hsub:=sub_upd (x:=(w.heap.size,0,k)) hn
  have old:∀ j y b o k',H.get j=some y→ρ j=some (b,o,k')→b≠w.heap.size∧w'.heap[b]?=w.heap[b]?:=by
    intro j y b o k' hj hr
    have hlt:=(s.at hj hr).lt
    exact ⟨by omega,by rw [hw,Array.getElem?_push,if_neg (by omega)]⟩
  refine ⟨?_,?_,?_,?_,s.names,by rw [hw]; simp; exact Nat.le_succ_of_le s.base⟩
  · intro j y hy
    by_cases e:j=nm
    · subst e
      rw [hx] at hy; cases hy
      exact .inr ⟨_,_,_,upd_same _ _ _,hb⟩
    · rw [upd_ne _ _ e]
      rcases s.blk j y hy with h | ⟨b',o',k',hr,hb'⟩
      · exact .inl h
      · exact .inr ⟨b',o',k',hr,hb'.mono hsub (old j y b' o' k' hy hr).2⟩
  · intro j j' y y' b1 o1 k1 o2 k2 h h' hne ho hr hr'
    by_cases e:j=nm
    · subst e
      rw [upd_same] at hr; cases hr
      rw [upd_ne _ _ (Ne.symm hne)] at hr'
      exact (old j' y' _ _ _ h' hr').1 rfl
    · rw [upd_ne _ _ e] at hr
      by_cases e' : j'=nm
      · subst e'
        rw [upd_same] at hr'; cases hr'
        exact (old j y _ _ _ h hr).1 rfl
      · rw [upd_ne _ _ e'] at hr'
        exact s.inj j j' y y' b1 o1 k1 o2 k2 h h' hne ho hr hr'
  · intro j hj
    rw [upd_ne _ _ (by omega)]
    exact s.fresh j hj
  · intro j y hj hy
    rw [upd_ne _ _ (by omega)]
    exact s.glob j y hj hy
theorem not_select {op:Op} (h:cls op≠.no) : ∀ cs b,op≠.select cs b:=by
  rintro c b rfl
  exact h rfl
theorem quiet_opV {ev:Ev} {o:Oper} {v:AV} (h:cls o.op=.read) (hq:quiet P H ev o=some v) : opV P H ev o=.val v H:=by
  unfold quiet at hq
  rw [h] at hq
  dsimp only at hq
  split at hq
  · rename_i v' H' hv
    cases hq
    rw [hv,read_keeps h hv]
  · cases hq
structure GInv (B G n n0:Nat) (P:Program) (callf:CallF) (ops:Array Oper) (fr0:Fr) (ρ0:Rn) (w0:World) (out:Out) (listed:Array Bool) (a:Act) (w:World) : Prop where
  go:∃ dn cs res H held als ρ,DInv B G n n0 P ops fr0 ρ0 w0 dn cs res H held als listed ρ a w∧(∀ c∈dn,Dn listed c)∧(∀ x∈als,G≤x.2.1) ∧
    gate P callf ops (ancs [] ops.toList) fr0 (dn++cs) dn.length cs res H held als=out
theorem gate_ok {tab:List Nat} {all:List Nat} {k:Nat} {out:Out} (h:gate P callf ops tab fr0 all k cs res H held als=out) (hne:out≠.bad) :
    recheck P ops tab fr0 res H held=true∧stays H als=true∧nxt P callf ops tab fr0 all k cs res H held als=out:=by
  unfold gate at h
  split at h
  · rename_i hb
    rw [Bool.and_eq_true] at hb
    exact ⟨hb.1,hb.2,h⟩
  · exact absurd h.symm hne
theorem fit_no (hfit:fit ops.toList ops.toList 0=true) {i:Nat} {o:Oper} (ho:ops[i]?=some o) : cls o.op≠.no:=by
  have hone:=fit_spec hfit i o (toList_at.2 ho)
  unfold fitOne at hone
  simp only [Bool.and_eq_true] at hone
  have h:=hone.1.1.2
  intro e
  rw [e] at h
  cases h
theorem fit_after (hfit:fit ops.toList ops.toList 0=true) {i:Nat} {o:Oper} (ho:ops[i]?=some o) : ∀ e∈o.after.toList,Region.binds .any e=true→e.on < i:=by
  have hone:=fit_spec hfit i o (toList_at.2 ho)
  unfold fitOne at hone
  simp only [Bool.and_eq_true] at hone
  have h:=hone.1.2
  intro e he hb
  have:=List.all_eq_true.1 h e he
  rw [hb,Nat.zero_add] at this
  exact Nat.le_of_ble_eq_true this
theorem quiet_step {i:Nat} {o:Oper} {out:Out} (hG:G=P.globals.size) (hfit:fit ops.toList ops.toList 0=true) (hdst:∀ (j:Nat) (o:Oper),ops[j]?=some o→dstOk n o=true)
    (hne:out≠.bad) (hGn:∀ x∈als,G≤x.2.1) (d:DInv B G n n0 P ops fr0 ρ0 w0 dn cs res H held als listed ρ a w) (hdl:∀ c∈dn,Dn listed c)
    (hg:gate P callf ops (ancs [] ops.toList) fr0 (dn++cs) dn.length cs res H held als=out) (r:Rd ops listed i o) (hc:isChain o.op=false)
    {K:Act→World→Prop} (hK:∀ a' w',GInv B G n n0 P callf ops fr0 ρ0 w0 out (listed.setIfInBounds i true) a' w'→K a' w') :
    wpOp P ops (OutPost B G n n0 ρ0 w0 out) i K a w:=by
  obtain ⟨hre,hst,_⟩:=gate_ok hg hne
  have hcnt:countAnc (ancs [] ops.toList) i (dn++cs)≤dn.length:=by
    refine countAnc_le fun c hcm=>?_
    cases hb:isAnc (ancs [] ops.toList) i c with
    | false=>rfl
    | true=>exact absurd (r.anc d hb) (d.csN c hcm)
  obtain ⟨r0,v,hgr,hv,hk⟩:=d.known i o r.un r.at' hc hcnt
  have hno:=fit_no hfit r.at'
  have hci:∀ c∈cs,c≠i∧c∈cs:=by
    intro c hcm
    refine ⟨?_,hcm⟩
    rintro rfl
    have hmem:c∈chainOf ops.toList 0:=by rw [d.chain]; simp [hcm]
    obtain ⟨_,o',ho',hch⟩:=mem_chainOf.1 hmem
    have h2:ops[c]?=some o':=toList_at.1 (by simpa using ho')
    rw [r.at'] at h2; cases h2
    rw [hc] at hch; cases hch
  have fin' : ∀ (ρ' : Rn) (u:Value) (w' : World),Ext B n0 ρ w ρ' w'→Sub ρ ρ'→Sim B G ρ' H w'→VR ρ' v u→(∀ x∈als,x.1≠i→¬Dn listed x.1→ρ' x.2.1=none)→K (a.put o.dst u) w':=by
    intro ρ' u w' he hsub hs hvr haln
    refine hK _ _ ⟨dn,cs,res,H,held,als,ρ',?_,fun c hc'=>(Dn.set (by rw [d.size]; exact lt_of_at r.at')).2 (.inr (hdl c hc')),hGn,hg⟩
    exact d.go hfit hdst r he hsub hs d.le (Gr.refl _) hv hvr d.chain hci (fun j oj _ hj hoj hcj hn=>d.known j oj hj hoj hcj hn) d.aok haln
  have hev:=env_EvR d r hgr
  have base:=fun b hb=>wantedD_sound (b:=b) hfit hdst d r hgr hb
  unfold wpOp
  rw [r.at']
  dsimp only
  rcases hk with ⟨hw,rfl⟩ | ⟨hw,hk⟩
  · rw [if_neg (by rw [base _ hw]; simp)]
    exact fin' ρ undef w (Ext.refl _ _ _ _) (Sub.refl _) d.sim rfl (fun x hx _ hd=>d.alsN x hx hd)
  · rw [if_pos (base _ hw)]
    left
    have val:RS B G P ρ H w (.val v H) (execOp a.eval o)→o.wp P a w K (OutPost B G n n0 ρ0 w0 out):=by
      rintro ⟨ρ',u,w',h1,h2,h3,h4,_⟩
      unfold Oper.wp
      rw [h1]
      refine fin' ρ' u w' ⟨fun x hx=>h2.same x (Nat.lt_of_lt_of_le hx d.le),h2.below⟩ (h2.sub d.sim) h3 h4 fun x hx _ hd=>?_
      rw [h2.same _ (d.aok.hi x hx)]
      exact d.alsN x hx hd
    rcases hk with ⟨_,hfree⟩ | ⟨_,hgen⟩ | ⟨hcl,hh⟩ | ⟨f,x,nm,hnd,rfl,hmem⟩
    · have:=opV_sound (o:=o) d.sim hev hG
      rw [hfree H] at this
      exact val this
    · have:=s_gen (B:=B) (G:=G) (P:=P) (H:=H) d.sim hev (not_select hno)
      rw [hgen] at this
      exact val this
    · obtain ⟨o',v',ho',hv',hq⟩:=recheck_spec hre i hh
      rw [r.at'] at ho'; cases ho'
      rw [hv] at hv'; cases hv'
      have hev':=env_EvR d r (Gr.refl res)
      have:=opV_sound (o:=o) d.sim hev' hG
      rw [quiet_opV hcl hq] at this
      exact val this
    · have hnm:=d.alsN _ hmem r.un
      have hget:=stays_spec hst i nm x hmem
      obtain ⟨ob,k,u,w',h1,h2,h3,h4,h5,h6⟩:=hnd ρ w a.eval hev d.sim.base
      obtain ⟨hb,hvr⟩:=h6 nm hnm
      have hlo:n0≤nm:=d.aok.lo _ hmem
      have hhi:nm < H.next:=d.aok.hi _ hmem
      unfold Oper.wp
      rw [h1]
      refine fin' _ u w' ?_ (sub_upd hnm) (d.sim.named hget hnm hhi (hGn _ hmem) h2 hb) hvr fun y hy hyi hyd=>?_
      · exact ⟨fun y hy=>upd_ne _ _ (Nat.ne_of_lt (Nat.lt_of_lt_of_le hy hlo)),(Ext.alloc ρ n0 (w.heap.size,0,k) w w' ob h2 h3 h4 h5 d.sim.base).below⟩
      · have:y.2.1≠nm:=by
          intro e
          have:=d.aok.own y hy _ hmem e
          exact hyi (by rw [this])
        rw [upd_ne _ _ this]
        exact d.alsN y hy hyd
theorem Fr.get_clear (fr:Fr) (t:Nat) : fr.clear.get t=none:=by
  have key:get2 (e2:T2 AV) t=none:=get2_e2 t
  cases fr <;> exact key
theorem Fr.defers_clear (fr:Fr) : fr.clear.defers=fr.defers:=by cases fr <;> rfl
theorem act_step {i:Nat} {o:Oper} {out:Out} (hok:CallOK B G P callf) (hG:G=P.globals.size) (hord:ordered (ancs [] ops.toList) (chainOf ops.toList 0)=true) (hfit:fit ops.toList ops.toList 0=true)
    (hdst:∀ (j:Nat) (o:Oper),ops[j]?=some o→dstOk n o=true)
    (hne:out≠.bad) (hGn:∀ x∈als,G≤x.2.1) (d:DInv B G n n0 P ops fr0 ρ0 w0 dn cs res H held als listed ρ a w) (hdl:∀ c∈dn,Dn listed c)
    (hg:gate P callf ops (ancs [] ops.toList) fr0 (dn++cs) dn.length cs res H held als=out) (r:Rd ops listed i o) (hc:isChain o.op=true)
    {K:Act→World→Prop} (hK:∀ a' w',GInv B G n n0 P callf ops fr0 ρ0 w0 out (listed.setIfInBounds i true) a' w'→K a' w') :
    wpOp P ops (OutPost B G n n0 ρ0 w0 out) i K a w:=by
  obtain ⟨hre,hst,hn⟩:=gate_ok hg hne
  have hmem:i∈dn++cs:=by
    rw [← d.chain]
    exact mem_chainOf.2 ⟨Nat.zero_le _,o,by simpa using r.at',hc⟩
  rcases List.mem_append.1 hmem with h | hics
  · exact absurd (hdl i h) r.un
  cases cs with
  | nil=>cases hics
  | cons c cs =>
  have hic:i=c:=by
    rcases List.mem_cons.1 hics with h | h
    · exact h
    · obtain ⟨p,hp,ha⟩:=ordered_next (dn:=dn) (c:=c) (cs:=cs) (by rw [← d.chain]; exact hord) i h
      exact absurd (r.anc d ha) (d.csN p hp)
  subst hic
  have hi:i < listed.size:=by rw [d.size]; exact lt_of_at r.at'
  have hnd:(dn++i :: cs)=(dn++[i])++cs:=by simp
  have hcs:∀ c∈cs,c≠i∧c∈i :: cs:=by
    intro c hcm
    refine ⟨?_,List.mem_cons_of_mem _ hcm⟩
    rintro rfl
    obtain ⟨p,hp,ha⟩:=ordered_next (dn:=dn) (c:=c) (cs:=cs) (by rw [← d.chain]; exact hord) c hcm
    exact absurd (r.anc d ha) (d.csN p hp)
  have nxt' : ∀ (v:AV) (H' : Mem) (ρ' : Rn) (u:Value) (w' : World) (res' : T2 AV),Gr res res'→get2 res' i=some v→Ext B H.next ρ w ρ' w'→Sim B G ρ' H' w'→VR ρ' v u→H.next≤H'.next →
      stages P callf ops (ancs [] ops.toList) fr0 (dn++i :: cs) (dn.length+1) cs res' H' (still (ancs [] ops.toList) i held) (stillA (ancs [] ops.toList) i als)=out→K (a.put o.dst u) w':=by
    intro v H' ρ' u w' res' hgr hv he hs hvr hle hst'
    rw [stages_eq] at hst'
    obtain ⟨res2,H2,held2,als2,h1,f⟩:=stage_sound (B:=B) (stageOf (ancs [] ops.toList) (dn++i :: cs) (dn.length+1) ops.toList 0) res' H' _ _ (by
      intro j hj
      obtain ⟨_,oj,hoj,hcj,_⟩:=mem_stageOf.1 hj
      have hoj' : ops[j]?=some oj:=toList_at.1 (by simpa using hoj)
      exact ⟨oj,hoj',hcj,fit_no hfit hoj'⟩) hst' hne
    have hlen:(dn++[i]).length=dn.length+1:=by simp
    refine hK _ _ ⟨dn++[i],cs,res2,H2,held2,als2,ρ',?_,?_,?_,?_⟩
    · refine d.go hfit hdst r ⟨fun x hx=>he.same x (Nat.lt_of_lt_of_le hx d.le),he.below⟩ (he.sub d.sim) (f.ph.sim hs) (Nat.le_trans d.le (Nat.le_trans hle f.ph.le)) (hgr.trans f.gr) (f.gr _ _ hv) hvr
        (by rw [d.chain,hnd]) hcs ?_ ?_ ?_
      · intro j oj hji hjn hoj hcj hcnt
        rw [hlen,← hnd] at hcnt
        rcases Nat.lt_or_ge (countAnc (ancs [] ops.toList) j (dn++i :: cs)) (dn.length+1) with h | h
        · have hna:isAnc (ancs [] ops.toList) i j=false:=by
            cases hb:isAnc (ancs [] ops.toList) i j with
            | false=>rfl
            | true=>exact absurd (r.anc d hb) hjn
          exact (d.known j oj hjn hoj hcj (by omega)).mono (hgr.trans f.gr) (fun h=>f.keepH _ (mem_still hna h)) fun nm x h=>f.keepA _ (mem_stillA hna h)
        · exact f.known j (mem_stageOf.2 ⟨Nat.zero_le _,oj,by simpa using hoj,hcj,by omega⟩) oj hoj
      · exact f.ok n0 (Nat.le_trans d.le hle) (d.aok.sub (fun x hx=>stillA_sub x hx) hle)
      · intro x hx hxi hxn
        rcases f.new x hx with h | h
        · have hx':=stillA_sub x h
          rw [he.same _ (d.aok.hi x hx')]
          exact d.alsN x hx' hxn
        · exact hs.fresh _ h
    · intro c hcm
      rcases List.mem_append.1 hcm with h | h
      · exact (Dn.set hi).2 (.inr (hdl c h))
      · simp at h; exact (Dn.set hi).2 (.inl h)
    · intro x hx
      rcases f.new x hx with h | h
      · exact hGn x (stillA_sub x h)
      · exact Nat.le_trans hs.names h
    · rw [hlen,← hnd]; exact h1
  have hev:=env_EvR d r (Gr.refl res)
  have base:=fun b hb=>wantedD_sound (b:=b) hfit hdst d r (Gr.refl res) hb
  unfold wpOp
  rw [r.at']
  dsimp only
  unfold nxt act at hn
  dsimp only at hn
  rw [r.at'] at hn
  dsimp only at hn
  split at hn
  · rename_i hw
    rw [if_neg (by rw [base _ hw]; simp)]
    obtain ⟨res',h1,h2,h3⟩:=setRes_ok hn hne
    exact nxt' _ H ρ undef w res' h2 h3 (Ext.refl _ _ _ _) d.sim rfl (Nat.le_refl _) h1
  · rename_i hw
    rw [if_pos (base _ hw)]
    left
    have hrs:=opV_sound (o:=o) d.sim hev hG
    unfold Oper.wp
    split at hn
    · rename_i v H' hr
      rw [hr] at hrs
      obtain ⟨ρ',u,w',h1,h2,h3,h4,h5⟩:=hrs
      rw [h1]
      obtain ⟨res',g1,g2,g3⟩:=setRes_ok hn hne
      exact nxt' v H' ρ' u w' res' g2 g3 h2 h3 h4 h5 g1
    · rename_i H' hr
      rw [hr] at hrs
      obtain ⟨ρ',w',h1,h2,h3,h5⟩:=hrs
      rw [h1]
      obtain ⟨res',g1,g2,g3⟩:=setRes_ok hn hne
      exact nxt' _ H' ρ' undef w' res' g2 g3 h2 h3 rfl h5 g1
    · rename_i f args H' hr
      rw [hr] at hrs
      obtain ⟨us,h1,h2,rfl⟩:=hrs
      rw [h1]
      have hcall:=hok f args H'
      split at hn
      · rename_i v H2 hcr
        have:=hcall (by rw [hcr]; simp) ρ us w d.sim h2
        rw [hcr] at this
        refine this.mono fun e w' he=>?_
        obtain ⟨res',g1,g2,g3⟩:=setRes_ok hn hne
        cases e with
        | returned u =>
          obtain ⟨ρ',k1,k2,k3,k4⟩:=he
          exact nxt' v H2 ρ' u w' res' g2 g3 k1 k2 k3 k4 g1
        | panicked chain=>exact he.elim
        | outgrown=>exact he.elim
      · rename_i v H2 hcr
        have:=hcall (by rw [hcr]; simp) ρ us w d.sim h2
        rw [hcr] at this
        refine this.mono fun e w' he=>?_
        cases e with
        | returned u=>exact he.elim
        | panicked chain =>
          obtain ⟨ρ',u,g0,g1,g2,g3,g4⟩:=he
          subst hn
          refine ⟨ρ',u,g0,g1,?_,g3,?_,Nat.le_trans d.le g4⟩
          · exact d.ext.trans ⟨fun x hx=>g2.same x (Nat.lt_of_lt_of_le hx d.le),g2.below⟩ (Nat.le_refl _)
          · exact ⟨(fun t v hv _=>(by rw [Fr.get_clear] at hv; cases hv)),(by rw [Fr.defers_clear]; exact d.dfr.mono (g2.sub d.sim)),d.tsz,(fun t v hv=>(by rw [Fr.get_clear] at hv; cases hv))⟩
        | outgrown=>exact he.elim
      · exact absurd hn.symm hne
    · exact absurd hn.symm hne
  · exact absurd hn.symm hne
end Go.Ai
end
section
namespace Go.Ai
open Go.RowKit (Below)
variable {B G n n0:Nat} {P:Program} {ops:Array Oper} {fr0:Fr} {ρ0 ρ:Rn} {w0 w:World} {dn cs:List Nat} {res:T2 AV} {H:Mem} {held:List Nat} {als:Als} {listed:Array Bool} {a:Act} {callf:CallF}
theorem fin_sound {H:Mem} {res:T2 AV} {out:Out} (hne:out≠.bad) : ∀ (l:List Oper) (i:Nat) (fr:Fr),fin res H l i fr=out →
    ∃ fr',out=.norm fr' H∧fr'.defers=fr.defers∧∀ t v,fr'.get t=some v→(∃ j o,l[j]?=some o∧o.dst=some t∧get2 res (i+j)=some v)∨((∀ o∈l,o.dst≠some t)∧fr.get t=some v)
  | [],i,fr,h=>⟨fr,h.symm,rfl,fun t v hv=>.inr ⟨(fun _ h=>(by cases h)),hv⟩⟩
  | o :: l,i,fr,h=>by
    unfold fin at h
    split at h
    · rename_i v hv
      rw [Fr.putK_eq] at h
      obtain ⟨fr',h1,h2,h3⟩:=fin_sound hne l (i+1) _ h
      refine ⟨fr',h1,?_,?_⟩
      · rw [h2]
        unfold Fr.put
        cases o.dst with
        | none=>rfl
        | some d=>exact Fr.defers_upd _ _ _
      · intro t y hy
        rcases h3 t y hy with ⟨j,oj,hj,hd,hr⟩ | ⟨hd,hg⟩
        · exact .inl ⟨j+1,oj,by simpa using hj,hd,by rw [← hr]; congr 1; omega⟩
        · cases hdo:o.dst with
          | none =>
            rw [hdo] at hg
            exact .inr ⟨fun o' ho' => by rcases List.mem_cons.1 ho' with rfl | h; · rw [hdo]; simp
                                         exact hd o' h,hg⟩
          | some d =>
            rw [hdo] at hg
            have hg' : (fr.upd d v).get t=some y:=hg
            rcases Fr.get_upd hg' with ⟨rfl,rfl⟩ | ⟨hne2,hg'⟩
            · exact .inl ⟨0,o,rfl,hdo,hv⟩
            · refine .inr ⟨fun o' ho'=>?_,hg'⟩
              rcases List.mem_cons.1 ho' with rfl | h
              · rw [hdo]; intro e; exact hne2 (Option.some.inj e).symm
              · exact hd o' h
    · exact absurd h.symm hne
theorem all_done (hfit:fit ops.toList ops.toList 0=true) (hsz:listed.size=ops.size) (hr:Region.ready .any ops listed=[]) : ∀ i,i < ops.size→Dn listed i:=by
  intro i
  induction i using Nat.strongRecOn with
  | _ i ih =>
    intro hi
    rcases Classical.em (Dn listed i) with h | h
    · exact h
    · exfalso
      have hmem:i∈Region.ready .any ops listed:=by
        refine mem_ready.2 ⟨?_,ops[i],by simp [hi],fun e he hb=>?_⟩
        · unfold Dn at h
          rw [Array.getD_eq_getD_getElem?] at h ⊢
          have:i < listed.size:=by omega
          simp [this] at h ⊢; exact h
        · have hlt:=fit_after hfit (i:=i) (o:=ops[i]) (by simp [hi]) e (Array.mem_toList_iff.2 he) hb
          exact ih e.on hlt (by omega)
      rw [hr] at hmem
      cases hmem
theorem done_post {out:Out} (hfit:fit ops.toList ops.toList 0=true) (hne:out≠.bad) (hr:Region.ready .any ops listed=[]) (g:GInv B G n n0 P callf ops fr0 ρ0 w0 out listed a w)
    (hdst:∀ (j:Nat) (o:Oper),ops[j]?=some o→dstOk n o=true) : OutPost B G n n0 ρ0 w0 out .normal a w:=by
  obtain ⟨dn,cs,res,H,held,als,ρ,d,hdl,hGn,hg⟩:=g.go
  have hall:=all_done hfit d.size hr
  obtain ⟨_,_,hn⟩:=gate_ok hg hne
  cases cs with
  | cons c cs =>
    exfalso
    refine d.csN c (by simp) (hall c ?_)
    have hmem:c∈chainOf ops.toList 0:=by rw [d.chain]; simp
    obtain ⟨_,o,ho,_⟩:=mem_chainOf.1 hmem
    exact lt_of_at (toList_at.1 (by simpa using ho))
  | nil =>
    have hn' : fin res H ops.toList 0 fr0=out:=hn
    obtain ⟨fr',h1,h2,h3⟩:=fin_sound hne ops.toList 0 fr0 hn'
    subst h1
    have key:∀ t v,fr'.get t=some v→t < n∧VR ρ v (a.tmps.getD t undef):=by
      intro t v hv
      rcases h3 t v hv with ⟨j,o,hj,hd,hrs⟩ | ⟨hd,hg0⟩
      · have hj' : ops[j]?=some o:=toList_at.1 hj
        rw [Nat.zero_add] at hrs
        obtain ⟨y,hy,hv'⟩:=d.new j o (hall j (lt_of_at hj')) hj'
        rw [hrs] at hy; cases hy
        exact ⟨dstOk_lt (hdst j o hj') t hd,hv' t hd⟩
      · refine ⟨d.only t v hg0,d.old t (fun j hj=>?_) v hg0⟩
        obtain ⟨_,o,ho,hdo⟩:=writer_spec hj
        exact absurd hdo (hd o (List.mem_of_getElem? ho))
    exact ⟨ρ,d.ext,d.sim,⟨fun t v hv _=>(key t v hv).2,by rw [h2]; exact d.dfr,d.tsz,fun t v hv=>(key t v hv).1⟩,d.le⟩
theorem wpAny_go {out:Out} (hok:CallOK B G P callf) (hG:G=P.globals.size) (hord:ordered (ancs [] ops.toList) (chainOf ops.toList 0)=true) (hfit:fit ops.toList ops.toList 0=true)
    (hdst:∀ (j:Nat) (o:Oper),ops[j]?=some o→dstOk n o=true) (hne:out≠.bad) : ∀ (fuel:Nat) (listed:Array Bool) (a:Act) (w:World),
    (∃ l:List Nat,l.Nodup∧l.length=fuel∧∀ i,i < ops.size→Dn listed i∨i∈l)→GInv B G n n0 P callf ops fr0 ρ0 w0 out listed a w →
    wpAny P .any ops (OutPost B G n n0 ρ0 w0 out) fuel listed a w:=by
  intro fuel
  induction fuel with
  | zero =>
    rintro listed a w ⟨l,_,hl,hc⟩ g
    have hnil:l=[]:=List.length_eq_zero_iff.1 hl
    subst hnil
    have hr:Region.ready .any ops listed=[]:=by
      cases hx:Region.ready .any ops listed with
      | nil=>rfl
      | cons i is =>
        exfalso
        obtain ⟨o,ro⟩:=rd_of (ops:=ops) (listed:=listed) (i:=i) (by rw [hx]; simp)
        rcases hc i (lt_of_at ro.at') with h | h
        · exact ro.un h
        · cases h
    exact ⟨hr,done_post hfit hne hr g hdst⟩
  | succ fuel ih =>
    rintro listed a w ⟨l,hnd,hl,hc⟩ g
    refine ⟨fun hr=>done_post hfit hne hr g hdst,fun i hi=>?_⟩
    obtain ⟨o,ro⟩:=rd_of hi
    obtain ⟨dn,cs,res,H,held,als,ρ,d,hdl,hGn,hg⟩:=g.go
    have hil:i∈l:=(hc i (lt_of_at ro.at')).resolve_left ro.un
    have hsz:i < listed.size:=by rw [d.size]; exact lt_of_at ro.at'
    have hK:∀ a' w',GInv B G n n0 P callf ops fr0 ρ0 w0 out (listed.setIfInBounds i true) a' w'→wpAny P .any ops (OutPost B G n n0 ρ0 w0 out) fuel (listed.setIfInBounds i true) a' w':=by
      intro a' w' g'
      refine ih _ a' w' ⟨l.erase i,hnd.erase i,by rw [List.length_erase_of_mem hil]; omega,fun j hj=>?_⟩ g'
      rcases hc j hj with h | h
      · exact .inl ((Dn.set hsz).2 (.inr h))
      · by_cases e:j=i
        · exact .inl ((Dn.set hsz).2 (.inl e))
        · exact .inr ((List.mem_erase_of_ne e).2 h)
    cases hch:isChain o.op with
    | false=>exact quiet_step hG hfit hdst hne hGn d hdl hg ro hch hK
    | true=>exact act_step hok hG hord hfit hdst hne hGn d hdl hg ro hch hK
theorem drawn_sound {id:Nat} (hok:CallOK B G P callf) (hG:G=P.globals.size) (s:St B G n n0 ρ0 w0 ρ fr0 H a w) (hd:dstsOk n (.region id ops true)=true)
    (hne:drawn P callf ops fr0 H≠.bad) : (Code.region id ops true).wp P (OutPost B G n n0 ρ0 w0 (drawn P callf ops fr0 H)) a w:=by
  have hout:∃ out,drawn P callf ops fr0 H=out:=⟨_,rfl⟩
  obtain ⟨out,hout⟩:=hout
  rw [hout] at hne ⊢
  unfold drawn at hout
  split at hout
  · rename_i hp
    rw [Bool.and_eq_true] at hp
    obtain ⟨hplan,hmix⟩:=hp
    unfold planOk at hplan
    simp only [Bool.and_eq_true] at hplan
    obtain ⟨⟨_,hord⟩,hfit⟩:=hplan
    have hdst:∀ (j:Nat) (o:Oper),ops[j]?=some o→dstOk n o=true:=fun j o hj=>List.all_eq_true.1 hd o (List.mem_of_getElem? (toList_at.2 hj))
    refine wp_region_any hmix ?_
    have un:∀ i,¬Dn (Array.replicate ops.size false) i:=by
      intro i hi
      unfold Dn at hi
      rw [Array.getD_eq_getD_getElem?,Array.getElem?_replicate] at hi
      split at hi <;> cases hi
    refine wpAny_go (fr0:=fr0) (ρ0:=ρ0) (w0:=w0) hok hG hord hfit hdst hne ops.size _ a _ ⟨List.range ops.size,List.nodup_range,by simp,fun i hi=>.inr (by simpa using hi)⟩ ?_
    rw [stages_eq] at hout
    obtain ⟨res2,H2,held2,als2,h1,f⟩:=stage_sound (B:=B) (stageOf (ancs [] ops.toList) (chainOf ops.toList 0) 0 ops.toList 0) e2 H [] [] (by
      intro j hj
      obtain ⟨_,oj,hoj,hcj,_⟩:=mem_stageOf.1 hj
      have hoj' : ops[j]?=some oj:=toList_at.1 (by simpa using hoj)
      exact ⟨oj,hoj',hcj,fit_no hfit hoj'⟩) hout hne
    have hs:Sim B G ρ H { w with drawn:=w.drawn+1 }:=s.sim.heap rfl
    have hb:Below B w { w with drawn:=w.drawn+1 }:=⟨rfl,rfl,rfl,Nat.le_refl _,fun _ _=>rfl⟩
    refine ⟨[],chainOf ops.toList 0,res2,H2,held2,als2,ρ,?_,(fun _ h=>(by cases h)),?_,h1⟩
    refine ⟨s.ext.trans ⟨fun _ _=>rfl,hb⟩ (Nat.le_refl _),f.ph.sim hs,Nat.le_trans s.le f.ph.le,by simp,s.frel.size,s.frel.dfr,s.frel.only,rfl,fun c _=>un c,fun i _ h=>absurd h (un i),
      fun t _ v hv=>s.frel.slot t v hv (s.frel.only t v hv),fun j _ h=>absurd h (un j),?_,f.ok n0 s.le (AlsOK.nil _ _),?_⟩
    · intro i o _ ho hc hcnt
      exact f.known i (mem_stageOf.2 ⟨Nat.zero_le _,o,by simpa using ho,hc,by simpa using hcnt⟩) o ho
    · intro x hx _
      rcases f.new x hx with h | h
      · cases h
      · exact hs.fresh _ h
    · intro x hx
      rcases f.new x hx with h | h
      · cases h
      · exact Nat.le_trans hs.names h
  · exact absurd hout.symm hne
end Go.Ai
end
section
namespace Go.Ai
open Go.RowKit (Below)
variable {B G:Nat} {P:Program} {n n0:Nat} {ρ0 ρ:Rn} {w0 w:World} {fr:Fr} {H:Mem} {a:Act}
def LW (P:Program) (c:Code) (Q:Exit→Act→World→Prop) (a:Act) (w:World) : Prop :=
  ∀ (b:Frame) (k:List Item) (cs:List Frame),∃ e a' w',Q e a' w'∧Arrives P (lone (b.at a (.code c :: .inLoop c :: k)) cs w) b k cs e a' w'
theorem LW.wp {c:Code} {Q:Exit→Act→World→Prop} (h:LW P c Q a w) : (Code.loop c).wp P Q a w :=
  fun b k cs=>let ⟨e,a',w',q,r⟩:=h b k cs; ⟨e,a',w',q,.of_steps (.one step_loop) r⟩
theorem LW.unroll {c:Code} {Q:Exit→Act→World→Prop} (h:c.wp P (Exit.then (LW P c Q) Q) a w) : LW P c Q a w:=by
  intro b k cs
  obtain ⟨e,a₁,w₁,hq,harr⟩:=h b (.inLoop c :: k) cs
  cases e with
  | normal =>
    obtain ⟨e₂,a₂,w₂,hq₂,harr₂⟩:=hq b k cs
    exact ⟨e₂,a₂,w₂,hq₂,.of_steps (Steps.trans harr (.one step_inLoop)) harr₂⟩
  | exit id=>exact ⟨_,a₁,w₁,hq,.pass (x:=.inLoop c) rfl (fun _ _=>.inl (by simp)) harr⟩
  | goto l=>exact ⟨_,a₁,w₁,hq,.pass (x:=.inLoop c) rfl (fun _ _=>.inl (by simp)) harr⟩
  | ret=>exact ⟨_,a₁,w₁,hq,.pass (x:=.inLoop c) rfl (fun _ _=>.inl (by simp)) harr⟩
  | panic ch=>exact ⟨_,a₁,w₁,hq,.pass (x:=.inLoop c) rfl (fun _ _=>.inl (by simp)) harr⟩
  | outgrown=>exact ⟨_,a₁,w₁,hq,.pass (x:=.inLoop c) rfl (fun _ _=>.inl (by simp)) harr⟩
def Good (B G:Nat) (P:Program) (callf:CallF) (loopf:LoopF) (c:Code) : Prop :=
  ∀ (n n0:Nat) (ρ0:Rn) (w0:World) (ρ:Rn) (fr:Fr) (H:Mem) (a:Act) (w:World),dstsOk n c=true→St B G n n0 ρ0 w0 ρ fr H a w→exec P callf loopf c fr H≠.bad →
    c.wp P (OutPost B G n n0 ρ0 w0 (exec P callf loopf c fr H)) a w
def LoopOK (B G:Nat) (P:Program) (loopf:LoopF) : Prop :=
  ∀ (b:Code) (n n0:Nat) (ρ0:Rn) (w0:World) (ρ:Rn) (fr:Fr) (H:Mem) (a:Act) (w:World),dstsOk n b=true→St B G n n0 ρ0 w0 ρ fr H a w→loopf (.loop b) fr H≠.bad →
    LW P b (OutPost B G n n0 ρ0 w0 (loopf (.loop b) fr H)) a w
theorem thenO_post {r:Out} {k:Fr→Mem→Out} {K:Act→World→Prop} (hne:thenO r k≠.bad)
    (hk:∀ (fr' : Fr) (H' : Mem) (ρ' : Rn) (a' : Act) (w' : World),r=.norm fr' H'→St B G n n0 ρ0 w0 ρ' fr' H' a' w'→k fr' H'≠.bad→K a' w') :
    ∀ e a' w',OutPost B G n n0 ρ0 w0 r e a' w'→Exit.then K (OutPost B G n n0 ρ0 w0 (thenO r k)) e a' w':=by
  intro e a' w' h
  cases r with
  | norm fr' H' =>
    cases e with
    | normal=>obtain ⟨ρ',s'⟩:=h; exact hk fr' H' ρ' a' w' rfl s' hne
    | _=>exact h.elim
  | exit id fr' H'=>cases e <;> first | exact h.elim | exact h
  | ret fr' H'=>cases e <;> first | exact h.elim | exact h
  | panic v fr' H'=>cases e <;> first | exact h.elim | exact h
  | bad=>exact absurd rfl hne
theorem good_loop {callf:CallF} {loopf:LoopF} {b:Code} (hl:LoopOK B G P loopf) (hb:Good B G P callf loopf b) (n n0:Nat) (ρ0:Rn) (w0:World) (ρ:Rn) (fr:Fr) (H:Mem) (a:Act) (w:World)
    (hd:dstsOk n b=true) (s:St B G n n0 ρ0 w0 ρ fr H a w) (hne:exec P callf loopf (.loop b) fr H≠.bad) : LW P b (OutPost B G n n0 ρ0 w0 (exec P callf loopf (.loop b) fr H)) a w:=by
  have he:exec P callf loopf (.loop b) fr H=thenO (exec P callf loopf b fr H) (loopf (.loop b)):=rfl
  rw [he] at hne ⊢
  have hr:exec P callf loopf b fr H≠.bad:=fun h=>hne (by rw [h]; rfl)
  refine LW.unroll (Code.wp_mono (thenO_post hne fun fr' H' ρ' a' w' hr' s' hk=>?_) (hb n n0 ρ0 w0 ρ fr H a w hd s hr))
  rw [hr']
  exact hl b n n0 ρ0 w0 ρ' fr' H' a' w' hd s' hk
theorem exec_sound {callf:CallF} {loopf:LoopF} (hc:CallOK B G P callf) (hl:LoopOK B G P loopf) (hG:G=P.globals.size) : ∀ c:Code,Good B G P callf loopf c:=by
  intro c
  induction c with
  | skip=>intro n n0 ρ0 w0 ρ fr H a w hd s hne; exact wp_skip ⟨ρ,s⟩
  | region id ops draw =>
    intro n n0 ρ0 w0 ρ fr H a w hd s hne
    cases draw with
    | false =>
      refine wp_region_list (seqOps_sound hc hG hne ops.toList fr H ρ a w ?_ s rfl)
      exact fun o ho=>List.all_eq_true.1 hd o ho
    | true=>exact drawn_sound hc hG s hd hne
  | seq x y ihx ihy =>
    intro n n0 ρ0 w0 ρ fr H a w hd s hne
    have he:exec P callf loopf (.seq x y) fr H=thenO (exec P callf loopf x fr H) (exec P callf loopf y):=rfl
    rw [he] at hne ⊢
    simp only [dstsOk,Bool.and_eq_true] at hd
    have hr:exec P callf loopf x fr H≠.bad:=fun h=>hne (by rw [h]; rfl)
    refine wp_seq (Code.wp_mono (thenO_post hne fun fr' H' ρ' a' w' hr' s' hk=>?_) (ihx n n0 ρ0 w0 ρ fr H a w hd.1 s hr))
    rw [hr']
    exact ihy n n0 ρ0 w0 ρ' fr' H' a' w' hd.2 s' hk
  | cond cnd x y ihx ihy =>
    intro n n0 ρ0 w0 ρ fr H a w hd s hne
    have he:exec P callf loopf (.cond cnd x y) fr H=condO (fr.ev cnd) (exec P callf loopf x) (exec P callf loopf y) fr H:=rfl
    rw [he] at hne ⊢
    simp only [dstsOk,Bool.and_eq_true] at hd
    unfold condO at hne ⊢
    split at hne
    · rename_i hev
      have:=s.ev _ _ hev
      exact wp_cond_true this (ihx n n0 ρ0 w0 ρ fr H a w hd.1 s hne)
    · rename_i hev
      have:=s.ev _ _ hev
      exact wp_cond_false this (ihy n n0 ρ0 w0 ρ fr H a w hd.2 s hne)
    · exact absurd rfl hne
  | block id b ih =>
    intro n n0 ρ0 w0 ρ fr H a w hd s hne
    have he:exec P callf loopf (.block id b) fr H=blockO id (exec P callf loopf b fr H):=rfl
    rw [he] at hne ⊢
    have hr:exec P callf loopf b fr H≠.bad:=fun h=>hne (by rw [h]; rfl)
    refine wp_block (Code.wp_mono ?_ (ih n n0 ρ0 w0 ρ fr H a w hd s hr))
    intro e a' w' h
    generalize exec P callf loopf b fr H=r at h hne ⊢
    cases r with
    | norm fr' H'=>cases e <;> first | exact h.elim | exact h
    | exit id' fr' H' =>
      cases e with
      | exit id2 =>
        obtain ⟨rfl,ρ',s'⟩:=h
        unfold blockO
        dsimp only
        split
        · rename_i hb
          have:=Nat.eq_of_beq_eq_true hb
          subst this
          simp only [Exit.inBlock,if_true]
          exact ⟨ρ',s'⟩
        · rename_i hb
          have hne2:id2≠id:=by intro h0; subst h0; simp at hb
          simp only [Exit.inBlock,hne2,if_false]
          exact ⟨rfl,ρ',s'⟩
      | _=>exact h.elim
    | ret fr' H'=>cases e <;> first | exact h.elim | exact h
    | panic v fr' H'=>cases e <;> first | exact h.elim | exact h
    | bad=>exact absurd rfl hne
  | loop b ih =>
    intro n n0 ρ0 w0 ρ fr H a w hd s hne
    exact (good_loop hl ih n n0 ρ0 w0 ρ fr H a w hd s hne).wp
  | rangeFunc f ps x y ihx ihy=>intro n n0 ρ0 w0 ρ fr H a w hd s hne; exact absurd rfl hne
  | exit id=>intro n n0 ρ0 w0 ρ fr H a w hd s hne; exact wp_exit ⟨rfl,ρ,s⟩
  | scope b ih=>intro n n0 ρ0 w0 ρ fr H a w hd s hne; exact absurd rfl hne
  | label l=>intro n n0 ρ0 w0 ρ fr H a w hd s hne; exact wp_label ⟨ρ,s⟩
  | goto l=>intro n n0 ρ0 w0 ρ fr H a w hd s hne; exact absurd rfl hne
  | ret=>intro n n0 ρ0 w0 ρ fr H a w hd s hne; exact wp_ret ⟨ρ,s⟩
  | refuse why=>intro n n0 ρ0 w0 ρ fr H a w hd s hne; exact absurd rfl hne
end Go.Ai
end
section
namespace Go.Ai
open Go.RowKit (Below)
variable {B G:Nat} {P:Program} {n n0:Nat} {ρ0 ρ:Rn} {w0 w:World} {fr:Fr} {H:Mem} {a:Act}
noncomputable def putArgs:List AV→Fr→Nat→Fr
  | [],fr,_=>fr
  | v :: l,fr,i=>putArgs l (fr.upd i v) (i+1)
theorem putArgsK_eq {β:Type} (l:List AV) (fr:Fr) (K:Fr→β) : putArgsK l fr K=K (putArgs l fr 0):=by
  have:∀ (fr:Fr) (i:Nat),List.rec (motive:=fun _=>Fr→Nat→β) (fun fr _=>K fr) (fun v _ ih fr i=>fr.set i v fun fr=>ih fr (Nat.succ i)) l fr i=K (putArgs l fr i):=by
    induction l with
    | nil=>intro fr i; rfl
    | cons v l ih=>intro fr i; show fr.set i v _=_; rw [Fr.set_eq,ih]; rfl
  exact this fr 0
theorem putArgs_get:∀ (l:List AV) (fr:Fr) (i t:Nat) (v:AV),(putArgs l fr i).get t=some v→(i≤t∧l[t - i]?=some v)∨fr.get t=some v
  | [],fr,i,t,v,h=>.inr h
  | x :: l,fr,i,t,v,h=>by
    rcases putArgs_get l (fr.upd i x) (i+1) t v h with ⟨h1,h2⟩ | h1
    · left
      refine ⟨by omega,?_⟩
      rw [show t - i=(t - (i+1))+1 by omega]; simpa using h2
    · rcases Fr.get_upd h1 with ⟨rfl,rfl⟩ | ⟨_,h2⟩
      · left; simp
      · exact .inr h2
theorem putArgs_defers:∀ (l:List AV) (fr:Fr) (i:Nat),(putArgs l fr i).defers=fr.defers
  | [],fr,i=>rfl
  | x :: l,fr,i=>by rw [putArgs,putArgs_defers l,Fr.defers_upd]
theorem frame_entered {args:List AV} {us:Array Value} (hv:VRs ρ args us.toList) (hle:args.length≤n) :
    FRel n ρ (putArgs args (frame0 n) 0) { tmps:=us++Array.replicate (n - us.size) undef,defers:=[] }:=by
  have hsz:us.size=args.length:=by have:=hv.length; simpa using this
  have hget:∀ t v,(putArgs args (frame0 n) 0).get t=some v→args[t]?=some v:=by
    intro t v h
    rcases putArgs_get _ _ _ _ _ h with ⟨_,h1⟩ | h1
    · simpa using h1
    · rw [get_frame0] at h1; cases h1
  refine ⟨?_,?_,by simp; omega,?_⟩
  · intro t v h _
    obtain ⟨u,hu,hvu⟩:=hv.get t (hget t v h)
    have hlt:t < us.size:=by have:=(List.getElem?_eq_some_iff.1 hu).1; simpa using this
    rw [Array.getD_eq_getD_getElem?,Array.getElem?_append_left hlt]
    have:us[t]?=some u:=by simpa using hu
    rw [this]; exact hvu
  · rw [putArgs_defers,defers_frame0]; rfl
  · intro t v h
    have:=(List.getElem?_eq_some_iff.1 (hget t v h)).1
    omega
def rvRun (tmps:Array Value) (r:ResultVar) : Sem Value:=match r with
  | .tmp t=>pure (tmps.getD t undef)
  | .cell x t=>do loadVar t (← asAddr (tmps.getD x undef))
theorem results_eq (fn:Func) (tmps:Array Value) : results fn tmps=(do
    let vs ← fn.results.mapM (rvRun tmps)
    pure (if h:vs.size=1 then vs[0] else .tuple vs)):=rfl
theorem resVar_sound {r:ResultVar} {v:AV} (s:St B G n n0 ρ0 w0 ρ fr H a w) (hG:G=P.globals.size) (h:resVar P fr H r=some v) :
    ∃ u,(rvRun a.tmps r).run P w=.ok u w∧VR ρ v u:=by
  cases r with
  | tmp t =>
    have h' : fr.get t=some v:=h
    exact ⟨_,rfl,s.frel.slot t v h' (s.frel.only t v h')⟩
  | cell x t =>
    have h' : (match fr.get x with | some p=>load P H t p | none=>none)=some v:=h
    split at h'
    · rename_i p hp
      have hv:=s.frel.slot x p hp (s.frel.only x p hp)
      obtain ⟨r,hr,hvr⟩:=load_sound s.sim hG h' hv
      refine ⟨r,?_,hvr⟩
      have hptr:∃ ad,a.tmps.getD x undef=.pointer (some ad):=by
        unfold load at h'
        split at h'
        · obtain ⟨b,o,k,_,hu⟩:=hv; exact ⟨_,hu⟩
        · exact ⟨_,hv⟩
        · cases h'
      obtain ⟨ad,had⟩:=hptr
      show (do loadVar t (← asAddr (a.tmps.getD x undef)) : Sem Value).run P w=_
      rw [had] at hr ⊢
      simpa [Instr.loadAt,Instr.sureAddr,asAddr] using hr
    · cases h'
theorem resVars_sound (s:St B G n n0 ρ0 w0 ρ fr H a w) (hG:G=P.globals.size) : ∀ {l:List ResultVar} {vs:List AV},resVars P fr H l=some vs →
    ∃ us:List Value,(l.mapM (rvRun a.tmps)).run P w=.ok us w∧VRs ρ vs us
  | [],vs,h=>by cases h; exact ⟨[],rfl,rfl⟩
  | r :: l,vs,h=>by
    simp only [resVars] at h
    split at h
    · rename_i v hv
      split at h
      · rename_i ws hw
        cases h
        obtain ⟨u,hu,hvu⟩:=resVar_sound s hG hv
        obtain ⟨us,hus,hvs⟩:=resVars_sound s hG hw
        refine ⟨u :: us,?_,_,_,rfl,hvu,hvs⟩
        rw [List.mapM_cons]
        simp [hu,hus]
      · cases h
    · cases h
theorem results_sound {fn:Func} {v:AV} (s:St B G n n0 ρ0 w0 ρ fr H a w) (hG:G=P.globals.size) (h:resultsA P fn fr H=some v) : ∃ u,(results fn a.tmps).run P w=.ok u w∧VR ρ v u:=by
  unfold resultsA at h
  have base:∀ {vs:List AV},resVars P fr H fn.results.toList=some vs→∃ us:List Value,VRs ρ vs us∧(results fn a.tmps).run P w=.ok (if h:us.toArray.size=1 then us.toArray[0] else .tuple us.toArray) w:=by
    intro vs hvs
    obtain ⟨us,hus,hv⟩:=resVars_sound s hG hvs
    refine ⟨us,hv,?_⟩
    rw [results_eq,Array.mapM_eq_mapM_toList]
    simp [hus]
  split at h
  · rename_i v' hvs
    cases h
    obtain ⟨us,hv,hr⟩:=base hvs
    obtain ⟨u,hu,hvu⟩:=hv.one
    subst hu
    exact ⟨u,by simpa using hr,hvu⟩
  · rename_i vs hne hvs
    cases h
    obtain ⟨us,hv,hr⟩:=base hvs
    have hlen:=hv.length
    have h1:¬(us.toArray.size=1):=by
      intro h1
      cases vs with
      | nil=>simp at hlen; simp [hlen] at h1
      | cons x l=>cases l with
        | nil=>exact hne x rfl
        | cons y l=>simp at h1 hlen; omega
    rw [dif_neg h1] at hr
    exact ⟨_,hr,_,rfl,by simpa using hv⟩
  · cases h
end Go.Ai
end
section
namespace Go.Ai
open Go.RowKit (Below)
variable {B G:Nat} {P:Program} {n n0:Nat} {ρ0 ρ:Rn} {w0 w:World} {fr:Fr} {H:Mem} {a:Act}
def MR (ρ:Rn) : Mode→FrameMode→Prop
  | .returning,m=>m=.returning
  | .panicking v,m=>∃ u,m=.panicking [{ v:=u,recovered:=false }]∧VR ρ v u
  | .recovered v,m=>∃ u,m=.panicking [{ v:=u,recovered:=true }]∧VR ρ v u
theorem MR.mono {ρ ρ' : Rn} (h:Sub ρ ρ') {u:Mode} {m:FrameMode} (k:MR ρ u m) : MR ρ' u m:=by
  cases u with
  | returning=>exact k
  | panicking v=>obtain ⟨x,e,r⟩:=k; exact ⟨x,e,r.mono h⟩
  | recovered v=>obtain ⟨x,e,r⟩:=k; exact ⟨x,e,r.mono h⟩
def OutPostD (B G n n0:Nat) (ρ0:Rn) (w0:World) (c₀:Frame) (cs:List Frame) (out:OutD) : Exit→Act→List Frame→World→Prop:=fun e a' cs' w' =>
  match out,e with
  | .norm fr u H,.normal=>∃ ρ' m,cs' = { c₀ with mode:=m } :: cs∧MR ρ' u m∧St B G n n0 ρ0 w0 ρ' fr H a' w'
  | .ret fr u H,.ret=>∃ ρ' m,cs' = { c₀ with mode:=m } :: cs∧MR ρ' u m∧St B G n n0 ρ0 w0 ρ' fr H a' w'
  | _,_=>False
theorem liftD_sound {callf:CallF} {loopf:LoopF} (hc:CallOK B G P callf) (hl:LoopOK B G P loopf) (hG:G=P.globals.size) (c:Code) {c₀:Frame} {cs:List Frame} {u:Mode} {m:FrameMode}
    (hd:dstsOk n c=true) (s:St B G n n0 ρ0 w0 ρ fr H a w) (hm:MR ρ u m) (hne:liftD u (exec P callf loopf c fr H)≠.bad) :
    c.wpS P (OutPostD B G n n0 ρ0 w0 c₀ cs (liftD u (exec P callf loopf c fr H))) a ({ c₀ with mode:=m } :: cs) w:=by
  have hr:exec P callf loopf c fr H≠.bad:=fun h=>hne (by rw [h]; rfl)
  have s1:St B G n H.next ρ w ρ fr H a w:=⟨Ext.refl _ _ _ _,s.sim,s.frel,Nat.le_refl _⟩
  have key:=exec_sound hc hl hG c n H.next ρ w ρ fr H a w hd s1 hr
  refine wpS_of_wp (Code.wp_mono ?_ key)
  intro e a' w' h
  have up:∀ {ρ' : Rn} {fr' : Fr} {H' : Mem},St B G n H.next ρ w ρ' fr' H' a' w'→MR ρ' u m∧St B G n n0 ρ0 w0 ρ' fr' H' a' w':=fun {ρ' fr' H'} s' =>
    ⟨hm.mono (s'.ext.sub s.sim),s.ext.trans s'.ext s.le,s'.sim,s'.frel,Nat.le_trans s.le s'.le⟩
  generalize exec P callf loopf c fr H=r at h hne ⊢
  cases r with
  | norm fr' H'=>cases e <;> first | exact h.elim | (obtain ⟨ρ',s'⟩:=h; exact ⟨ρ',m,rfl,(up s').1,(up s').2⟩)
  | ret fr' H'=>cases e <;> first | exact h.elim | (obtain ⟨ρ',s'⟩:=h; exact ⟨ρ',m,rfl,(up s').1,(up s').2⟩)
  | exit id fr' H'=>exact absurd rfl hne
  | panic v fr' H'=>exact absurd rfl hne
  | bad=>exact absurd rfl hne
theorem seqOpsD_sound {callf:CallF} {ops:Array Oper} (hc:CallOK B G P callf) (hG:G=P.globals.size) {c₀:Frame} {cs:List Frame} {out:OutD} (hne:out≠.bad) : ∀ (l:List Oper) (k:Nat) (fr:Fr) (u:Mode) (H:Mem) (ρ:Rn) (m:FrameMode) (a:Act) (w:World),
    (∀ j,l[j]?=ops[k+j]?)→(∀ o∈l,dstOk n o=true)→St B G n n0 ρ0 w0 ρ fr H a w→MR ρ u m→seqOpsD P callf ops l fr u H=out →
    wpOpsS P ops (OutPostD B G n n0 ρ0 w0 c₀ cs out) (List.range' k l.length) a ({ c₀ with mode:=m } :: cs) w
  | [],k,fr,u,H,ρ,m,a,w,_,_,s,hm,h=>by
    have:OutD.norm fr u H=out:=h
    subst this
    exact ⟨ρ,m,rfl,hm,s⟩
  | o :: l,k,fr,u,H,ρ,m,a,w,hi,hd,s,hm,h=>by
    have h0:ops[k]?=some o:=by simpa using (hi 0).symm
    have hdo:=hd o (by simp)
    have hdl:=dstOk_lt hdo
    have hk:∀ (fr' : Fr) (u' : Mode) (H' : Mem) (ρ' : Rn) (m' : FrameMode) (a' : Act) (w' : World),St B G n n0 ρ0 w0 ρ' fr' H' a' w'→MR ρ' u' m'→seqOpsD P callf ops l fr' u' H'=out →
        wpOpsS P ops (OutPostD B G n n0 ρ0 w0 c₀ cs out) (List.range' (k+1) l.length) a' ({ c₀ with mode:=m' } :: cs) w' :=
      fun fr' u' H' ρ' m' a' w' s' hm' hk=>seqOpsD_sound hc hG hne l (k+1) fr' u' H' ρ' m' a' w' (fun j=>by have:=hi (j+1); simpa [Nat.add_assoc,Nat.add_comm 1 j] using this) (fun o ho=>hd o (by simp [ho])) s' hm' hk
    simp only [List.length_cons,List.range'_succ,wpOpsS,h0]
    simp only [seqOpsD] at h
    have run:Region.wanted o (yielded ops a.tmps)=true→afterD callf o fr u (seqOpsD P callf ops l) H (opV P H fr.ev o)=out →
        (if Region.wanted o (yielded ops a.tmps) then
          match (execOp a.eval o).run P w with
          | .ok .recover w' =>
            match recoverD ({ c₀ with mode:=m } :: cs) with
            | some (v,cs')=>wpOpsS P ops (OutPostD B G n n0 ρ0 w0 c₀ cs out) (List.range' (k+1) l.length) (a.put o.dst v) cs' w'
            | none=>wpOpsS P ops (OutPostD B G n n0 ρ0 w0 c₀ cs out) (List.range' (k+1) l.length) (a.put o.dst .nilIface) ({ c₀ with mode:=m } :: cs) w'
          | r=>o.upon P a (fun a' w'=>wpOpsS P ops (OutPostD B G n n0 ρ0 w0 c₀ cs out) (List.range' (k+1) l.length) a' ({ c₀ with mode:=m } :: cs) w') (fun e a' w'=>OutPostD B G n n0 ρ0 w0 c₀ cs out e a' ({ c₀ with mode:=m } :: cs) w') r
        else wpOpsS P ops (OutPostD B G n n0 ρ0 w0 c₀ cs out) (List.range' (k+1) l.length) (a.put o.dst undef) ({ c₀ with mode:=m } :: cs) w):=by
      intro hw hout
      rw [if_pos hw]
      have hrs:=opV_sound (o:=o) s.sim s.ev hG
      unfold afterD at hout
      cases hr:opV P H fr.ev o with
      | val v H' =>
        rw [hr] at hrs hout
        obtain ⟨ρ',x,w',h1,h2,h3,h4,h5⟩:=hrs
        rw [h1]
        dsimp only at hout
        rw [Fr.putK_eq] at hout
        exact hk _ _ _ _ _ _ _ (s.step h2 h3 h4 h5 hdl) (hm.mono (h2.sub s.sim)) hout
      | skip H' =>
        rw [hr] at hrs hout
        obtain ⟨ρ',w',h1,h2,h3,h5⟩:=hrs
        rw [h1]
        dsimp only at hout
        rw [Fr.putK_eq] at hout
        exact hk _ _ _ _ _ _ _ (s.step h2 h3 (undef_VR _) h5 hdl) (hm.mono (h2.sub s.sim)) hout
      | enter f args H' =>
        rw [hr] at hrs hout
        obtain ⟨us,h1,h2,rfl⟩:=hrs
        rw [h1]
        dsimp only at hout
        cases hcall:callf f args H' with
        | bad=>rw [hcall] at hout; exact absurd hout.symm hne
        | panic v H2=>rw [hcall] at hout; exact absurd hout.symm hne
        | ret v H2 =>
          rw [hcall] at hout
          dsimp only at hout
          rw [Fr.putK_eq] at hout
          have:=hc f args H' (by rw [hcall]; simp) ρ us w s.sim h2
          rw [hcall] at this
          refine this.mono fun e w' he=>?_
          cases e with
          | returned x =>
            obtain ⟨ρ',g1,g2,g3,g4⟩:=he
            exact hk _ _ _ _ _ _ _ (s.step g1 g2 g3 g4 hdl) (hm.mono (g1.sub s.sim)) hout
          | panicked chain=>exact he.elim
          | outgrown=>exact he.elim
      | recover =>
        rw [hr] at hrs hout
        have h1:(execOp a.eval o).run P w=.ok .recover w:=hrs
        rw [h1]
        dsimp only at hout ⊢
        cases u with
        | returning =>
          cases hm
          dsimp only [recoverD]
          dsimp only at hout
          rw [Fr.putK_eq] at hout
          exact hk _ .returning H ρ .returning _ _ ⟨s.ext,s.sim,s.frel.put hdl (show VR ρ (.lit .nilIface) .nilIface from rfl),s.le⟩ rfl hout
        | panicking v =>
          obtain ⟨x,rfl,hx⟩:=hm
          dsimp only [recoverD]
          dsimp only at hout
          rw [Fr.putK_eq] at hout
          exact hk _ (.recovered v) H ρ (.panicking [{ v:=x,recovered:=true }]) _ _ ⟨s.ext,s.sim,s.frel.put hdl hx,s.le⟩ (show MR ρ (.recovered v) _ from ⟨x,rfl,hx⟩) hout
        | recovered v =>
          obtain ⟨x,rfl,hx⟩:=hm
          dsimp only [recoverD]
          dsimp only at hout
          rw [Fr.putK_eq] at hout
          exact hk _ (.recovered v) H ρ (.panicking [{ v:=x,recovered:=true }]) _ _ ⟨s.ext,s.sim,s.frel.put hdl (show VR ρ (.lit .nilIface) .nilIface from rfl),s.le⟩ (show MR ρ (.recovered v) _ from ⟨x,rfl,hx⟩) hout
      | dfr fn cap args H'=>rw [hr] at hout; exact absurd hout.symm hne
      | panic v H'=>rw [hr] at hout; exact absurd hout.symm hne
      | bad=>rw [hr] at hout; exact absurd hout.symm hne
    cases hg:o.guard with
    | none =>
      rw [hg] at h
      exact run (by simp [Region.wanted,hg]) h
    | some g =>
      rw [hg] at h
      dsimp only at h
      cases hw:wantedG ops fr g with
      | none=>rw [hw] at h; exact absurd h.symm hne
      | some b =>
        rw [hw] at h
        have hwb:=wantedG_sound s hg hw
        cases b with
        | true=>exact run hwb h
        | false =>
          rw [if_neg (by rw [hwb]; simp)]
          dsimp only at h
          rw [Fr.putK_eq] at h
          exact hk _ _ _ _ _ _ _ ⟨s.ext,s.sim,s.frel.put hdl (undef_VR _),s.le⟩ hm h
theorem execD_sound {callf:CallF} {loopf:LoopF} (hc:CallOK B G P callf) (hl:LoopOK B G P loopf) (hG:G=P.globals.size) {c₀:Frame} {cs:List Frame} : ∀ (c:Code) (ρ:Rn) (fr:Fr) (u:Mode) (H:Mem) (m:FrameMode) (a:Act) (w:World),
    dstsOk n c=true→St B G n n0 ρ0 w0 ρ fr H a w→MR ρ u m→execD P callf loopf c fr u H≠.bad →
    c.wpS P (OutPostD B G n n0 ρ0 w0 c₀ cs (execD P callf loopf c fr u H)) a ({ c₀ with mode:=m } :: cs) w:=by
  intro c
  induction c with
  | seq x y ihx ihy =>
    intro ρ fr u H m a w hd s hm hne
    simp only [dstsOk,Bool.and_eq_true] at hd
    simp only [execD] at hne ⊢
    have hr:execD P callf loopf x fr u H≠.bad:=fun h=>hne (by rw [h])
    refine wpS_seq ?_
    have key:=ihx ρ fr u H m a w hd.1 s hm hr
    intro b k hb hro
    obtain ⟨e,a',cs',w',hq,harr⟩:=key b k hb hro
    refine ⟨e,a',cs',w',?_,harr⟩
    generalize hgen:execD P callf loopf x fr u H=r at hq hne ⊢
    cases r with
    | norm fr' u' H' =>
      cases e with
      | normal =>
        obtain ⟨ρ',m',rfl,hm',s'⟩:=hq
        exact ihy ρ' fr' u' H' m' a' w' hd.2 s' hm' hne
      | _=>exact hq.elim
    | ret fr' u' H'=>cases e <;> first | exact hq.elim | exact hq
    | bad=>exact absurd rfl hne
  | cond cnd x y ihx ihy =>
    intro ρ fr u H m a w hd s hm hne
    simp only [dstsOk,Bool.and_eq_true] at hd
    simp only [execD] at hne ⊢
    split at hne
    · rename_i hev
      have:=s.ev _ _ hev
      exact wpS_cond (t:=true) this (ihx ρ fr u H m a w hd.1 s hm hne)
    · rename_i hev
      have:=s.ev _ _ hev
      exact wpS_cond (t:=false) this (ihy ρ fr u H m a w hd.2 s hm hne)
    · exact absurd rfl hne
  | region id ops draw =>
    intro ρ fr u H m a w hd s hm hne
    cases draw with
    | true=>exact liftD_sound hc hl hG (.region id ops true) hd s hm hne
    | false =>
      refine wpS_region ?_
      have:=seqOpsD_sound (c₀:=c₀) (cs:=cs) hc hG hne ops.toList 0 fr u H ρ m a w (fun j=>by simp) (fun o ho=>List.all_eq_true.1 hd o ho) s hm rfl
      rw [List.range_eq_range']
      simpa using this
  | _=>intro ρ fr u H m a w hd s hm hne; exact liftD_sound hc hl hG _ hd s hm hne
end Go.Ai
end
section
namespace Go.Ai
open Go.RowKit (Below)
variable {B G:Nat} {P:Program} {n n0:Nat} {ρ0 ρ:Rn} {w0 w:World} {fr:Fr} {H:Mem} {a:Act}
theorem leave_sound {callf:CallF} {loopf:LoopF} {fn:Func} (hc:CallOK B G P callf) (hl:LoopOK B G P loopf) (hG:G=P.globals.size) {out:COut} (hne:out≠.bad) : ∀ (l:List Dfr) (ds:List Deferred) (u:Mode) (H:Mem) (ρ:Rn) (m:FrameMode) (w:World),
    DR ρ l ds→St B G n n0 ρ0 w0 ρ fr H a w→MR ρ u m→leave P callf loopf fn fr l u H=out→Leaves P fn a.tmps (CPost B G n0 ρ0 w0 out) ds m w
  | [],ds,u,H,ρ,m,w,hd,s,hm,h=>by
    cases hd
    cases u with
    | returning =>
      cases hm
      simp only [leave] at h
      split at h
      · rename_i v hv
        subst h
        obtain ⟨x,hx,hvx⟩:=results_sound s hG hv
        exact ⟨x,hx,ρ,s.ext,s.sim,hvx,s.le⟩
      · exact absurd h.symm hne
    | panicking v =>
      obtain ⟨x,rfl,hx⟩:=hm
      simp only [leave] at h
      subst h
      exact ⟨ρ,x,rfl,hx,s.ext,s.sim,s.le⟩
    | recovered v=>simp only [leave] at h; exact absurd h.symm hne
  | (fx,cap,args) :: l,ds,u,H,ρ,m,w,hd,s,hm,h=>by
    obtain ⟨cs,as,ds',rfl,hcap,hargs,hd'⟩:=hd
    cases fx with
    | func f =>
      simp only [leave] at h
      unfold leaveF at h
      split at h
      · rename_i g hg
        split at h
        · rename_i c hbody hhas
          split at h
          · rename_i hdst hlen
            rw [putArgsK_eq] at h
            have hrun:m≠.run:=by
              cases u with
              | returning=>cases hm; simp
              | panicking v=>obtain ⟨x,rfl,_⟩:=hm; simp
              | recovered v=>obtain ⟨x,rfl,_⟩:=hm; simp
            have hva:VRs ρ (args++cap) (as++cs).toList:=by simpa using hargs.append hcap
            refine ⟨hrun,.func f,cs,f,as++cs,rfl,?_,?_⟩
            · show (callFunc f (as++cs)).run P w=_
              exact hasBody_run hhas _ w
            · refine callsD_of_wpS hg hbody fun c₀ cs0 hmode=>?_
              have hfe:=frame_entered (n:=g.ntmps) hva (by rw [← len_eq]; exact Nat.le_of_ble_eq_true hlen)
              have s1:St B G g.ntmps H.next ρ w ρ (putArgs (args++cap) (frame0 g.ntmps) 0) H { tmps:=(as++cs)++Array.replicate (g.ntmps - (as++cs).size) undef,defers:=[] } w:=⟨Ext.refl _ _ _ _,s.sim,hfe,Nat.le_refl _⟩
              have hr:execD P callf loopf c (putArgs (args++cap) (frame0 g.ntmps) 0) u H≠.bad:=fun h0=>by
                rw [h0] at h; exact hne h.symm
              have hc0:({ c₀ with mode:=m } : Frame)=c₀:=by subst hmode; rfl
              have key:=execD_sound (c₀:=c₀) (cs:=cs0) hc hl hG c ρ _ u H m _ w hdst s1 hm hr
              rw [hc0] at key
              intro b k hb hro
              obtain ⟨e,a',cs',w',hq,harr⟩:=key b k hb hro
              refine ⟨e,a',cs',w',?_,harr⟩
              have fin:∀ {fr' : Fr} {u' : Mode} {H' : Mem} {ρ' : Rn} {m' : FrameMode},cs' = { c₀ with mode:=m' } :: cs0→MR ρ' u' m'→St B G g.ntmps H.next ρ w ρ' fr' H' a' w' →
                  (match fr'.defers,resultsA P g fr' H',u' with
                    | [],some _,.recovered _=>leave P callf loopf fn fr l .returning H'
                    | [],some _,.returning=>leave P callf loopf fn fr l .returning H'
                    | [],some _,.panicking v=>leave P callf loopf fn fr l (.panicking v) H'
                    | _,_,_=>COut.bad)=out →
                  a'.defers=[]∧∃ u2,cs' = { c₀ with mode:=u2 } :: cs0∧∃ v,(results g a'.tmps).run P w'=.ok v w'∧Leaves P fn a.tmps (CPost B G n0 ρ0 w0 out) ds' (settle u2) w':=by
                intro fr' u' H' ρ' m' hcs hm' s' hmatch
                have sub:=s'.ext.sub s.sim
                have hs2:St B G n n0 ρ0 w0 ρ' fr H' a w':=⟨s.ext.trans s'.ext s.le,s'.sim,s.frel.mono sub,Nat.le_trans s.le s'.le⟩
                have hdr:=hd'.mono sub
                have hdf:fr'.defers=[]→a'.defers=[]:=fun h0=>by have:=s'.frel.dfr; rw [h0] at this; exact this
                split at hmatch
                · rename_i v x h1 h2
                  obtain ⟨y,hy,_⟩:=results_sound s' hG h2
                  obtain ⟨z,rfl,hz⟩:=hm'
                  exact ⟨hdf h1,_,hcs,y,hy,leave_sound hc hl hG hne l ds' .returning H' ρ' .returning w' hdr hs2 rfl hmatch⟩
                · rename_i v h1 h2
                  obtain ⟨y,hy,_⟩:=results_sound s' hG h2
                  cases hm'
                  exact ⟨hdf h1,_,hcs,y,hy,leave_sound hc hl hG hne l ds' .returning H' ρ' .returning w' hdr hs2 rfl hmatch⟩
                · rename_i v x h1 h2
                  obtain ⟨y,hy,_⟩:=results_sound s' hG h2
                  obtain ⟨z,rfl,hz⟩:=hm'
                  exact ⟨hdf h1,_,hcs,y,hy,leave_sound hc hl hG hne l ds' (.panicking _) H' ρ' (.panicking [{ v:=z,recovered:=false }]) w' hdr hs2 ⟨z,rfl,hz⟩ hmatch⟩
                · exact absurd hmatch.symm hne
              generalize execD P callf loopf c (putArgs (args++cap) (frame0 g.ntmps) 0) u H=r at hq h
              cases r with
              | norm fr' u' H' =>
                cases e with
                | normal=>obtain ⟨ρ',m',hcs,hm',s'⟩:=hq; exact fin hcs hm' s' h
                | _=>exact hq.elim
              | ret fr' u' H' =>
                cases e with
                | ret=>obtain ⟨ρ',m',hcs,hm',s'⟩:=hq; exact fin hcs hm' s' h
                | _=>exact hq.elim
              | bad=>exact hq.elim
          · exact absurd h.symm hne
        · exact absurd h.symm hne
      · exact absurd h.symm hne
    | _=>simp only [leave] at h; exact absurd h.symm hne
end Go.Ai
end
