/- A small verified interpreter over names, its proofs, and what was proved with it. No condition. -/
import Derived.Test.YtiddfilinnbhaaaGreatDoorRows
import Derived.WalkKit
import Derived.Shelf.RegionOpenPlain
import Derived.Lib.UnsafeStr
import Derived.Lib.Builder
import Derived.Lib.Strings
import Derived.Test.YtiddfilinnbhaaaGreatDoorB09
import Derived.Test.YtiddfilinnbhaaaGreatDoorB08
import Derived.Test.YtiddfilinnbhaaaGreatDoorB05
import Derived.Test.YtiddfilinnbhaaaGreatDoorB06
set_option linter.all false
set_option linter.deprecated false
section
namespace Go.Ai
open Go.Proofs
set_option maxRecDepth 10000
set_option maxHeartbeats 40000000
theorem stood92:Tryz.prog.stoodInHeld 92=false:=by kernel_rfl
theorem equal_int {P:Program} {d:Nat} {t:TypeId} {k:IntKind} {a b:Int} (ht:P.underlying t=some (.int k)) : pureV P (Op.equalIn (d+1) t (.int k a) (.int k b))=some (a == b):=by
 unfold Op.equalIn
 refine (pureV_then (m:=underlying t) (pureV_underlying ht)).trans ?_
 dsimp only
 rw [if_pos rfl]
 rfl
theorem equal_edge (a b c d:Int) : pureV Tryz.prog (Op.equal 92 (.agg #[.int .i64 a,.int .i64 b]) (.agg #[.int .i64 c,.int .i64 d]))=some (a == c && b == d):=by
 unfold Op.equal
 show pureV Tryz.prog (Op.equalIn (9998+1+1) 92 _ _)=_
 rw [Op.equalIn]
 refine (pureV_then (m:=underlying 92) (pureV_underlying Tryz.underlying92)).trans ?_
 dsimp only
 refine (pureV_then (m:=program) (a:=Tryz.prog) rfl).trans ?_
 rw [if_neg (by rw [stood92]; decide)]
 have p0:∀ x y:Int,pureV Tryz.prog (part 3 #[Value.int IntKind.i64 x,Value.int IntKind.i64 y] 0)=some (.int .i64 x):=fun x y=>rfl
 have p1:∀ x y:Int,pureV Tryz.prog (part 3 #[Value.int IntKind.i64 x,Value.int IntKind.i64 y] 1)=some (.int .i64 y):=fun x y=>rfl
 simp only [List.forIn_toArray,List.forIn_cons,List.forIn_nil]
 have key:∀ (nm:String) (u v:Int) (m1 m2:Sem Value),nm ≠ "_"→pureV Tryz.prog m1=some (.int .i64 u)→pureV Tryz.prog m2=some (.int .i64 v) →
   pureV Tryz.prog (if nm ≠ "_" then do
    let x ← m1
    let y ← m2
    let z ← Op.equalIn (9998+1) 3 x y
    if (!z)=true then pure (ForInStep.done (some false,())) else pure (ForInStep.yield ((none:Option Bool),()))
   else pure (ForInStep.yield (none,())))=some (if (u == v)=true then ForInStep.yield (none,()) else ForInStep.done (some false,())):=by
  intro nm u v m1 m2 hn h1 h2
  rw [if_pos hn]
  refine (pureV_then h1).trans ((pureV_then h2).trans ((pureV_then (equal_int Tryz.underlying3)).trans ?_))
  cases (u == v) <;> rfl
 refine (pureV_then (a:=if (a == c && b == d)=true then ((none:Option Bool),()) else (some false,())) ?_).trans ?_
 ·refine (pureV_then (key "To" a c _ _ (by decide) (p0 a b) (p0 c d))).trans ?_
  cases (a == c)
  ·rfl
  ·refine (pureV_then (key "Out" b d _ _ (by decide) (p1 a b) (p1 c d))).trans ?_
   cases (b == d) <;> rfl
 ·cases (a == c) <;> cases (b == d) <;> rfl
end Go.Ai
end
section
namespace Go.Ai
open Go.Proofs Go.RowKit
set_option maxHeartbeats 4000000
set_option maxRecDepth 100000
theorem string_run {w:World} {b g cap:Nat} {p:Value} {cur:Array Value} {l:List UInt8} (hb:w.heap[b]?=some (.cells #[p,.slice (some ⟨g,0,none⟩) l.length cap] 113 (0,0))) (hg:w.heap[g]?=some (.cells cur 5 (0,0)))
  (h0:l≠[]) (hcap:l.length≤cap) (hcs:cur.size=cap) (h63:l.length≤1000000) (hcell:∀ (j:Nat) (x:UInt8),l[j]?=some x→cur[j]?=some (Value.int .u8 x.toNat)) :
  Calls Tryz.prog 60 #[.pointer (some ⟨b,0,none⟩)] w fun e w'=>e=.returned (.string ⟨l.toArray⟩)∧w'=w.drew.freeze ⟨g,0,none⟩ l.length:=by
 have hl0:l.length≠0:=by simpa using h0
 have c1:w.drew.cell? ⟨b,1,none⟩=some (.slice (some ⟨g,0,none⟩) l.length cap):=by
  have:w.drew.heap[b]?=some (.cells #[p,.slice (some ⟨g,0,none⟩) l.length cap] 113 (0,0)):=hb
  rw [Lib.cell_of_heap this]; rfl
 have mixed:Tryz.prog.follows .mixedOrders=true:=by kernel_rfl
 have hSD:(Builtin.unsafeSliceData_ #[67] 155 #[.slice (some ⟨g,0,none⟩) l.length cap]).run Tryz.prog w.drew=.ok (.pointer (some ⟨g,0,none⟩)) w.drew :=
  Lib.run_unsafeSliceData_row _ _ _ _ _ _ (by omega)
 have hg' : w.drew.heap[g]?=some (.cells cur 5 (0,0)):=hg
 have hUS:(Builtin.unsafeString_ #[155,3] 9 #[.pointer (some ⟨g,0,none⟩),.int .i64 l.length]).run Tryz.prog w.drew=.ok (.string ⟨l.toArray⟩) (w.drew.freeze ⟨g,0,none⟩ l.length):=by
  refine Lib.run_unsafeString_row w.drew 155 3 9 5 Tryz.underlying155 (by kernel_rfl) g cur.size (by simp [World.shape?,hg']) l h0 (by omega) (by omega) ?_
  intro j x hx
  rw [show (⟨g,0,none⟩ : Addr).add j=⟨g,j,none⟩ by rw [add_none]; simp]
  rw [Lib.cell_of_heap hg']
  exact hcell j x hx
 go_enter Tryz.func60,Tryz.ntmps60
 go_wp2
 go_region_o
 all_goals (go_wp2; go_ret; exact ⟨rfl,rfl⟩)
def bytesG:List AV→Option (List UInt8)
 | []=>some []
 | .lit (.int .u8 (.ofNat k)) :: l=>match Nat.ble k 255,bytesG l with | true,some r=>some (UInt8.ofNat k :: r) | _,_=>none
 | _ :: _=>none
theorem bytesG_at:∀ {l:List AV} {bs:List UInt8},bytesG l=some bs→bs.length=l.length∧∀ (j:Nat) (x:UInt8),bs[j]?=some x→l[j]?=some (.lit (.int .u8 (x.toNat:Int)))
 | [],bs,h=>by cases h; exact ⟨rfl,fun j x h=>by simp at h⟩
 | .lit (.int .u8 (.ofNat k)) :: l,bs,h=>by
  unfold bytesG at h
  split at h
  ·rename_i r hk hr
   cases h
   obtain ⟨h1,h2⟩:=bytesG_at hr
   refine ⟨by simp [h1],fun j x hx=>?_⟩
   cases j with
   | zero =>
    have hk' : k≤255:=Nat.le_of_ble_eq_true hk
    have hx' : UInt8.ofNat k=x:=by simpa using hx
    subst hx'
    have:(UInt8.ofNat k).toNat=k:=by rw [UInt8.toNat_ofNat',Nat.mod_eq_of_lt (by omega)]
    rw [this]; rfl
   | succ j =>
    have:=h2 j x (by simpa using hx)
    simpa using this
  ·cases h
noncomputable def sStr (args:List AV) (H:Mem) : COut:=match args with
 | [.ptr a 0]=>(match H.get a with
  | some (.typ T [_,.slq g 0 n 0] true)=>(match H.get g with
   | some (.typ el l false)=>(match (Nat.beq T 113 && Nat.beq el 5) && (Nat.beq n (len l) && (Nat.blt 0 n && Nat.ble n 1000000)),bytesG l with
    | true,some bs=>H.setK g (.cells l false 0) fun H'=>.ret (.lit (.string ⟨bs.toArray⟩)) H'
    | _,_=>.bad)
   | _=>.bad)
  | _=>.bad)
 | _=>.bad
theorem freeze_heap {w:World} {g n:Nat} {cur:Array Value} {t:TypeId} {fz:Nat×Nat} (h:w.heap[g]?=some (.cells cur t fz)) :
  (∃ fz',(w.freeze ⟨g,0,none⟩ n).heap[g]?=some (.cells cur t fz'))∧(w.freeze ⟨g,0,none⟩ n).heap.size=w.heap.size∧∀ j,j≠g→(w.freeze ⟨g,0,none⟩ n).heap[j]?=w.heap[j]?:=by
 unfold World.freeze
 split
 ·exact ⟨⟨fz,h⟩,rfl,fun _ _=>rfl⟩
 ·refine ⟨?_,by simp,fun j hj=>?_⟩
  ·simp only [Array.getElem?_modify]
   rw [if_pos trivial,h]
   exact ⟨_,rfl⟩
  ·simp only [Array.getElem?_modify]
   rw [if_neg (fun e=>hj e.symm)]
theorem Sim.setR {B G:Nat} {ρ:Rn} {H:Mem} {w w' : World} (s:Sim B G ρ H w) {a:Nat} {x y:Blk} {b o k:Nat} (ha:H.get a=some x) (hr:ρ a=some (b,o,k)) (hown:x.own=true)
  (hsz:w.heap.size≤w'.heap.size) (hh:∀ b',b'≠b→b' < w.heap.size→w'.heap[b']?=w.heap[b']?) (hy:BR B ρ y b o k w') : Sim B G ρ (H.upd a y) w':=by
 refine ⟨?_,?_,fun j hj=>s.fresh j hj,?_,s.names,Nat.le_trans s.base hsz⟩
 ·intro j z hz
  rcases Mem.get_upd hz with ⟨rfl,rfl⟩ | ⟨hne,hz⟩
  ·exact .inr ⟨b,o,k,hr,hy⟩
  ·rcases s.blk j z hz with hn | ⟨b',o',k',hr',hb⟩
   ·exact .inl hn
   ·refine .inr ⟨b',o',k',hr',hb.mono (Sub.refl _) (hh b' ?_ hb.lt)⟩
    rintro rfl
    exact s.inj a j x z b' o k o' k' ha hz (Ne.symm hne) hown hr hr'
 ·intro j j' z z' b1 o1 k1 o2 k2 h h' hne ho hr1 hr2
  rcases Mem.get_upd h with ⟨e1,e2⟩ | ⟨hn1,g⟩
  ·rcases Mem.get_upd h' with ⟨e3,e4⟩ | ⟨hn2,g'⟩
   ·exact hne (e1.trans e3.symm)
   ·subst e1; exact s.inj j j' x z' b1 o1 k1 o2 k2 ha g' hne hown hr1 hr2
  ·rcases Mem.get_upd h' with ⟨e3,e4⟩ | ⟨hn2,g'⟩
   ·subst e3; exact s.inj j' j x z b1 o2 k2 o1 k1 ha g (Ne.symm hne) hown hr2 hr1
   ·exact s.inj j j' z z' b1 o1 k1 o2 k2 g g' hne ho hr1 hr2
 ·intro j z hj hz
  rcases Mem.get_upd hz with ⟨rfl,rfl⟩ | ⟨hne,hz⟩
  ·exact s.glob j x hj ha
  ·exact s.glob j z hj hz
theorem sStr_w (args:List AV) (H:Mem) (h:sStr args H≠.bad) : WC 3 Tryz.prog 60 args H fun r=>r=sStr args H:=by
 unfold sStr at h ⊢
 split at h
 ·rename_i a
  split at h
  ·rename_i T p g n hga
   split at h
   ·rename_i el l hgg
    split at h
    ·rename_i bs hc hbs
     simp only [Bool.and_eq_true] at hc
     have hT:T=113:=Nat.eq_of_beq_eq_true hc.1.1
     have hel:el=5:=Nat.eq_of_beq_eq_true hc.1.2
     have hn:n=l.length:=by rw [← len_eq]; exact Nat.eq_of_beq_eq_true hc.2.1
     have hn0:0 < n:=Nat.le_of_ble_eq_true hc.2.2.1
     have hn1:n≤1000000:=Nat.le_of_ble_eq_true hc.2.2.2
     subst hT hel
     intro B ρ us w s hv
     obtain ⟨u,us',hl,hvu,hnil⟩:=hv
     have hus' : us'=[]:=hnil
     subst hus'
     have hus:us=#[u]:=by rw [← Array.toArray_toList (xs:=us),hl]
     subst hus
     obtain ⟨b,o,k,hr,rfl⟩:=hvu
     obtain ⟨rfl,hB,c,hb,hcc,hex,_⟩:=s.at hga hr
     have hcs:c.size=2:=hex rfl
     obtain ⟨u0,hu0,_⟩:=hcc 0 _ rfl
     obtain ⟨u1,hu1,hv1⟩:=hcc 1 _ rfl
     obtain ⟨b2,o2,k2,hr2,hle2,rfl⟩:=hv1
     obtain ⟨rfl,hB2,c2,hb2,hcc2,_,hex2⟩:=s.at hgg hr2
     obtain ⟨hk2,hlk⟩:=hex2 rfl
     have hce:c=#[u0,.slice (some ⟨b2,0+0,none⟩) n (k2 - 0)]:=by
      apply Array.ext'
      have h2:c.toList.length=2:=hcs
      match hcl:c.toList,h2 with
      | [x,y],_ =>
       have e0:c[0]?=some x:=by rw [← Array.getElem?_toList,hcl]; rfl
       have e1:c[1]?=some y:=by rw [← Array.getElem?_toList,hcl]; rfl
       rw [e0] at hu0; rw [e1] at hu1
       cases hu0; cases hu1; rfl
     obtain ⟨hbl,hbat⟩:=bytesG_at hbs
     subst hce
     have hrun:=string_run (w:=w) (b:=b) (g:=b2) (cap:=k2) (p:=u0) (cur:=c2) (l:=bs) (by rw [hbl,← hn]; simpa using hb) hb2 (fun e=>by rw [e] at hbl; simp at hbl; omega) (by omega) hk2 (by omega)
      (fun j x hx=>by
       obtain ⟨u,hu,hvu⟩:=hcc2 j _ (hbat j x hx)
       rw [hu,show u=Value.int .u8 x.toNat from hvu])
     refine hrun.mono ?_
     rintro e w' ⟨rfl,rfl⟩
     obtain ⟨⟨fz',f1⟩,f2,f3⟩:=freeze_heap (n:=bs.length) (show w.drew.heap[b2]?=some (.cells c2 5 (0,0)) from hb2)
     rw [Mem.setK_eq]
     refine ⟨_,rfl,ρ,⟨fun _ _=>rfl,KD.turn (x:=.cells c2 5 (0,0)) hb2 rfl (fun j hj=>f3 j hj) (by unfold World.freeze; split <;> exact Nat.le_succ _),Lib.below_freeze (Below.drew (Below.refl B w)) (p:=⟨b2,0,none⟩) hB2 _⟩,?_,rfl,Nat.le_refl _⟩
     refine s.setR hgg hr2 rfl (by rw [f2]; exact Nat.le_refl _) (fun j hj _=>f3 j hj) ⟨c2,5,fz',f1,fun i v hi=>?_,fun h=>by cases h⟩
     obtain ⟨u,hu,hvu⟩:=hcc2 i v hi
     exact ⟨u,by rw [Nat.zero_add]; exact hu,hvu⟩
    ·exact absurd rfl h
   ·exact absurd rfl h
  ·exact absurd rfl h
 ·exact absurd rfl h
end Go.Ai
end
