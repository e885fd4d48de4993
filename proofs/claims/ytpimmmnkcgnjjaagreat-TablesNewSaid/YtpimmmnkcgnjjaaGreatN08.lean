/- A small verified interpreter over names, its proofs, and what was proved with it. No condition. -/
import Derived.ProofKit
import Derived.Deep.DeepHandedRow
import Derived.Test.YtpimmmnkcgnjjaaGreatN06
import Derived.Test.YtpimmmnkcgnjjaaGreatN03
import Derived.Test.YtpimmmnkcgnjjaaGreatN07
import Derived.Test.YtpimmmnkcgnjjaaGreatN05
set_option linter.all false
set_option linter.deprecated false
section
namespace Go.Ai
open Go.RowKit (Below)
variable {B G:Nat} {P:Program} {ρ:Rn} {H:Mem} {w:World}
structure Cut where
 f:Nat
 n:Nat
 args:List AV
 base:List (Nat×List AV)
 v:AV
 news:List (Nat×Blk)
 n1:Nat
mutual
def inV (p:Nat→Bool) : AV→Bool
 | .lit _=>true
 | .es=>true
 | .ptr a _=>p a
 | .sl a _ _ _=>p a
 | .slq a _ _ _=>p a
 | .map a=>p a
 | .func _ x y=>inL p x && inL p y
 | .iface _ v=>inV p v
 | .agg l=>inL p l
 | .tup l=>inL p l
def inL (p:Nat→Bool) : List AV→Bool
 | []=>true
 | v :: l=>inV p v && inL p l
end
def only (p:Nat→Bool) (ρ:Rn) : Rn:=fun a=>if p a=true then ρ a else none
theorem only_in {p:Nat→Bool} {a:Nat} {ρ:Rn} (h:p a=true) : only p ρ a=ρ a:=if_pos h
mutual
theorem in_VR {p:Nat→Bool} {ρ:Rn} : ∀ {v:AV} {u:Value},inV p v=true→VR ρ v u→VR (only p ρ) v u
 | .lit _,_,_,r=>r
 | .es,_,_,r=>r
 | .ptr a _,_,hb,⟨b,o,k,e,r⟩=>⟨b,o,k,(only_in (by simpa [inV] using hb)).trans e,r⟩
 | .sl a _ _ _,_,hb,⟨b,o,k,e,r⟩=>⟨b,o,k,(only_in (by simpa [inV] using hb)).trans e,r⟩
 | .slq a _ _ _,_,hb,⟨b,o,k,e,r⟩=>⟨b,o,k,(only_in (by simpa [inV] using hb)).trans e,r⟩
 | .map a,_,hb,⟨b,o,k,e,r⟩=>⟨b,o,k,(only_in (by simpa [inV] using hb)).trans e,r⟩
 | .func _ _ _,_,hb,⟨f',c',e,r,q⟩=>by
  simp only [inV,Bool.and_eq_true] at hb
  exact ⟨f',c',e,in_VRs hb.1 r,in_VRs hb.2 q⟩
 | .iface _ _,_,hb,⟨u',e,r⟩=>⟨u',e,in_VR (by simpa [inV] using hb) r⟩
 | .agg _,_,hb,⟨cs,e,r⟩=>⟨cs,e,in_VRs (by simpa [inV] using hb) r⟩
 | .tup _,_,hb,⟨cs,e,r⟩=>⟨cs,e,in_VRs (by simpa [inV] using hb) r⟩
theorem in_VRs {p:Nat→Bool} {ρ:Rn} : ∀ {l:List AV} {us:List Value},inL p l=true→VRs ρ l us→VRs (only p ρ) l us
 | [],_,_,r=>r
 | _ :: _,_,hb,⟨u,us',e,r,q⟩=>by
  simp only [inL,Bool.and_eq_true] at hb
  exact ⟨u,us',e,in_VR hb.1 r,in_VRs hb.2 q⟩
end
theorem inL_mem {p:Nat→Bool} : ∀ {l:List AV} {i:Nat} {v:AV},inL p l=true→l[i]?=some v→inV p v=true
 | [],i,v,_,h=>by grind
 | y :: l,0,v,hb,h=>by simp_all [inL]
 | y :: l,i+1,v,hb,h=>by simp only [inL,Bool.and_eq_true] at hb; exact inL_mem hb.2 (by simpa using h)
noncomputable def baseT:List (Nat×List AV)→T4 Blk→T4 Blk
 | [],t=>t
 | (a,l) :: r,t=>put4 t a (.v a (.cells l false 0)) (baseT r)
noncomputable def memOf (c:Cut) : Mem:=⟨.tr (baseT c.base e4),c.n⟩
noncomputable def covers (H:Mem) : List (Nat×List AV)→Bool
 | []=>true
 | (a,l) :: r=>match H.get a with
  | some (.cells l' _ _)=>match eqAVs l' l with | true=>covers H r | false=>false
  | _=>false
noncomputable def adds (n1:Nat) : List (Nat×Blk)→Mem→Mem
 | [],H=>⟨H.t,n1⟩
 | (a,b) :: r,H=>H.setK a b (adds n1 r)
noncomputable def newsOk (H:Mem) (n:Nat) (p:Nat→Bool) : List (Nat×Blk)→Bool
 | []=>true
 | (a,.cells l true z) :: r=>match H.get a with
  | some b=>eqBlk b (.cells l true z) && (Nat.ble n a && (inL p l && newsOk H n p r))
  | none=>false
 | _=>false
def kept (n:Nat) (l:List (Nat×Blk)) (a:Nat) : Bool:=match Nat.blt a n with | true=>true | false=>elemN a (l.map (·.1))
noncomputable def cutOk (c:Cut) (r:COut) : Bool:=match r with
 | .ret v H=>eqAV v c.v && (Nat.beq H.next c.n1 && (inV (kept c.n c.news) c.v && newsOk H c.n (kept c.n c.news) c.news))
 | _=>false
noncomputable def sCut (c:Cut) (args:List AV) (H:Mem) : COut:=match eqAVs args c.args,covers H c.base with
 | true,true=>.ret c.v (adds c.n1 c.news H)
 | _,_=>.bad
noncomputable def cutsO (O:CallF) (l:List Cut) : CallF :=
 List.rec (motive:=fun _=>CallF) O (fun c _ ih f a H=>match Nat.beq f c.f with
  | true=>match Nat.beq H.next c.n with
   | true=>sCut c a H
   | false=>ih f a H
  | false=>ih f a H) l
theorem baseT_get:∀ {l:List (Nat×List AV)} {t:T4 Blk} {a:Nat} {x:Blk},get4 (baseT l t) a=some x→(∃ cs,(a,cs)∈l∧x=.cells cs false 0)∨get4 t a=some x
 | [],t,a,x,h=>.inr h
 | (b,cs) :: r,t,a,x,h=>by
  unfold baseT at h
  rw [put4_eq] at h
  rcases baseT_get h with ⟨cs',hm,hx⟩ | h
  ·grind
  ·rcases get4_v _ _ _ _ _ h with ⟨rfl,rfl⟩ | ⟨_,h⟩
   all_goals grind
theorem covers_spec:∀ {l:List (Nat×List AV)},covers H l=true→∀ a cs,(a,cs)∈l→∃ own z,H.get a=some (.cells cs own z)
 | (b,cs') :: r,h,a,cs,hm=>by
  unfold covers at h
  split at h
  ·rename_i l' own z hg
   split at h
   ·rename_i he
    have he':=eqAVs_sound _ _ he
    subst he'
    rcases List.mem_cons.1 hm with e | hm
    ·cases e; exact ⟨own,z,hg⟩
    ·exact covers_spec h a cs hm
   ·cases h
  ·cases h
theorem adds_get {n1:Nat} : ∀ {l:List (Nat×Blk)} {H:Mem} {a:Nat} {x:Blk},(adds n1 l H).get a=some x→(a,x)∈l∨(H.get a=some x∧∀ y,(a,y) ∉ l)
 | [],H,a,x,h=>.inr ⟨h,fun y hy=>by grind⟩
 | (b,y) :: r,H,a,x,h=>by
  unfold adds at h
  rw [Mem.setK_eq] at h
  rcases adds_get h with h | ⟨h,hn⟩
  ·grind
  ·rcases Mem.get_upd h with ⟨rfl,rfl⟩ | ⟨hne,h⟩
   all_goals grind
theorem adds_next {n1:Nat} : ∀ {l:List (Nat×Blk)} {H:Mem},(adds n1 l H).next=n1
 | [],H=>rfl
 | (b,y) :: r,H=>by unfold adds; rw [Mem.setK_eq]; exact adds_next
theorem newsOk_spec {n:Nat} {p:Nat→Bool} : ∀ {l:List (Nat×Blk)},newsOk H n p l=true→∀ a x,(a,x)∈l→H.get a=some x∧n≤a∧∃ cs z,x=.cells cs true z∧inL p cs=true
 | (b,y) :: r,h,a,x,hm=>by
  cases y with
  | cells cs own z =>
   cases own with
   | false=>grind [newsOk]
   | true =>
    unfold newsOk at h
    split at h
    ·rename_i b' hg
     simp only [Bool.and_eq_true] at h
     obtain ⟨h1,h2,h3,h4⟩:=h
     rcases List.mem_cons.1 hm with e | hm
     ·cases e
      exact ⟨hg.trans (congrArg some (eqBlk_sound h1)),Nat.le_of_ble_eq_true h2,cs,z,rfl,h3⟩
     ·exact newsOk_spec h4 a x hm
    grind
  | map _ _=>grind [newsOk]
  | siter _ _=>grind [newsOk]
  | typ _ _ _=>grind [newsOk]
theorem BR.only {p:Nat→Bool} {cs:List AV} {own:Bool} {z b o k B' : Nat} (h:BR B' ρ (.cells cs own z) b o k w) (hp:inL p cs=true) (hB:B≤B') : BR B (only p ρ) (.cells cs own z) b o k w:=by
 obtain ⟨c,e,fz,h1,h2,h3⟩:=h
 refine ⟨c,e,fz,h1,fun i v hi=>?_,fun ho=>⟨Nat.le_trans hB (h3 ho).1,(h3 ho).2⟩⟩
 grind [inL_mem,in_VR]
theorem cut_w {O:CallF} {c:Cut} (hO:∀ B,CallOK B G P O) (hrun:cutOk c (O c.f c.args (memOf c))=true) (args:List AV) (H:Mem) (hnx:H.next=c.n) (h:sCut c args H≠.bad) : WC G P c.f args H fun r=>r=sCut c args H:=by
 unfold sCut at h ⊢
 split at h
 ·rename_i ha hcov
  have ha':=eqAVs_sound _ _ ha
  subst ha'
  cases hr:O c.f c.args (memOf c) with
  | ret v H1 =>
   rw [hr] at hrun
   simp only [cutOk,Bool.and_eq_true] at hrun
   obtain ⟨hv1,hn1,hin,hnews⟩:=hrun
   have hv1:=eqAV_sound _ _ hv1
   have hn1:=Nat.eq_of_beq_eq_true hn1
   intro B ρ us w s hv
   have s2:Sim w.heap.size G ρ (memOf c) w:=by
    have hm:∀ a x,(memOf c).get a=some x→∃ cs own z,x=.cells cs false 0∧H.get a=some (.cells cs own z):=by
     intro a x hx
     rcases baseT_get (show get4 (baseT c.base e4) a=some x from hx) with ⟨cs,hm,rfl⟩ | hx
     ·obtain ⟨own,z,hg⟩:=covers_spec hcov a cs hm
      grind
     grind [get4_e4]
    refine ⟨fun a x hx=>?_,fun a a' x x' b o k o' k' hx _ _ hown=>?_,fun a ha=>s.fresh a (by rw [hnx]; exact ha),fun a x hlt hx=>?_,by show G≤c.n; rw [← hnx]; exact s.names,Nat.le_refl _⟩
    ·obtain ⟨cs,own,z,rfl,hg⟩:=hm a x hx
     rcases s.blk a _ hg with hn | ⟨b,o,k,h1,c',e,fz,h2,h3,_⟩
     ·grind
     ·exact .inr ⟨b,o,k,h1,c',e,fz,h2,h3,fun h=>by cases h⟩
    ·obtain ⟨cs,own,z,rfl,hg⟩:=hm a x hx
     cases hown
    ·obtain ⟨cs,own,z,rfl,hg⟩:=hm a x hx
     exact s.glob a _ hlt hg
   refine (hO w.heap.size c.f c.args (memOf c) (by grind) ρ us w s2 hv).mono ?_
   intro e w' hc
   rw [hr] at hc
   refine ⟨_,rfl,?_⟩
   cases e with
   | returned u =>
    obtain ⟨ρ',hext,hsim,hvr,hle⟩:=hc
    have hle' : c.n≤H1.next:=hle
    have hlow:∀ a,a < c.n→only (kept c.n c.news) ρ' a=ρ a:=by
     intro a ha
     rw [only_in (by grind [kept,Nat.ble_eq_true_of_le,Nat.blt])]
     exact hext.same a ha
    have hnew:∀ a x,(a,x)∈c.news→only (kept c.n c.news) ρ' a=ρ' a:=by
     intro a x hm
     refine only_in ?_
     unfold kept
     split
     ·rfl
     ·exact elemN_mem (List.mem_map.2 ⟨_,hm,rfl⟩)
    have hpos:∀ a y,only (kept c.n c.news) ρ' a=some y→a < c.n∨∃ x,(a,x)∈c.news:=by
     intro a y hy
     unfold only at hy
     split at hy
     ·rename_i hk
      unfold kept at hk
      split at hk
      ·simp_all
      ·refine .inr ?_
       have key:∀ (l:List (Nat×Blk)),elemN a (l.map (·.1))=true→∃ x,(a,x)∈l:=by
        intro l
        induction l with
        | nil=>intro h; cases h
        | cons q l ih =>
         grind [elemN,Nat.eq_of_beq_eq_true]
       grind
     grind
    have hvr' : VR ρ' c.v u:=by grind
    refine ⟨only (kept c.n c.news) ρ',⟨fun a ha=>hlow a (by grind),hext.keeps,hext.below.mono s.base⟩,?_,in_VR hin hvr',by grind [adds_next]⟩
    have hbl:∀ a x,H.get a=some x→a < c.n→only (kept c.n c.news) ρ' a=none∨∃ b o k,ρ a=some (b,o,k)∧only (kept c.n c.news) ρ' a=some (b,o,k)∧b < w.heap.size∧BR B (only (kept c.n c.news) ρ') x b o k w':=by
     intro a x hx hlt
     rcases s.blk a x hx with hn | ⟨b,o,k,h1,h2⟩
     ·grind
     ·refine .inr ⟨b,o,k,h1,(hlow a hlt).trans h1,h2.lt,h2.mono (fun a' y hy=>?_) (hext.below.block b h2.lt)⟩
      rw [hlow a' (by rw [← hnx]; exact s.lt_next hy)]; grind
    have hbn:∀ a x,(a,x)∈c.news→only (kept c.n c.news) ρ' a=none∨∃ b o k,ρ' a=some (b,o,k)∧only (kept c.n c.news) ρ' a=some (b,o,k)∧w.heap.size≤b∧BR B (only (kept c.n c.news) ρ') x b o k w':=by
     intro a x hm
     obtain ⟨h1,h2,cs,z,rfl,h3⟩:=newsOk_spec hnews a x hm
     rcases hsim.blk a _ h1 with hn | ⟨b,o,k,h4,h5⟩
     ·grind
     ·exact .inr ⟨b,o,k,h4,(hnew a _ hm).trans h4,h5.above rfl,h5.only h3 s.base⟩
    refine ⟨fun a x hx=>?_,fun a a' x x' b o k o' k' hx hx' hne hown hr1 hr2=>?_,fun a ha=>?_,fun a x hlt hx=>?_,by rw [adds_next,← hn1]; exact Nat.le_trans s.names (by grind),Nat.le_trans s.base hext.below.size⟩
    ·rcases adds_get hx with hm | ⟨hx,hnot⟩
     ·grind
     ·rcases Nat.lt_or_ge a c.n with hlt | hge
      ·grind
      ·cases hy:only (kept c.n c.news) ρ' a with
       | none=>grind
       | some y =>
        grind
    ·have old:∀ a x y,H.get a=some x→(∀ y,(a,y) ∉ c.news)→only (kept c.n c.news) ρ' a=some y→ρ a=some y∧y.1 < w.heap.size:=by
      grind
     have new:∀ a x y,(a,x)∈c.news→only (kept c.n c.news) ρ' a=some y→ρ' a=some y∧w.heap.size≤y.1:=by
      grind
     rcases adds_get hx with hm | ⟨hx,hn⟩
     ·have h1:=new a x _ hm hr1
      rcases adds_get hx' with hm' | ⟨hx',hn'⟩
      ·have h2:=new a' x' _ hm' hr2
       exact hsim.inj a a' x x' b o k o' k' (newsOk_spec hnews a x hm).1 (newsOk_spec hnews a' x' hm').1 hne hown h1.1 h2.1
      grind
     ·have h1:=old a x _ hx hn hr1
      rcases adds_get hx' with hm' | ⟨hx',hn'⟩
      ·grind
      ·have h2:=old a' x' _ hx' hn' hr2
       exact s.inj a a' x x' b o k o' k' hx hx' hne hown h1.1 h2.1
    ·rw [adds_next] at ha
     unfold only
     split
     ·exact hsim.fresh a (by grind)
     ·rfl
    ·rcases adds_get hx with hm | ⟨hx,hn⟩
     ·have h1:=(newsOk_spec hnews a x hm).2.1
      have h2:=s.names
      omega
     ·rw [hlow a (by have h2:=s.names; omega)]
      exact s.glob a x hlt hx
   | _=>assumption
  | panic v H1=>rw [hr] at hrun; cases hrun
  | bad=>rw [hr] at hrun; cases hrun
 grind
theorem cutsO_ok {O:CallF} (hO:∀ B,CallOK B G P O) : ∀ {l:List Cut},(∀ c∈l,∀ args H,H.next=c.n→sCut c args H≠.bad→WC G P c.f args H fun r=>r=sCut c args H)→∀ B,CallOK B G P (cutsO O l)
 | [],_,B=>hO B
 | c :: l,h,B=>by
  have ih:=cutsO_ok hO (l:=l) (fun c' hc'=>h c' (List.mem_cons_of_mem _ hc'))
  intro f args H hne ρ us w s hv
  have he:cutsO O (c :: l) f args H=match Nat.beq f c.f with
   | true=>match Nat.beq H.next c.n with
    | true=>sCut c args H
    | false=>cutsO O l f args H
   | false=>cutsO O l f args H:=rfl
  rw [he] at hne ⊢
  split at hne
  ·rename_i hf
   split at hne
   ·rename_i hn
    have hf':=Nat.eq_of_beq_eq_true hf
    subst hf'
    refine (h c (List.mem_cons_self ..) args H (Nat.eq_of_beq_eq_true hn) hne B ρ us w s hv).mono ?_
    grind
   ·exact ih B f args H hne ρ us w s hv
  ·exact ih B f args H hne ρ us w s hv
structure Fact where
 f:Nat
 args:List AV
 base:List (Nat×List AV)
 v:AV
noncomputable def memF (G n:Nat) (c:Fact) : Mem:=⟨.tr (baseT c.base e4),n⟩
def named (c:Fact) (a:Nat) : Bool:=elemN a (c.base.map (·.1))
def baseIn (n:Nat) (p:Nat→Bool) : List (Nat×List AV)→Bool
 | []=>true
 | (a,l) :: r=>Nat.blt a n && (inL p l && baseIn n p r)
noncomputable def factOk (G n:Nat) (c:Fact) (r:COut) : Bool:=match r with
 | .ret v _=>eqAV v c.v && (plainV c.v && (inL (named c) c.args && (baseIn n (named c) c.base && Nat.ble G n)))
 | _=>false
noncomputable def sFact (c:Fact) (args:List AV) (H:Mem) : COut:=match eqAVs args c.args with
 | true=>match covers H c.base with
  | true=>.ret c.v H
  | false=>.bad
 | false=>.bad
noncomputable def factsO (O:CallF) (l:List Fact) : CallF :=
 List.rec (motive:=fun _=>CallF) O (fun c _ ih f a H=>match Nat.beq f c.f with
  | true=>orR (sFact c a H) (ih f a H)
  | false=>ih f a H) l
theorem baseIn_spec {n:Nat} {p:Nat→Bool} : ∀ {l:List (Nat×List AV)},baseIn n p l=true→∀ a cs,(a,cs)∈l→a < n∧inL p cs=true
 | (b,m) :: r,h,a,cs,hm=>by
  simp only [baseIn,Bool.and_eq_true] at h
  rcases List.mem_cons.1 hm with e | hm
  ·simp_all
  ·exact baseIn_spec h.2.2 a cs hm
theorem elemN_ex {a:Nat} : ∀ {l:List Nat},elemN a l=true→a∈l
 | b :: l,h=>by
  unfold elemN at h
  split at h
  ·rename_i hb
   rw [Nat.eq_of_beq_eq_true hb]; exact List.mem_cons_self ..
  ·exact List.mem_cons_of_mem _ (elemN_ex h)
theorem fact_w {O:CallF} {c:Fact} {n:Nat} (hO:∀ B,CallOK B G P O) (hrun:factOk G n c (O c.f c.args (memF G n c))=true) (args:List AV) (H:Mem) (h:sFact c args H≠.bad) : WC G P c.f args H fun r=>r=sFact c args H:=by
 unfold sFact at h ⊢
 split at h
 ·rename_i ha
  split at h
  ·rename_i hcov
   have ha':=eqAVs_sound _ _ ha
   subst ha'
   cases hr:O c.f c.args (memF G n c) with
   | ret v H1 =>
    rw [hr] at hrun
    simp only [factOk,Bool.and_eq_true] at hrun
    obtain ⟨hv1,hpl,hin,hbase,hG⟩:=hrun
    have hv1:=eqAV_sound _ _ hv1
    intro B ρ us w s hv
    have hm:∀ a x,(memF G n c).get a=some x→∃ cs own z,x=.cells cs false 0∧H.get a=some (.cells cs own z)∧a < n∧inL (named c) cs=true∧named c a=true:=by
     intro a x hx
     rcases baseT_get (show get4 (baseT c.base e4) a=some x from hx) with ⟨cs,hm,rfl⟩ | hx
     ·obtain ⟨own,z,hg⟩:=covers_spec hcov a cs hm
      obtain ⟨h1,h2⟩:=baseIn_spec hbase a cs hm
      exact ⟨cs,own,z,rfl,hg,h1,h2,elemN_mem (List.mem_map.2 ⟨_,hm,rfl⟩)⟩
     grind [get4_e4]
    have s2:Sim w.heap.size G (only (named c) ρ) (memF G n c) w:=by
     refine ⟨fun a x hx=>?_,fun a a' x x' b o k o' k' hx _ _ hown=>?_,fun a ha=>?_,fun a x hlt hx=>?_,Nat.le_of_ble_eq_true hG,Nat.le_refl _⟩
     ·obtain ⟨cs,own,z,rfl,hg,h1,h2,h3⟩:=hm a x hx
      rw [only_in h3]
      rcases s.blk a _ hg with hn | ⟨b,o,k,h4,c',e,fz,h5,h6,_⟩
      ·grind
      ·refine .inr ⟨b,o,k,h4,c',e,fz,h5,fun i v hi=>?_,fun h=>by cases h⟩
       grind [inL_mem,in_VR]
     ·obtain ⟨cs,own,z,rfl,hg,_⟩:=hm a x hx
      cases hown
     ·unfold only
      split
      ·rename_i hk
       obtain ⟨q,hq,e⟩:=List.mem_map.1 (elemN_ex hk)
       have:=(baseIn_spec hbase q.1 q.2 hq).1
       have ha' : n≤a:=ha
       omega
      ·rfl
     ·obtain ⟨cs,own,z,rfl,hg,h1,h2,h3⟩:=hm a x hx
      rw [only_in h3]
      exact s.glob a _ hlt hg
    refine (hO w.heap.size c.f c.args (memF G n c) (by grind) _ us w s2 (in_VRs hin hv)).mono ?_
    intro e w' hc
    rw [hr] at hc
    refine ⟨_,rfl,?_⟩
    cases e with
    | returned x =>
     obtain ⟨ρ',h1,h2,h3,h4⟩:=hc
     have hb:=h1.below
     rw [hv1] at h3
     refine ⟨ρ,⟨fun _ _=>rfl,h1.keeps,hb.mono s.base⟩,?_,plain_VR hpl h3,Nat.le_refl _⟩
     refine s.other hb.size fun a x b o k ha hra=>?_
     exact hb.block b (s.at ha hra).lt
    | panicked chain=>assumption
    | outgrown=>assumption
   | panic v H1=>rw [hr] at hrun; cases hrun
   | bad=>rw [hr] at hrun; cases hrun
  grind
 grind
/- Groups. -/
def CutGood (G:Nat) (P:Program) (l:List Cut) : Prop:=∀ c∈l,∀ args H,H.next=c.n→sCut c args H≠.bad→WC G P c.f args H fun r=>r=sCut c args H
def FactGood (G:Nat) (P:Program) (l:List Fact) : Prop:=∀ c∈l,∀ args H,sFact c args H≠.bad→WC G P c.f args H fun r=>r=sFact c args H
theorem CutGood.nil:CutGood G P []:=fun c hc=>by cases hc
theorem FactGood.nil:FactGood G P []:=fun c hc=>by cases hc
theorem CutGood.append {l m:List Cut} (h:CutGood G P l) (k:CutGood G P m) : CutGood G P (l++m):=fun c hc=>(List.mem_append.1 hc).elim (h c) (k c)
theorem FactGood.append {l m:List Fact} (h:FactGood G P l) (k:FactGood G P m) : FactGood G P (l++m):=fun c hc=>(List.mem_append.1 hc).elim (h c) (k c)
noncomputable def cutsRun (O:CallF) (l:List Cut) : Bool:=List.rec (motive:=fun _=>Bool) true (fun c _ ih=>cutOk c (O c.f c.args (memOf c)) && ih) l
noncomputable def factsRun (G n:Nat) (O:CallF) (l:List Fact) : Bool:=List.rec (motive:=fun _=>Bool) true (fun c _ ih=>factOk G n c (O c.f c.args (memF G n c)) && ih) l
theorem CutGood.run {O:CallF} (hO:∀ B,CallOK B G P O) : ∀ {l:List Cut},cutsRun O l=true→CutGood G P l
 | [],_=>.nil
 | c :: l,h=>by
  have h' : (cutOk c (O c.f c.args (memOf c)) && cutsRun O l)=true:=h
  rw [Bool.and_eq_true] at h'
  intro c' hc'
  rcases List.mem_cons.1 hc' with rfl | hc'
  ·exact cut_w hO h'.1
  ·exact CutGood.run hO h'.2 c' hc'
theorem FactGood.run {n:Nat} {O:CallF} (hO:∀ B,CallOK B G P O) : ∀ {l:List Fact},factsRun G n O l=true→FactGood G P l
 | [],_=>.nil
 | c :: l,h=>by
  have h' : (factOk G n c (O c.f c.args (memF G n c)) && factsRun G n O l)=true:=h
  rw [Bool.and_eq_true] at h'
  intro c' hc'
  rcases List.mem_cons.1 hc' with rfl | hc'
  ·exact fact_w hO h'.1
  ·exact FactGood.run hO h'.2 c' hc'
theorem factsO_ok {O:CallF} (hO:∀ B,CallOK B G P O) : ∀ {l:List Fact},FactGood G P l→∀ B,CallOK B G P (factsO O l)
 | [],_,B=>hO B
 | c :: l,h,B=>by
  have ih:=factsO_ok hO (l:=l) (fun c' hc'=>h c' (List.mem_cons_of_mem _ hc'))
  intro f args H hne ρ us w s hv
  have he:factsO O (c :: l) f args H=match Nat.beq f c.f with
   | true=>orR (sFact c args H) (factsO O l f args H)
   | false=>factsO O l f args H:=rfl
  rw [he] at hne ⊢
  split at hne
  ·rename_i hf
   have hf':=Nat.eq_of_beq_eq_true hf
   subst hf'
   cases hs:sFact c args H with
   | bad=>rw [hs] at hne; exact ih B c.f args H hne ρ us w s hv
   | ret v H1 =>
    refine (h c (List.mem_cons_self ..) args H (by grind) B ρ us w s hv).mono ?_
    rintro e w' ⟨r,rfl,hc⟩
    rw [hs] at hc
    exact hc
   | panic v H1 =>
    refine (h c (List.mem_cons_self ..) args H (by grind) B ρ us w s hv).mono ?_
    rintro e w' ⟨r,rfl,hc⟩
    rw [hs] at hc
    exact hc
  ·exact ih B f args H hne ρ us w s hv
noncomputable def withO (fs:List Fact) (cs:List Cut) : CallF:=factsO (cutsO (fun _ _ _=>.bad) cs) fs
theorem withO_ok {fs:List Fact} {cs:List Cut} (hf:FactGood G P fs) (hc:CutGood G P cs) : ∀ B,CallOK B G P (withO fs cs) :=
 factsO_ok (cutsO_ok (fun B f args H hne=>absurd rfl hne) hc) hf
end Go.Ai
end
section
namespace Go.Ai
open Go.ChangeShapes Go.WideShapes Go.ChangeAt Go.RowKit
variable {H:Type} {enc:TypeId×Value→H} {P:Program}
theorem post_below {f:Func} {s:ChangeSpec} {apart fresh handsOn again:Bool} {W W' : World} {args:Array Value} {v:Value} {ds gs:List (DataW H)} {before pa pv:List MemPlace}
  (hW:DataW.Whole enc P f.params.toList s.vars apart W args.toList ds gs before)
  (hres:∀ (b:Nat) (sp:Nat→Bool) (hd:Bool),DataW.TrodAll enc P W' b sp hd f.resultTypes.toList (v.resultList f.resultTypes.size) (s.fn H (ds++gs)).results [])
  (hargs:∀ sp:Nat→Bool,(∀ p∈before,sp p.block=true)→DataW.TrodAll enc P W' 0 sp true f.params.toList args.toList (s.fn H (ds++gs)).args pa)
  (hvars:∀ sp:Nat→Bool,(∀ p∈before,sp p.block=true)→DataW.TrodVars enc P W' sp s.vars (s.fn H (ds++gs)).vars pv)
  (hps:before=pa++pv) (hB:Below W.heap.size W W')
  (hok:∀ (j:Nat) (t:TypeId) (r:Value),f.resultTypes[j]?=some t→(v.resultList f.resultTypes.size)[j]?=some r→Value.okWide P W' .any 0 t r) :
  s.post enc P f apart fresh handsOn again W args v W':=by
 have hlt:∀ p∈before,p.block < W.heap.size:=fun p hp=>hW.lt p hp
 have hold:∀ p∈before,(fun b=>decide (b < W.heap.size)) p.block=true:=fun p hp=>by grind
 refine ⟨ds,gs,before,[],pa,pv,hW,hres _ _ _,hargs _ hold,hvars _ hold,World.keptBut_mono (fun p hp=>⟨hp,?_⟩) (hB.frame (·∈before)),fun _=>?_⟩
 ·grind
 ·obtain ⟨_,_,_,_,_,hz,hn⟩:=hW
  refine ⟨hok,_,_,([]++pa)++pv,⟨[]++pa,pv,trodAll_append (hargs _ (fun _ _=>rfl)) (hres _ _ _),hvars _ (fun _ _=>rfl),rfl,?_,?_⟩,?_⟩
  ·intro b off hp
   have hp' : MemPlace.cell b off∈before:=by grind
   rw [hB.frozen (p:=⟨b,off,none⟩) (hlt _ hp')]
   exact hz b off hp'
  all_goals grind
end Go.Ai
end
section
namespace Go.Ai
section
variable {P:Program} {H:Mem} {ev:Ev} {d:Option Tmp} {ty:TypeId} {p:String} {af:Array Edge} {g:Option (Nat×Bool)}
theorem setNth_same {x:AV×AV} : ∀ {es:List (AV×AV×Nat)} {i b:Nat},es[i]?=some (x.1,x.2,b)→setNth x es i=es
 | [],i,b,h=>by cases i <;> rfl
 | (k,v,c) :: r,0,b,h=>by
  have h:some (k,v,c)=some (x.1,x.2,b):=h
  cases h; rfl
 | e :: r,i+1,b,h=>by
  show e :: setNth x r i=e :: r
  rw [setNth_same (b:=b) (by simpa using h)]
theorem mapUpdate_old {t kt et:TypeId} {a:Nat} {s:ByteArray} {l:List (ByteArray×Nat)} {c:Nat} (ht:P.underlying t=some (.map kt et)) (hk:P.underlying kt=some .string) (hg:H.get a=some (.map (sset l) c)) (hn:inSet s l=true) :
  mapUpdate P H t (.map a) (.lit (.string s)) (.lit (.bool true))=some (H.upd a (.map (sset l) c)):=by
 unfold mapUpdate
 rw [ht]
 dsimp only [toLit]
 rw [hg]
 dsimp only
 rw [checkKey_str (n:=9999) hk]
 have e:findK P kt (.string s) (sset l)=some (keyAt s (l.map fun x=>(x.1,AV.lit (.bool true),x.2)) 0):=findK_keys hk s _
 rw [e]
 have hs:=keyAt_spec s (l.map fun x=>(x.1,AV.lit (.bool true),x.2)) 0
 cases hka:keyAt s (l.map fun x=>(x.1,AV.lit (.bool true),x.2)) 0 with
 | none =>
  exfalso
  rw [hka] at hs
  unfold inSet at hn
  rw [List.any_eq_true] at hn
  obtain ⟨x,hx,h⟩:=hn
  exact hs (x.1,.lit (.bool true),x.2) (List.mem_map.2 ⟨x,hx,rfl⟩) (by simpa using h)
 | some j =>
  rw [hka] at hs
  obtain ⟨_,x,hx,hxs⟩:=hs
  rw [Nat.sub_zero,List.getElem?_map] at hx
  obtain ⟨y,hy,rfl⟩:=Option.map_eq_some_iff.1 hx
  have hxs:y.1=s:=hxs
  have hnth:(sset l)[j]?=some (.lit (.string s),.lit (.bool true),y.2):=by
   unfold sset smap; simp [hy,hxs]
  unfold updIn
  dsimp only
  rw [nth_eq,hnth]
  dsimp only
  have hb:Instr.sameBits 10000 (.string s) (.string s)=true:=by
   haveI:=ba_lawful
   simp [Instr.sameBits]
  rw [hb]
  dsimp only
  rw [Mem.setK_eq,setNth_same (b:=y.2) hnth]
theorem mapUpdate_ex2 {t:TypeId} {m k x:Operand} {a:Nat} {s:ByteArray} {l:List (ByteArray×Nat)} {c:Nat} {hm:ev m=some (.map a)} {hk:ev k=some (.lit (.string s))} {hx:ev x=some (.lit (.bool true))}
  {hg:H.get a=some (.map (sset l) c)} (h:isSet P t=true) (hn:inSet s l=true) :
  exB3 P H ev ⟨d,.mapUpdate t m k x,ty,p,af,g⟩ m k x a (.lit (.string s)) (.lit (.bool true)) (some (.map (sset l) c)) hm hk hx hg=.skip (H.upd a (.map (sset l) c)):=by
 show oMapUpdate P H t (ev m) (ev k) (ev x)=_
 obtain ⟨kt,et,h1,h2,h3⟩:=isSet_inv h
 unfold oMapUpdate
 rw [hm,hk,hx]
 dsimp only
 rw [mapUpdate_old h1 h2 hg hn]
attribute [simp] mapUpdate_ex2
end
end Go.Ai
end
section
namespace Go.Ai
open Go.ChangeShapes Go.WideShapes Go.ChangeAt Go.RowKit
variable {B G:Nat} {P:Program} {ρ:Rn} {w:World}
end Go.Ai
end
