/- A small verified interpreter over names, its proofs, and what was proved with it. No condition. -/
import Derived.Test.YtfllomlghjolpaaDoorD06
import Derived.Test.YtfllomlghjolpaaDoorD05
set_option linter.all false
set_option linter.deprecated false
section
namespace Go.Ai
open Go.ChangeShapes Go.WideShapes Go.ChangeAt Go.RowKit
variable {B G:Nat} {P:Program} {ρ:Rn} {w:World}
theorem vrs_lits {ρ:Rn} {k:IntKind} : ∀ (zs:List Int),VRs ρ (zs.map fun z=>.lit (.int k z)) (zs.map fun z=>.int k z)
  | []=>rfl
  | z :: zs=>⟨.int k z,_,rfl,rfl,vrs_lits zs⟩
theorem name_ints {k:IntKind} {g:Nat→Option Blk} {n:Nat} {v:Value} (s:Sim B G ρ ⟨.fn g,n⟩ w) (hno:NoOwn ⟨.fn g,n⟩)
    (h:v=.slice none 0 0∨∃ (a:Addr) (len cap:Nat) (zs:List Int),v=.slice (some a) len cap∧len≤cap∧zs.length=cap∧∀ i,i < zs.length→w.cell? (a.add i)=some (.int k (zs.getD i 0))) :
    ∃ (ρ' : Rn) (g' : Nat→Option Blk) (n' : Nat) (av:AV) (zs:List Int),Sim B G ρ' ⟨.fn g',n'⟩ w∧NoOwn ⟨.fn g',n'⟩∧VR ρ' av v∧Sub ρ ρ'∧oneC av=true∧n≤n'∧(∀ a,a < n→g' a=g a) ∧
      ((zs.length=0∧(av=.lit (.slice none 0 0)∨av=.es))∨∃ c,av=.sl n 0 zs.length c∧n < n'∧Row g' n 0 (zs.map fun z=>.lit (.int k z))) ∧
      (v=.slice none 0 0→zs=[])∧(∀ (a:Addr) (len cap:Nat) (ys:List Int),v=.slice (some a) len cap→(∀ i,i < ys.length→w.cell? (a.add i)=some (.int k (ys.getD i 0)))→ys.length=cap→len≤cap→zs=ys.take len):=by
  rcases h with rfl | ⟨a,len,cap,zs,rfl,hlen,hz,hc⟩
  · exact ⟨ρ,g,n,.lit (.slice none 0 0),[],s,hno,rfl,fun _ _ h=>h,rfl,Nat.le_refl _,fun _ _=>rfl,.inl ⟨rfl,.inl rfl⟩,fun _=>rfl,fun a len cap ys h=>by cases h⟩
  · have hys:∀ ys:List Int,(∀ i,i < ys.length→w.cell? (a.add i)=some (.int k (ys.getD i 0)))→ys.length=cap→ys=zs:=by
      intro ys h1 h2
      refine List.ext_getElem (by omega) fun i h3 h4=>?_
      have e:=(h1 i h3).symm.trans (hc i h4)
      simp only [Option.some.injEq,Value.int.injEq,true_and] at e
      rw [List.getD_eq_getElem?_getD,List.getD_eq_getElem?_getD,List.getElem?_eq_getElem h3,List.getElem?_eq_getElem h4] at e
      exact e
    by_cases h0:cap=0
    · subst h0
      have hl0:len=0:=by omega
      subst hl0
      exact ⟨ρ,g,n,.es,[],s,hno,⟨a,0,rfl⟩,fun _ _ h=>h,rfl,Nat.le_refl _,fun _ _=>rfl,.inl ⟨rfl,.inr rfl⟩,fun _=>rfl,fun a' len' cap' ys h1 h2 h3 h4=>by
        cases h1; rw [List.take_zero]⟩
    · obtain ⟨b,o,spt⟩:=a
      have hsp:spt=none:=by
        have h1:=hc 0 (by omega)
        have h2:(Addr.mk b o spt).add 0=⟨b,o,spt⟩:=by unfold Addr.add; rw [if_pos rfl]
        rw [h2] at h1
        exact spot_of_cell h1
      subst hsp
      have hbr:∀ ρ' : Rn,BR B ρ' (.cells (zs.map fun z=>.lit (.int k z)) false 0) b o 0 w:=fun ρ' =>
        br_of_cells (vrs_lits zs) (by intro e; have:=congrArg List.length e; simp at this; subst this; simp at hz; omega) (fun i hi=>by
          have hi' : i < zs.length:=by simpa using hi
          have h1:=hc i hi'
          rw [Addr.add_eq] at h1
          rw [h1,List.getElem?_map,List.getElem?_eq_getElem hi',List.getD_eq_getElem?_getD,List.getElem?_eq_getElem hi']
          rfl)
      have s2:=s.see hno (x:=.cells (zs.map fun z=>.lit (.int k z)) false 0) (b:=b) (o:=o) (k:=0) rfl (hbr _)
      refine ⟨_,gput g n (some (.cells (zs.map fun z=>.lit (.int k z)) false 0)),n+1,.sl n 0 len cap,zs.take len,s2,hno.add rfl,⟨b,o,0,upd_same _ _ _,hlen,rfl⟩,sub_upd s.none,rfl,Nat.le_succ _,fun a ha=>gput_lt ha,.inr ⟨cap,?_,Nat.lt_succ_self _,?_⟩,(fun h=>by cases h),fun a' len' cap' ys h1 h2 h3 h4=>?_⟩
      · rw [List.length_take,Nat.min_eq_left (by omega)]
      · refine ⟨zs.map fun z=>.lit (.int k z),false,0,if_pos rfl,?_,?_⟩
        · simp; omega
        · rw [List.drop_zero,List.length_map,← List.map_take,List.length_take,Nat.min_eq_left (by omega)]
      · cases h1
        rw [hys ys h2 h3]
end Go.Ai
end
