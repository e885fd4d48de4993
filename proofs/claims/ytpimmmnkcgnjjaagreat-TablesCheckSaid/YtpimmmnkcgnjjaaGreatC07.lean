/- A small verified interpreter over names, its proofs, and what was proved with it. No condition. -/
import Derived.Test.YtpimmmnkcgnjjaaGreatC06
set_option linter.all false
set_option linter.deprecated false
section
namespace Go.Ai
open Go.RowKit (Below)
variable {B G n n0 m l l1 lo:Nat} {P:Program} {ρ0 ρ:Rn} {w0 w wb:World} {x r:Option Nat} {I:Inv} {fr fr0:Fr} {ys:List Nat} {p:Option J} {H:Mem} {a:Act} {callf:CallF} {fuel:Nat}
theorem leaves_marks {fn:Func} {tmps:Array Value} {R:Ending→World→Prop} (hB:B≤lo) (hlo:wb.heap.size≤lo)
  (hR:∀ w',Sim B G ρ H w'→KD wb w'→Below B wb w'→∃ v,(results fn tmps).run P w'=.ok v w'∧R (.returned v) w') :
  ∀ (ds:List Deferred) (w:World),MKs lo ds w→Sim B G ρ H w→KD wb w→Below B wb w→LeavesInM (FR none) m P fn tmps R ds .returning w
 | [],w,_,h1,h2,h3=>hR w h1 h2 h3
 | d :: ds,w,⟨D,k1,k2,k3,k4,k5⟩,h1,h2,h3=>by
  refine ⟨by simp,.inl ⟨D,_,k1,run_takeDeferred k3,leaves_marks hB hlo hR ds _ (k5.keepBut (fun E hE=>World.putObj_heap_other hE) k4) (sim_putObj h1 k3 rfl) ?_ (h3.trans (below_putObj (Nat.le_trans hB k2)))⟩⟩
  intro k o hk ho
  have:=(Array.getElem?_eq_some_iff.1 hk).1
  rw [World.putObj_heap_other (by omega)]
  exact h2 k o hk ho
noncomputable def endE (P:Program) (fn:Func) (r:OutE) : COut:=match r with
 | .norm fr _ _ H=>(match resultsA P fn fr H with | some v=>.ret v H | none=>.bad)
 | .jump none fr _ _ H=>(match resultsA P fn fr H with | some v=>.ret v H | none=>.bad)
 | _=>.bad
noncomputable def enterEB (P:Program) (callf:CallF) (fuel:Nat) (fn:Func) (c:Code) (args:List AV) (H:Mem) : COut:=match dstsOk fn.ntmps c,Nat.ble (len args) fn.ntmps with
 | true,true=>endE P fn (putArgsK args (frame0 fn.ntmps) fun fr=>execE P callf yBad (rfR P callf fuel fn.ntmps) (loopE P callf yBad (rfR P callf fuel fn.ntmps) fuel) c fr [] none H)
 | _,_=>.bad
noncomputable def enterE (P:Program) (callf:CallF) (fuel:Nat) (f:FuncId) (args:List AV) (H:Mem) : COut:=match P.funcs[f]? with
 | some fn=>(match fn.body with
  | some c=>enterEB P callf fuel fn c args H
  | none=>.bad)
 | none=>.bad
theorem enterE_sound (hcs:∀ B,CallOK B G P callf) (hG:G=P.globals.size) : CallOK B G P (enterE P callf fuel):=by
 intro f args H hne ρ us w hs hv
 unfold enterE at hne ⊢
 split at hne
 ·rename_i fn hfn
  split at hne
  ·rename_i c hb
   unfold enterEB at hne ⊢
   split at hne
   ·rename_i hdst hlen
    rw [putArgsK_eq] at hne ⊢
    have hfe:=frame_entered (n:=fn.ntmps) hv (by rw [← len_eq]; exact Nat.le_of_ble_eq_true hlen)
    have s1:StE B G fn.ntmps H.next ρ w none 0 (Iv0 w.heap.size) ρ (putArgs args (frame0 fn.ntmps) 0) [] none H { tmps:=us++Array.replicate (fn.ntmps - us.size) undef,defers:=[] } w :=
     ⟨fun _ _=>rfl,KX.refl _ _,Below.refl _ _,hs,hfe,Nat.le_refl _,⟨rfl,Nat.le_refl _,trivial⟩,by simp⟩
    have hr:execE P callf yBad (rfR P callf fuel fn.ntmps) (loopE P callf yBad (rfR P callf fuel fn.ntmps) fuel) c (putArgs args (frame0 fn.ntmps) 0) [] none H≠.bad:=fun h0=>hne (by rw [h0]; rfl)
    have key:=execE_sound (r:=none) (x:=none) (l:=0) (m:=0) (I:=Iv0 w.heap.size) hcs hG yBad_ok IO_ok (rfR_ok hcs hG 0) (loopE_sound hcs hG yBad_ok IO_ok (rfR_ok hcs hG) fuel) c ρ w ρ _ [] none H _ w hdst s1 hr
    refine callsOfFR (r:=none) (m:=0) (callsIn_of_wp_marks hfn hb trivial (Code.wpIn_mono ?_ key))
    intro e a' w' h
    generalize execE P callf yBad (rfR P callf fuel fn.ntmps) (loopE P callf yBad (rfR P callf fuel fn.ntmps) fuel) c (putArgs args (frame0 fn.ntmps) 0) [] none H=o at h hne ⊢
    have fin:∀ {fr2:Fr} {ys2:List Nat} {p2:Option J} {H2:Mem} {ρ2:Rn},StE B G fn.ntmps H.next ρ w none 0 (Iv0 w.heap.size) ρ2 fr2 ys2 p2 H2 a' w' →
      (match resultsA P fn fr2 H2 with | some v=>COut.ret v H2 | none=>.bad)≠.bad→LeavesInM (FR none) 0 P fn a'.tmps (CPost B G H.next ρ w (match resultsA P fn fr2 H2 with | some v=>COut.ret v H2 | none=>.bad)) a'.defers .returning w':=by
     intro fr2 ys2 p2 H2 ρ2 s2 hn
     split at hn
     ·rename_i v hv2
      obtain ⟨_,_,i3⟩:=s2.inv
      refine leaves_marks (wb:=w) (lo:=w.heap.size) (ρ:=ρ2) (H:=H2) hs.base (Nat.le_refl _) (fun w4 g1 g2 g3=>?_) a'.defers w' i3 s2.sim s2.keeps.kd s2.below
      obtain ⟨u,hu1,hu2⟩:=results_sound (⟨Ext.refl _ _ _ _,g1,s2.frel,Nat.le_refl _⟩ : St B G fn.ntmps H2.next ρ2 w4 ρ2 fr2 H2 (Act.bare a') w4) hG hv2
      exact ⟨u,hu1,ρ2,⟨s2.same,g2,g3⟩,g1,hu2,s2.le⟩
     ·exact absurd rfl hn
    cases o with
    | norm fr2 ys2 p2 H2=>obtain ⟨rfl,ρ2,s2⟩:=h; exact fin s2 hne
    | jump jj fr2 ys2 p2 H2 =>
     cases jj with
     | none=>obtain ⟨rfl,ρ2,s2⟩:=h; exact fin s2 hne
     | some id=>exact absurd rfl hne
    | bad=>exact absurd rfl hne
   ·exact absurd rfl hne
  ·exact absurd rfl hne
 ·exact absurd rfl hne
def hasRange:Code→Bool
 | .seq a b=>hasRange a || hasRange b
 | .cond _ a b=>hasRange a || hasRange b
 | .block _ b=>hasRange b
 | .loop b=>hasRange b
 | .scope b=>hasRange b
 | .rangeFunc _ _ _ _=>true
 | _=>false
noncomputable def enterG (P:Program) (callf:CallF) (loopf:LoopF) (fuel:Nat) (f:FuncId) (args:List AV) (H:Mem) : COut:=match P.funcs[f]? with
 | some fn=>(match fn.body with
  | some c=>(match hasRange c with
   | true=>enterE P callf fuel f args H
   | false=>enterQ P callf loopf f args H)
  | none=>.bad)
 | none=>.bad
theorem enterG_sound {callf:CallF} {loopf:LoopF} (hcs:∀ B,CallOK B G P callf) (hl:LoopOK B G P loopf) (hG:G=P.globals.size) : CallOK B G P (enterG P callf loopf fuel):=by
 intro f args H hne
 unfold enterG at hne ⊢
 split at hne
 ·split at hne
  ·split at hne
   ·exact enterE_sound hcs hG f args H hne
   ·exact enterQ_sound hcs hl hG f args H hne
  ·exact absurd rfl hne
 ·exact absurd rfl hne
noncomputable def bothG (P:Program) (O:CallF) (n:Nat) : CallF×LoopF :=
 Nat.rec (motive:=fun _=>CallF×LoopF) (fun _ _ _=>.bad,fun _ _ _=>.bad) (fun k ih=>(orC O (enterG P ih.1 ih.2 k),execF P ih.1 ih.2)) n
noncomputable def callG (P:Program) (O:CallF) (n:Nat) : CallF:=(bothG P O n).1
theorem bothG_sound {O:CallF} (hO:∀ B,CallOK B G P O) (hG:G=P.globals.size) : ∀ n,(∀ B,CallOK B G P (bothG P O n).1)∧∀ B,LoopOK B G P (bothG P O n).2
 | 0=>⟨fun B f args H hne=>absurd rfl hne,fun B b n n0 ρ0 w0 ρ fr H a w hd s hne=>absurd rfl hne⟩
 | m+1=>by
  obtain ⟨hc,hl⟩:=bothG_sound hO hG m
  refine ⟨fun B=>orC_ok (hO B) (enterG_sound hc (hl B) hG),fun B b n n0 ρ0 w0 ρ fr H a w hd s hne=>?_⟩
  exact good_loopF (hl B) (execF_sound hc (hl B) hG b) n n0 ρ0 w0 ρ fr H a w hd s hne
theorem callG_ok {O:CallF} (hO:∀ B,CallOK B G P O) (hG:G=P.globals.size) (fuel:Nat) : ∀ B,CallOK B G P (callG P O fuel):=(bothG_sound hO hG fuel).1
end Go.Ai
end
