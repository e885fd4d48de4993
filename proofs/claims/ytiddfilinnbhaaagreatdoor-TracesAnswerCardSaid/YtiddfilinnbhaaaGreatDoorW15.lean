/- A small verified interpreter over names, its proofs, and what was proved with it. No condition. -/
import Derived.Test.YtiddfilinnbhaaaGreatDoorCards
import Derived.Test.YtiddfilinnbhaaaGreatDoorTie
import Derived.WalkKit
import Derived.OpenShut
import Derived.Deep.DeepHandedRow
import Derived.LaidOnce
import Derived.Lay
import Derived.Test.YtiddfilinnbhaaaGreatDoorW11
import Derived.Test.YtiddfilinnbhaaaGreatDoorW14
import Derived.Test.YtiddfilinnbhaaaGreatDoorW05
import Derived.Test.YtiddfilinnbhaaaGreatDoorW07
set_option linter.all false
set_option linter.deprecated false
section
namespace Go.Ai
open Go.Proofs Go.ChangeShapes Go.WideShapes Go.ChangeAt Go.RowKit
set_option maxRecDepth 10000
variable {H:Type} {enc:TypeId×Value→H}
theorem calls_W {W:World} {v0 v1:Value} {d0 d1:DataW H} {p0 p1:List MemPlace} {base:Nat} (hL:W.ShapedOpen Tryz.prog) (h0:DataW.Trod enc Tryz.prog W 0 (fun _=>true) true 52 v0 d0 p0) (h1:DataW.Trod enc Tryz.prog W 0 (fun _=>true) true 67 v1 d1 p1) (k0:Value.okWide Tryz.prog W .any base 52 v0) (k1:Value.okWide Tryz.prog W .any base 67 v1) :
  Calls Tryz.prog 7 #[v0,v1] W fun e W'=>e=.returned (.bool true)∧Below W.heap.size W W':=by
 have c1:v1.cells.toList=[v1]:=okWide_cells k1 (by intro fs; rw [Tryz.underlying67]; simp) (by intro n e; rw [Tryz.underlying67]; simp)
 simp only [Value.okWide,Tryz.underlying52] at k0
 obtain ⟨cm,rfl,_⟩:=k0
 obtain ⟨f0,h0⟩:=h0
 obtain ⟨f1,h1⟩:=h1
 rw [c1] at h1
 obtain ⟨m,g,ρ,hg0,s,hno⟩:=start34 hL
 obtain ⟨st,inp,out,part,es,ev,ws,wv,ia,ib,ic,g1,n1,e1,t1,t2,t3,a1,a2,a3⟩:=G_mk f0 _ d0 p0 h0 f0 (Nat.le_refl _) g 3
 obtain ⟨ρ1,M1⟩:=mkD_sound (sp:=fun _=>true) (fun _=>rfl) (noTok_ok enc) f0 f0 52 _ d0 p0 ⟨.fn g,3⟩ _ _ ρ h0 (fun h=>by cases h) s hno e1
 obtain ⟨avs,g2,n2,bs,e2,u1,u2,bv,rfl,u3,u4⟩:=bytes_mk f1 _ d1 p1 h1 f1 (Nat.le_refl _) g1 n1
 obtain ⟨ρ2,M2⟩:=mkD_sound (sp:=fun _=>true) (fun _=>rfl) (noTok_ok enc) f1 f1 67 _ d1 p1 ⟨.fn g1,n1⟩ _ _ ρ1 h1 (fun h=>by cases h) M1.sim M1.no e2
 have hv1:VR ρ2 bv v1:=by obtain ⟨_,_,e,h,_⟩:=M2.vals; cases e; exact h
 have hw:=tracesAnswer_w (part:=part) ia ib ic a1 a2 a3 bs u4 bv m g2 n2 (t3.mono u1 u2) u3 (((u2 0 (by omega)).trans (t2 0 (by omega))).trans hg0) (by omega)
 refine (hw W.heap.size ρ2 #[.agg cm,v1] W M2.sim ?_).mono ?_
 ·exact ⟨_,_,rfl,⟨cm,rfl,M1.vals.mono (M2.sub M1.sim)⟩,_,_,rfl,hv1,rfl⟩
 ·rintro e W' ⟨r,rfl,hcp⟩
  cases e with
  | returned u=>obtain ⟨ρ',q1,q2,q3,q4⟩:=hcp; exact ⟨congrArg _ q3,q1.below⟩
  | _=>exact hcp.elim
end Go.Ai
end
section
namespace Go.Proofs.YtiddfilinnbhaaaGreatDoor
open Go Go.Ai Go.ChangeShapes Go.WideShapes Go.ChangeAt Go.RowKit
theorem own:ownKnob Tryz.prog.godebug=none:=by kernel_rfl
theorem laidOut:laidOutB Tryz.prog=true:=by kernel_rfl
noncomputable def door (os:Os) : World:=World.laidAll Tryz.prog os Rows.tracesCheckRow.laid
theorem door_met (os:Os) (args:Array Value) : laidMetH Tryz.prog Rows.tracesCheckRow.laid ((door os).forCall (fun _ _=>0) ⟨#[],args,[]⟩).memory:=by
 rw [MakeChecks.laidMetH_plain _ _ _ (by kernel_rfl)]
 exact laidMet_laidAll _ (by kernel_rfl) (by kernel_rfl)
end Go.Proofs.YtiddfilinnbhaaaGreatDoor
end
