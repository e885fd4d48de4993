/- A small verified interpreter over names, its proofs, and what was proved with it. No condition. -/
import Derived.Test.YtiddfilinnbhaaaGreatDoorCards
import Derived.Test.YtiddfilinnbhaaaGreatDoorTie
import Derived.WalkKit
import Derived.OpenShut
import Derived.Deep.DeepHandedRow
import Derived.LaidOnce
import Derived.Lay
import Derived.Test.YtiddfilinnbhaaaGreatDoorB12
import Derived.Test.YtiddfilinnbhaaaGreatDoorB20
import Derived.Test.YtiddfilinnbhaaaGreatDoorB05
import Derived.Test.YtiddfilinnbhaaaGreatDoorB08
set_option linter.all false
set_option linter.deprecated false
section
namespace Go.Ai
open Go.Proofs Go.ChangeShapes Go.WideShapes Go.ChangeAt Go.RowKit
set_option maxRecDepth 10000
variable {H:Type} {enc:TypeId×Value→H}
theorem calls_B {W:World} {v0:Value} {d0:DataW H} {p0:List MemPlace} {base:Nat} (hL:W.ShapedOpen Tryz.prog) (h0:DataW.Trod enc Tryz.prog W 0 (fun _=>true) true 52 v0 d0 p0) (k0:Value.okWide Tryz.prog W .any base 52 v0) :
  Calls Tryz.prog 8 #[v0] W fun e W'=>e=.returned (.bool true)∧Below W.heap.size W W':=by
 simp only [Value.okWide,Tryz.underlying52] at k0
 obtain ⟨cm,rfl,_⟩:=k0
 obtain ⟨f0,h0⟩:=h0
 obtain ⟨m,g,ρ,hg0,s,hno⟩:=start34 hL
 obtain ⟨st,inp,out,part,es,ev,ws,wv,ia,ib,ic,g1,n1,e1,t1,t2,t3,a1,a2,a3⟩:=G_mk f0 _ d0 p0 h0 f0 (Nat.le_refl _) g 3
 obtain ⟨ρ1,M1⟩:=mkD_sound (sp:=fun _=>true) (fun _=>rfl) (noTok_ok enc) f0 f0 52 _ d0 p0 ⟨.fn g,3⟩ _ _ ρ h0 (fun h=>by cases h) s hno e1
 have hw:=tracesBack_w (part:=part) ia ib ic a1 a2 a3 m g1 n1 t3 ((t2 0 (by omega)).trans hg0) (by omega)
 refine (hw W.heap.size ρ1 #[.agg cm] W M1.sim ?_).mono ?_
 ·exact ⟨_,_,rfl,⟨cm,rfl,M1.vals⟩,rfl⟩
 ·rintro e W' ⟨r,rfl,hcp⟩
  cases e with
  | returned u=>obtain ⟨ρ',q1,q2,q3,q4⟩:=hcp; exact ⟨congrArg _ q3,q1.below⟩
  | _=>exact hcp.elim
end Go.Ai
end
section
namespace Go.Proofs.YtiddfilinnbhaaaGreatDoor
open Go Go.Ai Go.ChangeShapes Go.WideShapes Go.ChangeAt Go.RowKit
theorem own:ownKnob Tryz.prog.godebug=none:=by kernel_rfl
theorem laidOut:laidOutB Tryz.prog=true:=by kernel_rfl
noncomputable def door (os:Os) : World:=World.laidAll Tryz.prog os Rows.tracesCheckRow.laid
theorem door_met (os:Os) (args:Array Value) : laidMetH Tryz.prog Rows.tracesCheckRow.laid ((door os).forCall (fun _ _=>0) ⟨#[],args,[]⟩).memory:=by
 rw [MakeChecks.laidMetH_plain _ _ _ (by kernel_rfl)]
 exact laidMet_laidAll _ (by kernel_rfl) (by kernel_rfl)
end Go.Proofs.YtiddfilinnbhaaaGreatDoor
end
