/- A small verified interpreter over names, its proofs, and what was proved with it. No condition. -/
import Derived.Test.YtpimmmnkcgnjjaaGreatP20
import Derived.Test.YtpimmmnkcgnjjaaGreatP25
set_option linter.all false
set_option linter.deprecated false
section
namespace Go.Ai
open Go.Proofs Go.ChangeShapes Go.WideShapes Go.ChangeAt Go.RowKit
set_option maxRecDepth 10000
variable {H:Type} {enc:TypeId×Value→H}
theorem calls_P {W:World} {v0 v1:Value} {d0 d1:DataW H} {p0 p1:List MemPlace} {base:Nat} (h0:DataW.Trod enc Tryz.prog W 0 (fun _=>true) true 44 v0 d0 p0) (h1:DataW.Trod enc Tryz.prog W 0 (fun _=>true) true 65 v1 d1 p1) (k0:Value.okWide Tryz.prog W .any base 44 v0) (k1:Value.okWide Tryz.prog W .any base 65 v1) (hL:laidMetH Tryz.prog [] W) :
  Calls Tryz.prog 9 #[v0,v1] W fun e W'=>e=.returned (.bool true)∧Below W.heap.size W W':=by
 have c1:v1.cells.toList=[v1]:=okWide_cells k1 (by intro fs; rw [Tryz.underlying65]; simp) (by intro n e; rw [Tryz.underlying65]; simp)
 simp only [Value.okWide,Tryz.underlying44] at k0
 obtain ⟨cm,rfl,_⟩:=k0
 obtain ⟨f0,h0⟩:=h0
 obtain ⟨f1,h1⟩:=h1
 rw [c1] at h1
 obtain ⟨g,n,ρ,s,hno⟩:=start36 hL
 obtain ⟨st,inp,out,part,es,ev,ws,wv,ia,ib,ic,sb,sbv,eb,ebv,full,g1,n1,e1,t1,t2,t3⟩:=Q_mk f0 _ d0 p0 h0 f0 (Nat.le_refl _) g n
 obtain ⟨ρ1,M1⟩:=mkD_sound (sp:=fun _=>true) (fun _=>rfl) (noTok_ok enc) f0 f0 44 _ d0 p0 ⟨.fn g,n⟩ _ _ ρ h0 (fun h=>by cases h) s hno e1
 obtain ⟨avs,g2,n2,w,e2,u1,u2,xv,rfl,u3,u4⟩:=word_mk f1 _ d1 p1 h1 f1 (Nat.le_refl _) g1 n1
 obtain ⟨ρ2,M2⟩:=mkD_sound (sp:=fun _=>true) (fun _=>rfl) (noTok_ok enc) f1 f1 65 _ d1 p1 ⟨.fn g1,n1⟩ _ _ ρ1 h1 (fun h=>by cases h) M1.sim M1.no e2
 have hv1:VR ρ2 xv v1:=by obtain ⟨_,_,e,h,_⟩:=M2.vals; cases e; exact h
 have hw:=tablesPut_w (part:=part) ia ib ic (full:=full) g2 n2 (t3.mono u1 u2) xv u3 u4
 refine (hw W.heap.size ρ2 #[.agg cm,v1] W M2.sim ?_).mono ?_
 ·exact ⟨_,_,rfl,⟨cm,rfl,M1.vals.mono (M2.sub M1.sim)⟩,_,_,rfl,hv1,rfl⟩
 ·rintro e W' ⟨r,rfl,hcp⟩
  cases e with
  | returned u=>obtain ⟨ρ',q1,q2,q3,q4⟩:=hcp; exact ⟨congrArg _ q3,q1.below⟩
  | _=>exact hcp.elim
end Go.Ai
end
