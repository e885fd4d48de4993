/- A small verified interpreter over names, its proofs, and what was proved with it. No condition. -/
import Derived.Test.YtfllomlghjolpaaDoorW13
import Derived.Test.YtfllomlghjolpaaDoorW07
set_option linter.all false
set_option linter.deprecated false
section
namespace Go.Ai
open Go.Proofs
theorem wit_out {M:MachM} {x:NodeM} {s:Int} {g:Nat→Option Blk} {lo hi:Nat} {v:AV} {l e:Int} (h:WitR M x s g lo hi v l e) (hs:¬(0≤s∧s < M.rows.length)) : v=.lit (.slice none 0 0)∧l=0∧e=1:=by
 rcases h with ⟨_,h1,h2,h3⟩ | ⟨h,_⟩ | ⟨h,_⟩
 ·exact ⟨h1,h2,h3⟩
 ·exact absurd h hs
 ·exact absurd h hs
theorem wit_none {M:MachM} (hM:M.ok) {x:NodeM} {sn:Nat} {g:Nat→Option Blk} {lo hi:Nat} {v:AV} {l e:Int} (h:WitR M x sn g lo hi v l e) (hs:sn < M.rows.length) (ho:7≤x.op∧x.op≤10) {X:SetS} (hX:semN M x X) (hf:X sn=false) : v=.lit (.slice none 0 0)∧l=0∧e=7:=by
 rcases h with ⟨h,_⟩ | ⟨_,h,_⟩ | ⟨_,_,Y,hY,⟨_,h1,h2,h3⟩ | ⟨h,_⟩⟩
 ·omega
 ·exact absurd ho h
 ·exact ⟨h1,h2,h3⟩
 ·have:=semN_uniq hM x hX hY sn hs
  rw [Int.toNat_natCast] at h
  rw [hf,h] at this; cases this
theorem wit_some {M:MachM} (hM:M.ok) {x:NodeM} {sn:Nat} {g:Nat→Option Blk} {lo hi:Nat} {v:AV} {l e:Int} (h:WitR M x sn g lo hi v l e) (hs:sn < M.rows.length) (ho:7≤x.op∧x.op≤10) {X:SetS} (hX:semN M x X) (hf:X sn=true) :
  e=0∧∃ Y,eqS M.rows.length Y X∧((x.op=7∧l = -1∧∃ y B w,x.subs=[y]∧semN M y B∧wayM M sn (fun u=>decide (u=sn)) B 1=some w∧WordV g lo hi v w) ∨
    (x.op=8∧l = -1∧∃ y B w,x.subs=[y]∧semN M y B∧wayM M sn allS B 0=some w∧WordV g lo hi v w) ∨
    (x.op=10∧l = -1∧∃ y z A B w,x.subs=[y,z]∧semN M y A∧semN M z B∧wayM M sn A B 0=some w∧WordV g lo hi v w) ∨
    (x.op=9∧l=(lassoM M Y (M.rows.length+1) sn [] [sn]).2∧WordV g lo hi v (lassoM M Y (M.rows.length+1) sn [] [sn]).1)):=by
 rcases h with ⟨h,_⟩ | ⟨_,h,_⟩ | ⟨_,_,Y,hY,⟨h,h1,h2,h3⟩ | ⟨h,he,h4⟩⟩
 ·omega
 ·exact absurd ho h
 ·have:=semN_uniq hM x hX hY sn hs
  rw [Int.toNat_natCast] at h
  rw [hf,h] at this; cases this
 ·rw [Int.toNat_natCast] at h4
  exact ⟨he,Y,semN_uniq hM x hY hX,h4⟩
theorem wit_r0 {M:MachM} (hM:M.ok) {x:NodeM} {sn:Nat} {g:Nat→Option Blk} {lo hi:Nat} {v:AV} {l e:Int} (h:WitR M (un 7 x) sn g lo hi v l e) (hs:sn < M.rows.length) {X XA:SetS} (hX:semN M (un 7 x) X) (hf:X sn=true) (hA:semN M x XA) :
  e=0∧l = -1∧∃ w,wayM M sn (fun u=>decide (u=sn)) XA 1=some w∧WordV g lo hi v w∧w.length≤1000000:=by
 obtain ⟨h0,Y,hY,⟨_,h1,y,B,w,h2,h3,h4,h5⟩ | ⟨h,_⟩ | ⟨h,_⟩ | ⟨h,_⟩⟩:=wit_some hM h hs ⟨by show 7≤7; omega,by show 7≤10; omega⟩ hX hf
 ·have e1:x=y:=(List.cons.inj (show [x]=[y] from h2)).1
  subst e1
  rw [way_cong hM hs (fun _ _=>rfl) (semN_uniq hM x h3 hA)] at h4
  exact ⟨h0,h1,w,h4,h5,way_len hM hs h4⟩
 ·exact absurd h (show ¬(7:Nat)=8 by decide)
 ·exact absurd h (show ¬(7:Nat)=10 by decide)
 ·exact absurd h (show ¬(7:Nat)=9 by decide)
theorem wit_r1 {M:MachM} (hM:M.ok) {x:NodeM} {sn:Nat} {g:Nat→Option Blk} {lo hi:Nat} {v:AV} {l e:Int} (h:WitR M (un 8 x) sn g lo hi v l e) (hs:sn < M.rows.length) {X XA XB:SetS} (hX:semN M (un 8 x) X) (hf:X sn=true) (hA:semN M x XA) (hB:eqS M.rows.length XB allS) :
  e=0∧l = -1∧∃ w,wayM M sn XB XA 0=some w∧WordV g lo hi v w∧w.length≤1000000:=by
 obtain ⟨h0,Y,hY,⟨h,_⟩ | ⟨_,h1,y,B,w,h2,h3,h4,h5⟩ | ⟨h,_⟩ | ⟨h,_⟩⟩:=wit_some hM h hs ⟨by show 7≤8; omega,by show 8≤10; omega⟩ hX hf
 ·exact absurd h (show ¬(8:Nat)=7 by decide)
 ·have e1:x=y:=(List.cons.inj (show [x]=[y] from h2)).1
  subst e1
  rw [way_cong hM hs (fun u hu=>(hB u hu).symm) (semN_uniq hM x h3 hA)] at h4
  exact ⟨h0,h1,w,h4,h5,way_len hM hs h4⟩
 ·exact absurd h (show ¬(8:Nat)=10 by decide)
 ·exact absurd h (show ¬(8:Nat)=9 by decide)
theorem wit_r2 {M:MachM} (hM:M.ok) {x:NodeM} {sn:Nat} {g:Nat→Option Blk} {lo hi:Nat} {v:AV} {l e:Int} (h:WitR M (un 9 x) sn g lo hi v l e) (hs:sn < M.rows.length) {X:SetS} (hX:semN M (un 9 x) X) (hf:X sn=true) :
  e=0∧l=(lassoM M X (M.rows.length+1) sn [] [sn]).2∧WordV g lo hi v (lassoM M X (M.rows.length+1) sn [] [sn]).1:=by
 obtain ⟨h0,Y,hY,⟨h,_⟩ | ⟨h,_⟩ | ⟨h,_⟩ | ⟨_,h1,h2⟩⟩:=wit_some hM h hs ⟨by show 7≤9; omega,by show 9≤10; omega⟩ hX hf
 ·exact absurd h (show ¬(9:Nat)=7 by decide)
 ·exact absurd h (show ¬(9:Nat)=8 by decide)
 ·exact absurd h (show ¬(9:Nat)=10 by decide)
 ·rw [lasso_cong hM hY _ _ _ _ hs] at h1 h2
  exact ⟨h0,h1,h2⟩
theorem wit_r3 {M:MachM} (hM:M.ok) {x:NodeM} {sn:Nat} {g:Nat→Option Blk} {lo hi:Nat} {v:AV} {l e:Int} (h:WitR M (bi 10 (un 4 x) x) sn g lo hi v l e) (hs:sn < M.rows.length) {X XA XD:SetS} (hX:semN M (bi 10 (un 4 x) x) X) (hf:X sn=true) (hA:semN M x XA) (hD:semN M (un 4 x) XD) :
  e=0∧l = -1∧∃ w,wayM M sn XD XA 0=some w∧WordV g lo hi v w∧w.length≤1000000:=by
 obtain ⟨h0,Y,hY,⟨h,_⟩ | ⟨h,_⟩ | ⟨_,h1,y,z,A,B,w,h2,h3,h3',h4,h5⟩ | ⟨h,_⟩⟩:=wit_some hM h hs ⟨by show 7≤10; omega,by show 10≤10; omega⟩ hX hf
 ·exact absurd h (show ¬(10:Nat)=7 by decide)
 ·exact absurd h (show ¬(10:Nat)=8 by decide)
 ·have e0:=List.cons.inj (show [un 4 x,x]=[y,z] from h2)
  have e1:un 4 x=y:=e0.1
  have e2:x=z:=(List.cons.inj e0.2).1
  subst e1 e2
  rw [way_cong hM hs (semN_uniq hM _ h3 hD) (semN_uniq hM x h3' hA)] at h4
  exact ⟨h0,h1,w,h4,h5,way_len hM hs h4⟩
 ·exact absurd h (show ¬(10:Nat)=9 by decide)
theorem wit_one {M:MachM} {x:NodeM} {s:Int} {g:Nat→Option Blk} {lo hi:Nat} {v:AV} {l e:Int} (h:WitR M x s g lo hi v l e) : oneC v=true:=by
 rcases h with ⟨_,rfl,_⟩ | ⟨_,_,rfl,_⟩ | ⟨_,_,Y,_,⟨_,rfl,_⟩ | ⟨_,_,⟨_,_,_,_,_,_,_,_,h⟩ | ⟨_,_,_,_,_,_,_,_,h⟩ | ⟨_,_,_,_,_,_,_,_,_,_,_,h⟩ | ⟨_,_,h⟩⟩⟩
 ·rfl
 ·rfl
 ·rfl
 ·exact h.one
 ·exact h.one
 ·exact h.one
 ·exact h.one
end Go.Ai
end
