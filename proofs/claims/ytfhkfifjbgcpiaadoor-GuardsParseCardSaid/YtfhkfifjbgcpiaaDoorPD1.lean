/- A small verified interpreter over names, its proofs, and what was proved with it. No condition. -/
import Derived.Test.YtfhkfifjbgcpiaaDoorPA4
import Derived.Test.YtfhkfifjbgcpiaaDoorPC6
set_option linter.all false
set_option linter.deprecated false
section
namespace Go.Ai
section
variable {P:Program} {H:Mem} {ev:Ev} {d:Option Tmp} {ty:TypeId} {p:String} {af:Array Edge} {g:Option (Nat×Bool)} {x y:Operand} {s t:TypeId} {size bytes:Nat}
noncomputable def apF (q:Option (Nat×Nat)) (k off:Nat) (ga gb:Option Blk) (H:Mem) (els:R) : R:=match q,ga,gb with
  | some (size,bytes),some (.cells l0 _ _),some (.cells l _ _)=>if 0 < size∧bytes≤1048576∧l.length=size∧off+(k+1) * size≤l0.length∧k≤1000000 then .val (.slq H.next 0 (k+1+1) 0) (H.add (.cells ((l0.drop off).take ((k+1) * size)++l) true size)) else els
  | _,_,_=>els
theorem ap_full' {a b c off k:Nat} {hx:ev x=some (.sl a off (k+1) (k+1))} {hy:ev y=some (.sl b 0 1 c)} :
    ex2 P H ev ⟨d,.call ⟨.builtin .append,#[x,y],#[s,t]⟩,ty,p,af,g⟩ x y (some (.sl a off (k+1) (k+1))) (some (.sl b 0 1 c)) hx hy=apF (apI P s t) k off (H.get a) (H.get b) H (opV P H ev ⟨d,.call ⟨.builtin .append,#[x,y],#[s,t]⟩,ty,p,af,g⟩):=by
  unfold apF
  split
  · rename_i size bytes l0 o0 z0 l own z h1 h2 h3
    split
    · rename_i h
      obtain ⟨e1,e2,e3,e4,e5⟩:=h
      show opV P H ev _=_
      rw [append_of hx hy h1,appendN_full (n:=0) rfl e1 (firstL_row h3 (by omega)) (by omega) h2 e4 (by omega) (by omega) e2]
    · rfl
  · rfl
theorem apF_congr {tk:Nat} (_h0:tick=tk) {q q' : Option (Nat×Nat)} {k off:Nat} {ga ga' gb gb' : Option Blk} {H:Mem} {els:R} (h1:q=q') (h2:ga=ga') (h3:gb=gb') : apF q k off ga gb H els=apF q' k off ga' gb' H els:=by rw [h1,h2,h3]
attribute [congr] apF_congr
variable {els:R} {z w:Nat} {l l0:List AV} {own own0:Bool} {k n off:Nat} {G:Nat→Option Blk}
theorem apF_ok (h1:0 < size) (h2:bytes≤1048576) (h3:l.length=size) (h4:off+(k+1) * size≤l0.length) (h5:k≤1000000) :
    apF (some (size,bytes)) k off (some (.cells l0 own0 w)) (some (.cells l own z)) ⟨.fn G,n⟩ els=.val (.slq n 0 (k+1+1) 0) ⟨.fn (gput G n (some (.cells ((l0.drop off).take ((k+1) * size)++l) true size))),n+1⟩:=if_pos ⟨h1,h2,h3,h4,h5⟩
attribute [simp] ap_full' apF_ok
end
end Go.Ai
end
section
namespace Go.Ai
open Go.Proofs
set_option maxRecDepth 10000
set_option maxHeartbeats 4000000
/-! ### The plain law: one more variable makes no difference. -/
end Go.Ai
end
section
namespace Go.Ai
open Go.Proofs
set_option maxRecDepth 10000
set_option maxHeartbeats 4000000
end Go.Ai
end
