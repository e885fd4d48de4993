/- Parts of an interpreter and of a proof. No condition. -/
import Derived.Test.YtpimmmnkcgnjjaaGreatA30
import Derived.Test.YtpimmmnkcgnjjaaGreatA31
set_option linter.all false
set_option maxRecDepth 10000
namespace Go.Ai
structure BF (I:Nat) (O:Int) (ts:Lq) (T:Tq) (W:Wq):Prop where
 lab:Lab T W
 tl:TL I O (valT ts) (Bi ts) T W
 ne:0<T.length
 len:T.length<=60000
 cnt:(endsM T 0).length<=200
 wl:∀t,t<T.length->(W.getD t []).length<=256
 el:∀s∈endsM T 0,(eW W s).length<=256
 sum:Ca W (endsM T 0)<=65536
theorem BF.of{I:Nat}{O:Int}{ts:Lq}(A:Cg I O ts)(hC:Eb ts)(a3:goT I O (Aj I ts) 0 1=some (Aj I ts).length):BF I O ts (Aj I ts) (Bd (Aj I ts)):=by
 have a4:=A.i1;have a5:=A.i2;have Z:=A.o1;have a6:=A.o2;have a7:=A.len;have a8:=e4c A.wl;have hl:(Aj I ts).length<=60000:=by grind[Sf]
 have h0:0<(Aj I ts).length:=by rw[Sf];exact e6y ((J2 A.ok hC []).2 (.inl rfl))
 have a1:Ej I O (Aj I ts)=0:=by
  (simp_all[Ej];grind)
 have U:=e3t a1;have D:TL I O (valT ts) (Bi ts) (Aj I ts) (Bd (Aj I ts)):=⟨a5d A.ok hC,(Ob A.ok).1,rfl,U,λx i o h=>Vp A.ok h⟩;have a9:∀x∈Bi ts,x.length<=256:=λx hx=>by
  rcases ((Ob A.ok).2 x).1 hx with rfl|⟨t,Q,k,hk,_,rfl⟩
  .simp
  .have:=A.wl t Q;grind
 have a2:(endsM (Aj I ts) 0).length<=200:=by
  have h1:=TL.count Z D (X:=(bkM (Aj I ts) (Bd (Aj I ts))).map λu=>u.1) (λx hx=>by
   obtain⟨u,hu,rfl⟩:=Xc.1 hx;exact((bkM_of u).1 hu).1) U.nodup
  grind[bkM]
 have a0:∀s∈endsM (Aj I ts) 0,(eW (Bd (Aj I ts)) s).length<=256:=λs hs=>TL.short Z D A.wl ⟨s,hs,rfl⟩;refine⟨U,D,h0,hl,a2,λt Q=>?_,a0,?_⟩
 .rw[Sf] at Q;rw[D.weq t t (Wy _) Q];grind
 .have:=b6k a0;omega
theorem BF.us{I:Nat}{O:Int}{ts us:Lq}(A:Cg I O ts)(h:BF I O ts (Aj I ts) (Bd (Aj I ts)))(Q:us.Perm (bkM (Aj I ts) (Bd (Aj I ts))))(hs:∀(i j:Nat)(_:i<j)(U:j<us.length),¬ A4 us[j].1 (us[i]'(by omega)).1<0):
  Cg I O us/\Ea us us 0=none/\Aj I us=Aj I ts/\(rbk (Bd (Aj I ts)) [] (endsM (Aj I ts) 0)).map (λw=>(w,Bm (Aj I ts) 0 w))=us/\us.length=(endsM (Aj I ts) 0).length/\∀(i j:Nat)(_:i<j)(U:j<us.length),A4 (us[i]'(by omega)).1 us[j].1<0:=by
 have D:Ga (Aj I ts) (Bd (Aj I ts)) us:=bkM_of.perm Q;have a1:=h.tl.valid A.o1 D;have a2:us.length=(endsM (Aj I ts) 0).length:=by rw[Q.length_eq];simp[bkM]
 have Z:=h.lab.srtU Q hs;have a5:=h.cnt;have a0:Cg I O us:=⟨by omega,A.i1,A.i2,A.o1,A.o2,λu hu=>by
  obtain⟨s,a3,he⟩:=((D u).1 hu).1;rw[he];exact h.el s a3,a1⟩
 refine⟨a0,(Sc λt ht=>(a0.lens ht).1).2 (h.tl.cons A.o1 D),h.tl.rowsU A.o1 D,e4e D Z.1,a2,λi j a4 U=>?_⟩
 .have h1:=Z.1 i j (by rw[Xl];omega) (by rw[Xl];exact U) a4;rw[e6k,e6k] at h1;exact Fa.2 h1
end Go.Ai
