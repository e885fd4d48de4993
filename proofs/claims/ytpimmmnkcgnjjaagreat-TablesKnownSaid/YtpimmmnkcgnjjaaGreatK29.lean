/- Parts of an interpreter and of a proof. No condition. -/
import Derived.Test.YtpimmmnkcgnjjaaGreatK27
import Derived.Test.YtpimmmnkcgnjjaaGreatK28
set_option linter.all false
set_option maxRecDepth 10000
namespace Go.Ai
structure BF (I:Nat) (O:Int) (ts:Lq) (T:Tq) (W:Wq):Prop where
 lab:Lab T W
 tl:TL I O (valT ts) (Dm ts) T W
 ne:0<T.length
 len:T.length<=60000
 cnt:(endsM T 0).length<=200
 wl:∀t,t<T.length->(W.getD t []).length<=256
 el:∀s∈endsM T 0,(eW W s).length<=256
 sum:Bv W (endsM T 0)<=65536
theorem BF.of{I:Nat}{O:Int}{ts:Lq}(f:Cc I O ts)(hC:Ej ts)(a2:goT I O (Aj I ts) 0 1=some (Aj I ts).length):BF I O ts (Aj I ts) (Bk (Aj I ts)):=by
 have a3:=f.i1;have a4:=f.i2;have U:=f.o1;have a5:=f.o2;have a6:=f.len;have a7:=e3k f.wl;have hl:(Aj I ts).length<=60000:=by grind[a5d]
 have h0:0<(Aj I ts).length:=by rw[a5d];exact e7k ((Pq f.ok hC []).2 (.inl rfl))
 have a0:D5 I O (Aj I ts)=0:=by
  (simp_all[D5];grind)
 have Q:=e3b a0;have A:TL I O (valT ts) (Dm ts) (Aj I ts) (Bk (Aj I ts)):=⟨a5e f.ok hC,(N3 f.ok).1,rfl,Q,λx i o h=>Vq f.ok h⟩;have a8:∀x∈Dm ts,x.length<=256:=λx hx=>by
  rcases ((N3 f.ok).2 x).1 hx with rfl|⟨t,D,k,hk,_,rfl⟩
  .simp
  .have:=f.wl t D;grind
 have a1:(endsM (Aj I ts) 0).length<=200:=by
  have h1:=TL.count U A (X:=(bkM (Aj I ts) (Bk (Aj I ts))).map λu=>u.1) (λx hx=>by
   obtain⟨u,hu,rfl⟩:=Xc.1 hx;exact((bkM_of u).1 hu).1) Q.nodup
  grind[bkM]
 have Z:∀s∈endsM (Aj I ts) 0,(eW (Bk (Aj I ts)) s).length<=256:=λs hs=>TL.short U A f.wl ⟨s,hs,rfl⟩;refine⟨Q,A,h0,hl,a1,λt D=>?_,Z,?_⟩
 .rw[a5d] at D;rw[A.weq t t (Wy _) D];grind
 .have:=b6c Z;omega
theorem BF.us{I:Nat}{O:Int}{ts us:Lq}(f:Cc I O ts)(h:BF I O ts (Aj I ts) (Bk (Aj I ts)))(D:us.Perm (bkM (Aj I ts) (Bk (Aj I ts))))(hs:∀(i j:Nat)(_:i<j)(Q:j<us.length),¬ Bx us[j].1 (us[i]'(by omega)).1<0):
  Cc I O us/\Dv us us 0=none/\Aj I us=Aj I ts/\(rbk (Bk (Aj I ts)) [] (endsM (Aj I ts) 0)).map (λw=>(w,Bh (Aj I ts) 0 w))=us/\us.length=(endsM (Aj I ts) 0).length/\∀(i j:Nat)(_:i<j)(Q:j<us.length),Bx (us[i]'(by omega)).1 us[j].1<0:=by
 have A:Gw (Aj I ts) (Bk (Aj I ts)) us:=bkM_of.perm D;have a0:=h.tl.valid f.o1 A;have a1:us.length=(endsM (Aj I ts) 0).length:=by rw[D.length_eq];simp[bkM]
 have U:=h.lab.srtU D hs;have a4:=h.cnt;have Z:Cc I O us:=⟨by omega,f.i1,f.i2,f.o1,f.o2,λu hu=>by
  obtain⟨s,a2,he⟩:=((A u).1 hu).1;rw[he];exact h.el s a2,a0⟩
 refine⟨Z,(Sl λt ht=>(Z.lens ht).1).2 (h.tl.cons f.o1 A),h.tl.rowsU f.o1 A,e3m A U.1,a1,λi j a3 Q=>?_⟩
 .have h1:=U.1 i j (by rw[e6c];omega) (by rw[e6c];exact Q) a3;rw[e6e,e6e] at h1;exact Ho.2 h1
end Go.Ai
