/- A small verified interpreter over names, its proofs, and what was proved with it. No condition. -/
import Derived.Test.YtpimmmnkcgnjjaaGreatL25
import Derived.Test.YtpimmmnkcgnjjaaGreatL26
set_option linter.all false
set_option linter.deprecated false
section
namespace Go.Ai
set_option maxRecDepth 10000
structure BF (I:Nat) (O:Int) (ts:Lq) (T:Tq) (W:Wq) : Prop where
 lab:Lab T W
 tl:TL I O (valT ts) (Bv ts) T W
 ne:0<T.length
 len:T.length<=60000
 cnt:(endsM T 0).length<=200
 wl:∀ t,t<T.length->(W.getD t []).length<=256
 el:∀ s∈endsM T 0,(eW W s).length<=256
 sum:Ce W (endsM T 0)<=65536
theorem BF.of {I:Nat} {O:Int} {ts:Lq} (hL:Cj I O ts) (hC:a2j ts) (hgo:goT I O (Al I ts) 0 1=some (Al I ts).length) : BF I O ts (Al I ts) (Ax (Al I ts)):=by
 have hi1:=hL.i1;have hi2:=hL.i2;have ho1:=hL.o1;have ho2:=hL.o2;have hlen:=hL.len;have hnl:=d8o hL.wl;have hl:(Al I ts).length<=60000:=by grind[b2l]
 have h0:0<(Al I ts).length:=by rw[b2l];exact g3s ((b0m hL.ok hC []).2 (.inl rfl))
 have hte:a1q I O (Al I ts)=0:=by
  (simp_all[a1q];grind)
 have hlab:=g1g hte;have htl:TL I O (valT ts) (Bv ts) (Al I ts) (Ax (Al I ts)):=⟨d6s hL.ok hC,(b4c hL.ok).1,rfl,hlab,fun x i o h=>c0j hL.ok h⟩;have hwn:∀ x∈Bv ts,x.length<=256:=fun x hx=>by
  rcases ((b4c hL.ok).2 x).1 hx with rfl|⟨t,ht,k,hk,_,rfl⟩
  ·simp
  ·have:=hL.wl t ht;grind
 have hcnt:(endsM (Al I ts) 0).length<=200:=by
  have h1:=TL.count ho1 htl (X:=(bkM (Al I ts) (Ax (Al I ts))).map fun u=>u.1) (fun x hx=>by
   obtain⟨u,hu,rfl⟩:=Ei.1 hx;exact((bkM_of u).1 hu).1) hlab.nodup
  grind[bkM]
 have hel:∀ s∈endsM (Al I ts) 0,(eW (Ax (Al I ts)) s).length<=256:=fun s hs=>TL.short ho1 htl hL.wl ⟨s,hs,rfl⟩;refine⟨hlab,htl,h0,hl,hcnt,fun t ht=>?_,hel,?_⟩
 ·rw[b2l] at ht;rw[htl.weq t t (Dp _) ht];grind
 ·have:=d8h hel;omega
theorem BF.us {I:Nat} {O:Int} {ts us:Lq} (hL:Cj I O ts) (h:BF I O ts (Al I ts) (Ax (Al I ts))) (hp:us.Perm (bkM (Al I ts) (Ax (Al I ts)))) (hs:∀ (i j:Nat) (_:i<j) (hj:j<us.length),¬ Bl us[j].1 (us[i]'(by omega)).1<0) :
  Cj I O us/\Dk us us 0=none/\Al I us=Al I ts/\(rbk (Ax (Al I ts)) [] (endsM (Al I ts) 0)).map (fun w=>(w,Bb (Al I ts) 0 w))=us/\us.length=(endsM (Al I ts) 0).length/\∀ (i j:Nat) (_:i<j) (hj:j<us.length),Bl (us[i]'(by omega)).1 us[j].1<0:=by
 have hU:a3t (Al I ts) (Ax (Al I ts)) us:=bkM_of.perm hp;have hval:=h.tl.valid hL.o1 hU;have hln:us.length=(endsM (Al I ts) 0).length:=by rw[hp.length_eq];simp[bkM]
 have hsr:=h.lab.srtU hp hs;have hcn:=h.cnt;have hLU:Cj I O us:=⟨by omega,hL.i1,hL.i2,hL.o1,hL.o2,fun u hu=>by
  obtain⟨s,hs2,he⟩:=((hU u).1 hu).1;rw[he];exact h.el s hs2,hval⟩
 refine⟨hLU,(b6y fun t ht=>(hLU.lens ht).1).2 (h.tl.cons hL.o1 hU),h.tl.rowsU hL.o1 hU,g1t hU hsr.1,hln,fun i j hij hj=>?_⟩
 ·have h1:=hsr.1 i j (by rw[Ee];omega) (by rw[Ee];exact hj) hij;rw[g2m,g2m] at h1;exact a4s.2 h1
end Go.Ai
end

