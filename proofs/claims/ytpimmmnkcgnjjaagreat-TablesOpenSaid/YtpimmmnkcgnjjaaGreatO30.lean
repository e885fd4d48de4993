/- A small verified interpreter over names, its proofs, and what was proved with it. No condition. -/
import Derived.Test.YtpimmmnkcgnjjaaGreatO25
import Derived.Test.YtpimmmnkcgnjjaaGreatO28
import Derived.Test.YtpimmmnkcgnjjaaGreatO29
set_option linter.all false
set_option linter.deprecated false
section
namespace Go.Ai
open Go.Proofs Go.Proofs.Tryz
set_option maxRecDepth 10000
set_option maxHeartbeats 40000000
theorem long_ex:∀ {l:Wq},0<l.length->∃ w∈l,∀ v∈l,v.length<=w.length
 | [],h=>by cases h
 | [x],_=>⟨x,by simp,fun v hv=>by simp at hv;subst hv;exact Dm _⟩
 | x :: y :: l,_=>by
  obtain⟨w,hw,h⟩:=long_ex (l:=y :: l) (by simp);by_cases hx:x.length<=w.length
  ·refine⟨w,by simp only[Dv] at hw |-;exact .inr hw,fun v hv=>?_⟩;rcases Dv.1 hv with rfl|hv
   ·exact hx
   ·exact h v hv
  ·refine⟨x,by simp,fun v hv=>?_⟩;rcases Dv.1 hv with rfl|hv
   ·exact Dm _
   ·have:=h v hv;omega
theorem g2v {l:Wq} : 0<(b3b l).length↔0<l.length:=by
 constructor
 ·intro h;have:=Ds h;exact g4m (g5t.1 this).1
 ·intro h;obtain⟨w,hw,hm⟩:=long_ex h;refine g4m (a:=w) (g5t.2 ⟨hw,?_⟩)
  cases hf:a2o l w with
  | false=>rfl
  | true =>
   unfold a2o at hf;rw[List.any_eq_true] at hf;obtain⟨v,hv,h2⟩:=hf;have:=(of_decide_eq_true h2).1;have:=hm v hv;omega
theorem g2w {l:Wq} : 0<(a0i l).length↔0<l.length :=
 ⟨fun h=>g4m (b8c.1 (Ds h)),fun h=>g4m (b8c.2 (Ds h))⟩
theorem d8s {I:Nat} {O:Int} {S E:Wq} {T:Tq} (hp:a2a I O S E T) (g:Gb) (n:Nat) (sv ev tv:AV) (hS:Bj g n S sv) (hEV:Bj g n E ev) (hT:Bw g n T tv) :
  WC 0 prog 34 [.agg [.li I,.li O,sv,ev,.li I,.li O,tv]] ⟨.fn g,n⟩ fun r=>∃ g' n',r=.ret (.lit (.bool (Bb T E (Ak I S)).isEmpty)) ⟨.fn g',n'⟩/\n<=n'/\∀ b,b<n->g' b=g b:=by
 have h1s:=hS.choose_spec.1.one;have h1e:=hEV.choose_spec.1.one;have h1t:=hT.choose_spec.1.one;have hone:allOne [.li I,.li O,sv,ev,.li I,.li O,tv]=true:=by simp[h1s,h1e,h1t]
 have HAS:=Aa.mk fun (gX:Gb) (n2:Nat) (hn:n<=n2) (hX:∀ b,b<n->gX b=g b)=>g2n hp gX n2 sv ev tv (hS.mono hn hX) (hEV.mono hn hX) (hT.mono hn hX);obtain⟨ret,hret⟩ : ∃ x,x=(Bb T E (Ak I S)).isEmpty:=⟨_,rfl⟩;rw[<- hret];have hR:ret=decide ((b3b (a0i (Bb T E (Ak I S)))).length=0):=by
  have h1:=g2v (l:=a0i (Bb T E (Ak I S)));have h2:=g2w (l:=Bb T E (Ak I S));have h3:(Bb T E (Ak I S)).isEmpty=decide ((Bb T E (Ak I S)).length=0):=by cases Bb T E (Ak I S)<;>rfl
  rw[hret,h3,decide_eq_decide];omega
 have HRE:=Aa.mk hR;clear hS hEV hT hp hret hR;generalize b3b (a0i (Bb T E (Ak I S)))=l at *;refine ent [] func34 rfl (by decide +kernel) (by kernel_rfl) ?_
 iterate 8 all_goals try first|apply spl<;>intro h|simp (disch:=first|assumption|omega|simp) [*]
 refine WC.mono (HAS.out _ _ (by omega) fun b hb=>Ad hb) ?_;rintro _ ⟨ov,g1,n1,rfl,hn1,hg1,hlc⟩;have hlen:=@Am prog _ _ _ _ _ hlc.choose_spec.1;have HG1:Aa (∀ b,b<n->g1 b=g b):=⟨fun b hb=>(hg1 b (by omega)).trans (Ad hb)⟩;clear hg1 hlc HAS;by_cases h0:l.length=0
 ·have hr:ret=true:=by rw[HRE.out,decide_eq_true h0]
  have h0I:(l.length:Int)=0:=by omega
  clear h0
  iterate 8 all_goals try first|apply spl<;>intro h|simp (disch:=first|assumption|omega|simp) [*]
  exact⟨_,_,⟨rfl,rfl⟩,by omega,HG1.out⟩
 ·have hr:ret=false:=by rw[HRE.out,decide_eq_false h0]
  have h0I:¬(l.length:Int)=0:=by omega
  have h0n:¬l=[]:=fun h=>h0 (by rw[h];rfl)
  iterate 8 all_goals try first|apply spl<;>intro h|simp (disch:=first|assumption|omega|simp) [*]
  exact⟨_,_,⟨rfl,rfl⟩,by omega,HG1.out⟩
end Go.Ai
end

