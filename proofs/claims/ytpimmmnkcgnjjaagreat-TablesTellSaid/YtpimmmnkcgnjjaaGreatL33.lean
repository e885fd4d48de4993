/- A small verified interpreter over names, its proofs, and what was proved with it. No condition. -/
import Derived.Test.YtpimmmnkcgnjjaaGreatL21
import Derived.Test.YtpimmmnkcgnjjaaGreatL32
set_option linter.all false
set_option linter.deprecated false
section
namespace Go.Ai
open Go.Proofs Go.Proofs.Tryz Go.ChangeShapes Go.WideShapes Go.ChangeAt Go.RowKit
set_option maxRecDepth 10000
variable {H:Type} {enc:TypeId×Value→H}
theorem g2f {w:World} (fuel:Nat) (cs:List Value) (d:DataW H) (p:List MemPlace) (h:DataW.trod enc prog w 0 (fun _=>true) true fuel 4 cs=some (d,p)) (N:Nat) (hN:fuel<=N) (g:Gb) (b:Nat) :
  ∃ x:Bool,mkD prog a0c N 4 d ⟨.fn g,b⟩=some ([.lit (.bool x)],⟨.fn g,b⟩):=by
 obtain⟨x,_,f0⟩:=DataW.trod_bool (x:=(d,p)) underlying4 h;have hd:d=.lit (.bool x):=congrArg Prod.fst f0;subst hd;have hm0:fuel≠0:=by rintro rfl;simp[DataW.trod] at h
 obtain⟨N,rfl⟩ : ∃ M,N=M+1:=⟨N-1,by omega⟩;exact⟨x,by unfold mkD;rw[underlying4]⟩
theorem g2g {W:World} {v0 v1 v2:Value} {d0 d1 d2:DataW H} {p0 p1 p2:List MemPlace} {base:Nat} (h0:DataW.Trod enc prog W 0 (fun _=>true) true 44 v0 d0 p0) (h1:DataW.Trod enc prog W 0 (fun _=>true) true 41 v1 d1 p1) (h2:DataW.Trod enc prog W 0 (fun _=>true) true 4 v2 d2 p2) (k0:Value.okWide prog W .any base 44 v0) (k1:Value.okWide prog W .any base 41 v1) (k2:Value.okWide prog W .any base 4 v2) (hL:laidMetH prog [] W) :
  Calls prog 5 #[v0,v1,v2] W fun e W'=>e=.returned (.bool true)/\Below W.heap.size W W':=by
 have c2:v2.cells.toList=[v2]:=e3u k2 (by intro fs;rw[underlying4];simp) (by intro n e;rw[underlying4];simp);simp only[Value.okWide,underlying44] at k0;obtain⟨cm,rfl,_⟩:=k0;simp only[Value.okWide,underlying41] at k1;obtain⟨cg,rfl,_⟩:=k1;obtain⟨f0,h0⟩:=h0;obtain⟨f1,h1⟩:=h1;obtain⟨f2,h2⟩:=h2;rw[c2] at h2;obtain⟨g,n,ρ,s,hno⟩:=g0q hL;obtain⟨st,inp,out,part,es,ev,ws,wv,ia,ib,ic,sb,sbv,eb,ebv,full,g1,n1,e1,t1,t2,t3⟩:=Q_mk f0 _ d0 p0 h0 f0 (Dp _) g n;obtain⟨ρ1,M1⟩:=a6n (sp:=fun _=>true) (fun _=>rfl) (b8l enc) f0 f0 44 _ d0 p0 ⟨.fn g,n⟩ _ _ ρ h0 (fun h=>by cases h) s hno e1;obtain⟨st2,inp2,out2,part2,es2,ev2,ws2,wv2,ja,jb,jc,g2,n2,e2,u1,u2,u3,hja,hjb,hjc⟩:=d7u f1 _ d1 p1 h1 f1 (Dp _) g1 n1;obtain⟨ρ2,M2⟩:=a6n (sp:=fun _=>true) (fun _=>rfl) (b8l enc) f1 f1 41 _ d1 p1 ⟨.fn g1,n1⟩ _ _ ρ1 h1 (fun h=>by cases h) M1.sim M1.no e2;obtain⟨x,e3⟩:=g2f f2 _ d2 p2 h2 f2 (Dp _) g2 n2;obtain⟨ρ3,M3⟩:=a6n (sp:=fun _=>true) (fun _=>rfl) (b8l enc) f2 f2 4 _ d2 p2 ⟨.fn g2,n2⟩ _ _ ρ2 h2 (fun h=>by cases h) M2.sim M2.no e3;have hv2:VR ρ3 (.lit (.bool x)) v2:=by obtain⟨_,_,e,h,_⟩:=M3.vals;cases e;exact h
 have hw:=g2e (part:=part) ia ib ic (full:=full) g2 n2 (t3.mono u1 u2) (part2:=part2) ja jb jc hja hjb hjc u3 x;refine(hw W.heap.size ρ3 #[.agg cm,.agg cg,v2] W M3.sim ?_).mono ?_
 ·exact⟨_,_,rfl,⟨cm,rfl,(M1.vals.mono (M2.sub M1.sim)).mono (M3.sub M2.sim)⟩,_,_,rfl,⟨cg,rfl,M2.vals.mono (M3.sub M2.sim)⟩,_,_,rfl,hv2,rfl⟩
 ·rintro e W' ⟨r,rfl,hcp⟩
  cases e with
  | returned u=>obtain⟨ρ',q1,q2,q3,q4⟩:=hcp;exact⟨congrArg _ q3,q1.below⟩
  | _=>exact hcp.elim
end Go.Ai
end

