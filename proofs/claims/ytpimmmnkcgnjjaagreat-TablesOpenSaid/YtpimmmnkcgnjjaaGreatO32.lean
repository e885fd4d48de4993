/- A small verified interpreter over names, its proofs, and what was proved with it. No condition. -/
import Derived.Test.YtpimmmnkcgnjjaaGreatO24
set_option linter.all false
set_option linter.deprecated false
section
namespace Go.Ai
open Go.Proofs Go.Proofs.Tryz
set_option maxRecDepth 10000
set_option maxHeartbeats 40000000
theorem c7r (a b:Int) {rows:Tq} (hl:rows.length<=100000) (hI:∀ r∈rows,r.length<=1000) (g:Gb) (n:Nat) (tv uv:AV) (h1:Bw g n rows tv) (h2:Bw g n rows uv) :
  WC 0 prog 33 [.agg [.li a,.li b,tv],.agg [.li a,.li b,uv]] ⟨.fn g,n⟩ fun r=>∃ g',r=.ret (.lit (.bool true)) ⟨.fn g',n+1+1⟩/\∀ z,z<n->g' z=g z:=by
 have hlen1:=@Am prog _ _ _ _ _ h1.choose_spec.1;have hlen2:=@Am prog _ _ _ _ _ h2.choose_spec.1;have ho1:=h1.choose_spec.1.one;have ho2:=h2.choose_spec.1.one;have hone1:allOne [.li a,.li b,tv]=true:=by simp[ho1]
 have hone2:allOne [.li a,.li b,uv]=true:=by simp[ho2]
 have H1:=Aa.mk h1;have H2:=Aa.mk h2;have HI:=Aa.mk hI;clear h1 h2 hI;refine ent pl33 func33 rfl (by decide +kernel) (by kernel_rfl) ?_
 iterate 8 all_goals try first|apply spl<;>intro h|simp (disch:=first|assumption|omega|simp) [*]
 refine LX.ind (fun m gf H'=>∃ (k:Nat) (gL:Gb),k<=rows.length/\m=rows.length-k/\H'=⟨.fn gL,n+1+1⟩/\Aa (∀ z,z<n->gL z=g z)/\gL n=some (.cells [.li a,.li b,tv] true 0)/\gL (n+1)=some (.cells [.li a,.li b,uv] true 0)/\gf 2=some (.ptr n 0)/\gf 3=some (.ptr (n+1) 0)/\gf 5=some (.li k)) (m0:=rows.length) ?_ ?_
 ·exact⟨0,_,Dt _,rfl,rfl,⟨fun b hb=>by simp (disch:=omega) only[Ad]⟩,by simp (disch:=omega) only[Ad,Ag],Ag,by simp[*]⟩
 rintro m gf H' ⟨k,gL,hk,rfl,rfl,HG,hg1,hg2,w2,w3,w5⟩ ih;refine rnd pl33 (by decide +kernel) ?_;by_cases hlt:k<rows.length
 ·have hltI:(k:Int)<(rows.length:Int):=by omega
  obtain⟨a1,o1,q1,ha1,hia1,hc1,hq1⟩:=Bw.at (n:=n) (H1.out.mono (Dm n) HG.out) hlt;obtain⟨a2,o2,q2,ha2,hia2,hc2,hq2⟩:=Bw.at (n:=n) (H2.out.mono (Dm n) HG.out) hlt;have hql1:=@Am prog _ _ _ _ _ hq1;have hql2:=@Am prog _ _ _ _ _ hq2;have hrl:=HI.out _ (Ds hlt);have HQ1:=Aa.mk hq1;have HQ2:=Aa.mk hq2;clear hq1 hq2;generalize rows[k]=row at *
  iterate 8 all_goals try first|apply spl<;>intro h|simp (disch:=first|assumption|omega|simp) [*]
  refine LX.ind (fun m gf H'=>∃ i:Nat,i<=row.length/\m=row.length-i/\H'=⟨.fn gL,n+1+1⟩/\gf 2=some (.ptr n 0)/\gf 3=some (.ptr (n+1) 0)/\gf 5=some (.li k)/\gf 6=some (.li i)) (m0:=row.length) ?_ ?_
  ·exact⟨0,Dt _,rfl,rfl,by simp[*]⟩
  clear w2 w3 w5;rintro m gf H' ⟨i,hi,rfl,rfl,w2,w3,w5,w6⟩ ih2;refine rnd pl33 (by decide +kernel) ?_;by_cases hli:i<row.length
  ·have hliI:(i:Int)<(row.length:Int):=by omega
   obtain⟨a3,o3,ha3,hia3,hc3⟩:=c1j HQ1.out hli;obtain⟨a4,o4,ha4,hia4,hc4⟩:=c1j HQ2.out hli;generalize row[i]=e at *
   iterate 8 all_goals try first|apply spl<;>intro h|simp (disch:=first|assumption|omega|simp) [*]
   exact ih2.out (row.length-(i+1)) _ _ (by omega) ⟨i+1,by omega,rfl,rfl,by simp[*]⟩
  ·have hliI:¬(i:Int)<(row.length:Int):=by omega
   iterate 8 all_goals try first|apply spl<;>intro h|simp (disch:=first|assumption|omega|simp) [*]
   exact ih.out (rows.length-(k+1)) _ _ (by omega) ⟨k+1,gL,by omega,rfl,rfl,HG,hg1,hg2,by simp[*]⟩
 ·have hltI:¬(k:Int)<(rows.length:Int):=by omega
  iterate 8 all_goals try first|apply spl<;>intro h|simp (disch:=first|assumption|omega|simp) [*]
  exact HG.out
end Go.Ai
end

