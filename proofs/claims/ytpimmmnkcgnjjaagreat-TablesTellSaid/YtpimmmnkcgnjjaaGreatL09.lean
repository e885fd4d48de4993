/- A small verified interpreter over names, its proofs, and what was proved with it. No condition. -/
import Derived.Test.YtpimmmnkcgnjjaaGreatL08
import Derived.Test.YtpimmmnkcgnjjaaGreatL05
import Derived.Test.YtpimmmnkcgnjjaaGreatL06
set_option linter.all false
set_option linter.deprecated false
section
namespace Go.Ai
open Go.Proofs Go.Proofs.Tryz
set_option maxRecDepth 10000
set_option maxHeartbeats 40000000
def optI:Option Nat->Int
 | some k=>(k:Int)
 | none=>-1
def b0k (u t:List Int×Wd) : Int:=optI (stepL u.1 u.2 t.1 t.2 0)
theorem d5r {x a y b:Wd} {k:Nat} (h1:k<x.length) (h2:k<a.length) (h3:k<y.length) (h4:k<b.length) : stepL (x.drop k) (a.drop k) (y.drop k) (b.drop k) k=if x[k]=y[k] then (if a[k]=b[k] then stepL (x.drop (k+1)) (a.drop (k+1)) (y.drop (k+1)) (b.drop (k+1)) (k+1) else some k) else none:=by
 rw[Ef h1,Ef h2,Ef h3,Ef h4];rfl
theorem d5s {x a b:Wd} {k:Nat} : stepL x a [] b k=none:=by
 cases x with
 | nil=>rfl
 | cons i x=>cases a with
  | nil=>rfl
  | cons o a=>rfl
theorem f7s {I O:Int} {u t:List Int×Wd} (hu:u.2.length=u.1.length) (ht:t.2.length=t.1.length) (hul:u.1.length<=256) (htl:t.1.length<=256) (g:Gb) (n:Nat) (s1 s2 r1 r2:AV) (h1:Ak g n u.1 s1) (h2:Ak g n u.2 s2) (h3:Ak g n t.1 r1) (h4:Ak g n t.2 r2) :
  WC 0 prog 135 [.agg [s1,s2],.agg [r1,r2]] ⟨.fn g,n⟩ fun r=>r=.ret (.li (b0k u t)) ⟨.fn g,n⟩:=by
 refine WC.drop1 rfl ?_;have hlen1:=@Am prog _ _ _ _ _ h1;have hlen2:=@Am prog _ _ _ _ _ h2;have hlen3:=@Am prog _ _ _ _ _ h3;have hlen4:=@Am prog _ _ _ _ _ h4;have e1:oneC s1=true:=h1.one;have e2:oneC s2=true:=h2.one;have e3:oneC r1=true:=h3.one;have e4:oneC r2=true:=h4.one;have hone1:allOne [s1,s2]=true:=by simp[e1,e2]
 have hone2:allOne [r1,r2]=true:=by simp[e3,e4]
 have H1:=Aa.mk h1;have H2:=Aa.mk h2;have H3:=Aa.mk h3;have H4:=Aa.mk h4;clear h1 h2 h3 h4;obtain⟨z,hz⟩ : ∃ z,z=b0k u t:=⟨_,rfl⟩;rw[<- hz];have HZ:=Aa.mk hz;clear hz;rw[hu] at hlen2;rw[ht] at hlen4;by_cases hut:(t.1.length:Int)<(u.1.length:Int)
 all_goals
  refine ent pl135 func135 rfl (by decide +kernel) (by kernel_rfl) ?_
  iterate 8 all_goals try first|apply spl<;>intro h|simp (disch:=first|assumption|omega|simp) [*]
  refine LX.ind (fun m gf H'=>∃ (k:Nat),k<=u.1.length/\k<=t.1.length/\m=u.1.length-k/\H'=⟨.fn (Aj (Aj g n (some (.cells [s1,s2] true 0))) (n+1) (some (.cells [r1,r2] true 0))),n+1+1⟩ /\
   Aa (z=optI (stepL (u.1.drop k) (u.2.drop k) (t.1.drop k) (t.2.drop k) k))/\gf 2=some (.ptr n 0)/\gf 3=some (.ptr (n+1) 0)/\gf 5=some (.li k)) (m0:=u.1.length) ?_ ?_
  ·exact⟨0,Du _,Du _,rfl,rfl,HZ,by simp[*]⟩
  rintro m gf H' ⟨k,hku,hkt,rfl,rfl,HP,w2,w3,w5⟩ ih;refine rnd pl135 (by decide +kernel) ?_;by_cases hlu:k<u.1.length
  ·have hluI:(k:Int)<(u.1.length:Int):=by omega
   by_cases hlt:k<t.1.length
   ·have hltI:(k:Int)<(t.1.length:Int):=by omega
    obtain⟨b1,o1,hb1,hia1,hc1⟩:=Ak.at H1.out hlu;obtain⟨b2,o2,hb2,hia2,hc2⟩:=Ak.at H2.out (by omega:k<u.2.length);obtain⟨b3,o3,hb3,hia3,hc3⟩:=Ak.at H3.out hlt;obtain⟨b4,o4,hb4,hia4,hc4⟩:=Ak.at H4.out (by omega:k<t.2.length);have HST:=Aa.mk (HP.out.trans (congrArg optI (d5r hlu (by omega:k<u.2.length) hlt (by omega:k<t.2.length))));generalize u.1[k]=i at *;generalize u.2[k]=a at *;generalize t.1[k]=j at *;generalize t.2[k]=b at *;by_cases hij:i=j
    ·rw[if_pos hij] at HST;subst hij;by_cases hab:a=b
     ·rw[if_pos hab] at HST;subst hab
      iterate 8 all_goals try first|apply spl<;>intro h|simp (disch:=first|assumption|omega|simp) [*]
      exact ih.out (u.1.length-(k+1)) _ _ (by omega) ⟨k+1,by omega,by omega,rfl,rfl,HST,by simp[*]⟩
     ·rw[if_neg hab] at HST;have hz:z=k:=HST.out;clear HST HP HZ;subst hz
      iterate 8 all_goals try first|apply spl<;>intro h|simp (disch:=first|assumption|omega|simp) [*]
      all_goals exact⟨by show n<=n+1+1;omega,fun b (hb:b<n)=>(Ab (by omega)).trans (Ab hb)⟩
    ·rw[if_neg hij] at HST;have hz:z = -1:=HST.out;clear HST HP HZ;subst hz
     iterate 8 all_goals try first|apply spl<;>intro h|simp (disch:=first|assumption|omega|simp) [*]
     all_goals exact⟨by show n<=n+1+1;omega,fun b (hb:b<n)=>(Ab (by omega)).trans (Ab hb)⟩
   ·have hltI:¬(k:Int)<(t.1.length:Int):=by omega
    have hz:z = -1:=by rw[HP.out,Ex (by omega:t.1.length<=k)];rw[d5s];rfl
    try (exfalso;omega)
    all_goals clear HP HZ
    all_goals subst hz
    iterate 8 all_goals try first|apply spl<;>intro h|simp (disch:=first|assumption|omega|simp) [*]
    all_goals exact⟨by show n<=n+1+1;omega,fun b (hb:b<n)=>(Ab (by omega)).trans (Ab hb)⟩
  ·have hluI:¬(k:Int)<(u.1.length:Int):=by omega
   have hz:z = -1:=by rw[HP.out,Ex (by omega:u.1.length<=k)];rfl
   try (exfalso;omega)
   all_goals clear HP HZ
   all_goals subst hz
   iterate 8 all_goals try first|apply spl<;>intro h|simp (disch:=first|assumption|omega|simp) [*]
   all_goals exact⟨by show n<=n+1+1;omega,fun b (hb:b<n)=>(Ab (by omega)).trans (Ab hb)⟩
theorem f7t {I O:Int} {u t:List Int×Wd} (hu:u.2.length=u.1.length) (ht:t.2.length=t.1.length) (hul:u.1.length<=256) (htl:t.1.length<=256) (g:Gb) (n:Nat) (s1 s2 r1 r2:AV) (h1:Ak g n u.1 s1) (h2:Ak g n u.2 s2) (h3:Ak g n t.1 r1) (h4:Ak g n t.2 r2) :
  WC 0 prog 72 [.agg [s1,s2],.agg [r1,r2]] ⟨.fn g,n⟩ fun r=>r=.ret (.li (b0k u t)) ⟨.fn g,n⟩:=by
 refine WC.drop1 rfl ?_;have hlen1:=@Am prog _ _ _ _ _ h1;have hlen2:=@Am prog _ _ _ _ _ h2;have hlen3:=@Am prog _ _ _ _ _ h3;have hlen4:=@Am prog _ _ _ _ _ h4;have e1:oneC s1=true:=h1.one;have e2:oneC s2=true:=h2.one;have e3:oneC r1=true:=h3.one;have e4:oneC r2=true:=h4.one;have hone1:allOne [s1,s2]=true:=by simp[e1,e2]
 have hone2:allOne [r1,r2]=true:=by simp[e3,e4]
 have H1:=Aa.mk h1;have H2:=Aa.mk h2;have H3:=Aa.mk h3;have H4:=Aa.mk h4;clear h1 h2 h3 h4;obtain⟨z,hz⟩ : ∃ z,z=b0k u t:=⟨_,rfl⟩;rw[<- hz];have HZ:=Aa.mk hz;clear hz;rw[hu] at hlen2;rw[ht] at hlen4;by_cases hut:(t.1.length:Int)<(u.1.length:Int)
 all_goals
  refine ent pl72 func72 rfl (by decide +kernel) (by kernel_rfl) ?_
  iterate 8 all_goals try first|apply spl<;>intro h|simp (disch:=first|assumption|omega|simp) [*]
  refine LX.ind (fun m gf H'=>∃ (k:Nat),k<=u.1.length/\k<=t.1.length/\m=u.1.length-k/\H'=⟨.fn (Aj (Aj g n (some (.cells [s1,s2] true 0))) (n+1) (some (.cells [r1,r2] true 0))),n+1+1⟩ /\
   Aa (z=optI (stepL (u.1.drop k) (u.2.drop k) (t.1.drop k) (t.2.drop k) k))/\gf 2=some (.ptr n 0)/\gf 3=some (.ptr (n+1) 0)/\gf 5=some (.li k)) (m0:=u.1.length) ?_ ?_
  ·exact⟨0,Du _,Du _,rfl,rfl,HZ,by simp[*]⟩
  rintro m gf H' ⟨k,hku,hkt,rfl,rfl,HP,w2,w3,w5⟩ ih;refine rnd pl72 (by decide +kernel) ?_;by_cases hlu:k<u.1.length
  ·have hluI:(k:Int)<(u.1.length:Int):=by omega
   by_cases hlt:k<t.1.length
   ·have hltI:(k:Int)<(t.1.length:Int):=by omega
    obtain⟨b1,o1,hb1,hia1,hc1⟩:=Ak.at H1.out hlu;obtain⟨b2,o2,hb2,hia2,hc2⟩:=Ak.at H2.out (by omega:k<u.2.length);obtain⟨b3,o3,hb3,hia3,hc3⟩:=Ak.at H3.out hlt;obtain⟨b4,o4,hb4,hia4,hc4⟩:=Ak.at H4.out (by omega:k<t.2.length);have HST:=Aa.mk (HP.out.trans (congrArg optI (d5r hlu (by omega:k<u.2.length) hlt (by omega:k<t.2.length))));generalize u.1[k]=i at *;generalize u.2[k]=a at *;generalize t.1[k]=j at *;generalize t.2[k]=b at *;by_cases hij:i=j
    ·rw[if_pos hij] at HST;subst hij;by_cases hab:a=b
     ·rw[if_pos hab] at HST;subst hab
      iterate 8 all_goals try first|apply spl<;>intro h|simp (disch:=first|assumption|omega|simp) [*]
      exact ih.out (u.1.length-(k+1)) _ _ (by omega) ⟨k+1,by omega,by omega,rfl,rfl,HST,by simp[*]⟩
     ·rw[if_neg hab] at HST;have hz:z=k:=HST.out;clear HST HP HZ;subst hz
      iterate 8 all_goals try first|apply spl<;>intro h|simp (disch:=first|assumption|omega|simp) [*]
      all_goals exact⟨by show n<=n+1+1;omega,fun b (hb:b<n)=>(Ab (by omega)).trans (Ab hb)⟩
    ·rw[if_neg hij] at HST;have hz:z = -1:=HST.out;clear HST HP HZ;subst hz
     iterate 8 all_goals try first|apply spl<;>intro h|simp (disch:=first|assumption|omega|simp) [*]
     all_goals exact⟨by show n<=n+1+1;omega,fun b (hb:b<n)=>(Ab (by omega)).trans (Ab hb)⟩
   ·have hltI:¬(k:Int)<(t.1.length:Int):=by omega
    have hz:z = -1:=by rw[HP.out,Ex (by omega:t.1.length<=k)];rw[d5s];rfl
    try (exfalso;omega)
    all_goals clear HP HZ
    all_goals subst hz
    iterate 8 all_goals try first|apply spl<;>intro h|simp (disch:=first|assumption|omega|simp) [*]
    all_goals exact⟨by show n<=n+1+1;omega,fun b (hb:b<n)=>(Ab (by omega)).trans (Ab hb)⟩
  ·have hluI:¬(k:Int)<(u.1.length:Int):=by omega
   have hz:z = -1:=by rw[HP.out,Ex (by omega:u.1.length<=k)];rfl
   try (exfalso;omega)
   all_goals clear HP HZ
   all_goals subst hz
   iterate 8 all_goals try first|apply spl<;>intro h|simp (disch:=first|assumption|omega|simp) [*]
   all_goals exact⟨by show n<=n+1+1;omega,fun b (hb:b<n)=>(Ab (by omega)).trans (Ab hb)⟩
end Go.Ai
end
section
namespace Go.Ai
open Go.Proofs Go.Proofs.Tryz
set_option maxRecDepth 10000
set_option maxHeartbeats 40000000
theorem Ag.cut {g:Gb} {b len:Nat} {sv:AV} {cs:List AV} (h:Ag g b sv len cs) (hc:Bf sv) {t:TypeId} (he:(Ca prog t).map (·.1)=some none) {k sz:Nat} (hk:k<=len) (h0:0<len) :
  ∃ sv',(∀ {H:Mem} {ev:Ev} {d:Option Tmp} {ty:TypeId} {p:String} {af:Array Edge} {gd:Option (Nat×Bool)} {x hi:Operand} {hx:ev x=some sv} {hh:ev hi=some (.li (k:Int))},
   ex2 prog H ev ⟨d,.slice t x none (some hi) none,ty,p,af,gd⟩ x hi (some sv) (some (.li (k:Int))) hx hh=.val sv' H)/\Ag g b sv' k (cs.take (k*sz)):=by
 rcases h with⟨h1,_⟩|⟨a,off,ha,⟨c,rfl⟩|⟨c,rfl⟩,hrow⟩
 ·omega
 ·have hcc:=hc _ _ _ _ rfl;refine⟨.sl a off k c,?_,.inr ⟨a,off,ha,.inl ⟨c,rfl⟩,hrow.takes _⟩⟩;intro H ev d ty p af gd x hi hx hh;rw[c3u he (by omega) (by omega) (by omega)];simp
 ·refine⟨.slq a off k c,?_,.inr ⟨a,off,ha,.inr ⟨c,rfl⟩,hrow.takes _⟩⟩;intro H ev d ty p af gd x hi hx hh;rw[c3v he (by omega) (by omega) (by omega)];simp
theorem el22:(Ca prog 52).map (·.1)=some none:=by kernel_rfl
theorem a0w.cut {g:Gb} {n:Nat} {ts:Lq} {sv:AV} (h:a0w g n ts sv) (hc:Bf sv) {k:Nat} (hk:k<=ts.length) (h0:0<ts.length) :
  ∃ sv',(∀ {H:Mem} {ev:Ev} {d:Option Tmp} {ty:TypeId} {p:String} {af:Array Edge} {gd:Option (Nat×Bool)} {x hi:Operand} {hx:ev x=some sv} {hh:ev hi=some (.li (k:Int))},
   ex2 prog H ev ⟨d,.slice 52 x none (some hi) none,ty,p,af,gd⟩ x hi (some sv) (some (.li (k:Int))) hx hh=.val sv' H)/\a0w g n (ts.take k) sv':=by
 obtain⟨cs,h1,h2⟩:=h;obtain⟨sv',h3,h4⟩:=h1.cut hc el22 (sz:=2) hk h0;refine⟨sv',h3,cs.take (k*2),by rw[Dw,Fa hk];exact h4,?_,fun j hj=>?_⟩
 ·rw[Dw,Dw,h2.1];omega
 ·have hj2:j<k/\j<ts.length:=by rw[Dw] at hj;omega
  obtain⟨s1,s2,e1,e2,e3,e4⟩:=h2.2 j hj2.2;exact⟨s1,s2,by rw[g4v,if_pos (by omega)];exact e1,by rw[g4v,if_pos (by omega)];exact e2,by rw[g3k];exact e3,by rw[g3k];exact e4⟩
theorem d5t {ts:Lq} {k:Nat} (hk:k<ts.length) : Dk ts (ts.drop k) k=match a0x (ts[k]) (ts.take k) 0 with
  | some (a,j)=>some (a,k,j)
  | none=>Dk ts (ts.drop (k+1)) (k+1):=by
 rw[Ef hk];rfl
theorem d5u {t:List Int×Wd} {us:Lq} {j:Nat} (hj:j<us.length) : a0x t (us.drop j) j=match stepL (us[j]).1 (us[j]).2 t.1 t.2 0 with
  | some k=>some (j,k)
  | none=>a0x t (us.drop (j+1)) (j+1):=by
 rw[Ef hj];rfl
def conC:Option (Nat×Nat×Nat)->AV
 | some (a,b,k)=>.agg [.li a,.li b,.li k]
 | none=>.agg [.li 0,.li 0,.li 0]
theorem d5v {I O:Int} {ts:Lq} (hL:Cj I O ts) (g:Gb) (n:Nat) (sv:AV) (hT:a0w g n ts sv) (hcap:Bf sv) :
  WC 0 prog 103 [.agg [.li I,.li O,sv]] ⟨.fn g,n⟩ fun r=>∃ gX n',r=.ret (.tup [conC (Dk ts ts 0),.lit (.bool (Dk ts ts 0).isSome),.li 0]) ⟨.fn gX,n'⟩/\n<=n'/\∀ b,b<n->gX b=g b:=by
 have hlen:=@Am prog _ _ _ _ _ hT.choose_spec.1;have h1s:=hT.choose_spec.1.one;have hone:allOne [.li I,.li O,sv]=true:=by simp[h1s]
 have HCK:=Aa.mk fun (gX:Gb) (n2:Nat) (hn:n<=n2) (hX:∀ b,b<n->gX b=g b)=>d5a I O ts hL.small gX n2 sv (hT.mono hn hX);rw[hL.err] at HCK;have HT:=Aa.mk hT;have HL:=Aa.mk hL;have HCAP:=Aa.mk hcap;have htl:=hL.len;clear hT hL hcap;obtain⟨D,hD⟩ : ∃ D,D=Dk ts ts 0:=⟨_,rfl⟩;rw[<- hD];have HD:=Aa.mk hD;clear hD;refine ent [] func103 rfl (by decide +kernel) (by kernel_rfl) ?_
 iterate 8 all_goals try first|apply spl<;>intro h|simp (disch:=first|assumption|omega|simp) [*]
 refine WC.mono (HCK.out _ _ (by omega) fun b (hb:b<n)=>by simp (disch:=omega) only[Ab]) ?_;rintro _ rfl
 iterate 8 all_goals try first|apply spl<;>intro h|simp (disch:=first|assumption|omega|simp) [*]
 refine LX.ind (fun m gf H'=>∃ (k n' : Nat) (gL:Gb),k<=ts.length/\m=ts.length-k/\H'=⟨.fn gL,n'⟩/\n+1+1<=n'/\Aa (∀ b,b<n->gL b=g b)/\gL n=some (.cells [.li I,.li O,sv] true 0)/\gL (n+1)=some (.cells [.li 0,.li 0,.li 0] true 0) /\
  Aa (D=Dk ts (ts.drop k) k)/\gf 1=some (.ptr n 0)/\gf 2=some (.ptr (n+1) 0)/\gf 18=some sv/\gf 19=some (.li ts.length)/\gf 20=some (.li k)) (m0:=ts.length) ?_ ?_
 ·refine⟨0,_,_,Du _,rfl,rfl,Dp _,⟨fun b hb=>?_⟩,?_,Af,⟨HD.out⟩,by simp[*]⟩
  ·simp (disch:=omega) only[Ab]
  ·simp (disch:=omega) only[Ab,Af]
 rintro m gf H' ⟨k,n',gL,hk,rfl,rfl,hn',HG,hgn,hgp,HP,w1,w2,w18,w19,w20⟩ ih;refine rnd [] (by decide +kernel) ?_;by_cases hlt:k<ts.length
 ·have hltI:(k:Int)<(ts.length:Int):=by omega
  obtain⟨a2,off,r1,r2,HAT0⟩:=(HT.out.mono (show n<=n' by omega) HG.out).at hlt;have HAT:=Aa.mk HAT0;clear HAT0;have hia:∀ {H:Mem} {ev:Ev} {o:Oper} {ty:TypeId},iaS prog H ev o ty (some (none,2)) (some sv) (some (.li (k:Int)))=.val (.ptr a2 (off+k*2)) H:=fun {H ev o ty}=>HAT.out.ia;have han:a2<n':=HAT.out.an;have hagg:=HAT.out.agg;have h1r1:oneC r1=true:=HAT.out.r1.one;have h1r2:oneC r2=true:=HAT.out.r2.one;have honeR:allOne [r1,r2]=true:=by simp[h1r1,h1r2]
  obtain⟨cut,hcut,hcv⟩:=HT.out.cut HCAP.out (Fb hlt) (by omega);have hcl:=@Am prog _ _ _ _ _ hcv.choose_spec.1;rw[Dw,Fa hk] at hcl;have HCV:=Aa.mk (hcv.mono (show n<=n' by omega) HG.out);have HDE:=Aa.mk (HP.out.trans (d5t hlt));have HLT:=Aa.mk (HL.out.lens (Dt hlt));have HWT:=Aa.mk (HL.out.wl _ (Dt hlt));have HR1:=Aa.mk HAT.out.r1;have HR2:=Aa.mk HAT.out.r2;clear HAT hcv;generalize ts[k]=t at *
  iterate 8 all_goals try first|apply spl<;>intro h|simp (disch:=first|assumption|omega|simp) [*]
  refine LX.ind (fun m gf H'=>∃ (j n2:Nat) (g2:Gb),j<=k/\m=k-j/\H'=⟨.fn g2,n2⟩/\n'+1<=n2/\Aa (∀ b,b<n'->g2 b=gL b)/\g2 n'=some (.cells [r1,r2] true 0)/\Aa (a0x t (ts.take k) 0=a0x t ((ts.take k).drop j) j) /\
   gf 1=some (.ptr n 0)/\gf 2=some (.ptr (n+1) 0)/\gf 18=some sv/\gf 19=some (.li ts.length)/\gf 20=some (.li k)/\gf 6=some (.li k)/\gf 7=some (.ptr n' 0)/\gf 28=some cut/\gf 29=some (.li k)/\gf 30=some (.li j)) (m0:=k) ?_ ?_
  ·refine⟨0,_,_,Du _,rfl,rfl,Dp _,⟨fun b hb=>?_⟩,Af,⟨rfl⟩,by simp[*]⟩;exact Ab hb
  clear w1 w2 w18 w19 w20;rintro m gf H' ⟨j,n2,g2,hj,rfl,rfl,hn2,HG2,hgt,HNE,w1,w2,w18,w19,w20,w6,w7,w28,w29,w30⟩ ih2;have hgn2:=(HG2.out n (by omega)).trans hgn;have hgp2:=(HG2.out (n+1) (by omega)).trans hgp;refine rnd [] (by decide +kernel) ?_;by_cases hltj:j<k
  ·have hltjI:(j:Int)<(k:Int):=by omega
   have hjl:j<(ts.take k).length:=by rw[Dw];omega
   obtain⟨a3,o3,s1,s2,HAU0⟩:=(HCV.out.mono (show n'<=n2 by omega) HG2.out).at hjl;have HAU:=Aa.mk HAU0;clear HAU0;have hia3:∀ {H:Mem} {ev:Ev} {o:Oper} {ty:TypeId},iaS prog H ev o ty (some (none,2)) (some cut) (some (.li (j:Int)))=.val (.ptr a3 (o3+j*2)) H:=fun {H ev o ty}=>HAU.out.ia;have han3:a3<n2:=HAU.out.an;have hagg3:=HAU.out.agg;have h1s1:oneC s1=true:=HAU.out.r1.one;have h1s2:oneC s2=true:=HAU.out.r2.one;have honeS:allOne [s1,s2]=true:=by simp[h1s1,h1s2]
   have HMU:Aa ((ts.take k)[j]∈ts):=⟨g3o (Dt hjl)⟩;have HLU:=Aa.mk (HL.out.lens HMU.out);have HWU:=Aa.mk (HL.out.wl _ HMU.out);have HNA:=Aa.mk (HNE.out.trans (d5u hjl));have HS1:=Aa.mk HAU.out.r1;have HS2:=Aa.mk HAU.out.r2;clear HAU;generalize (ts.take k)[j]=u at *;have HST:=Aa.mk fun (gX:Gb) (n3:Nat) (hn:n2<=n3) (hX:∀ b,b<n2->gX b=g2 b)=>f7s (I:=I) (O:=O) HLU.out.1 HLT.out.1 HWU.out HWT.out gX n3 s1 s2 r1 r2 (Ag.mono hn hX HS1.out) (Ag.mono hn hX HS2.out) (Ag.mono (by omega) (fun b hb=>(hX b (by omega)).trans (HG2.out b hb)) HR1.out) (Ag.mono (by omega) (fun b hb=>(hX b (by omega)).trans (HG2.out b hb)) HR2.out);have HSI:Aa (b0k u t=optI (stepL u.1 u.2 t.1 t.2 0)):=⟨rfl⟩;generalize b0k u t=z at *
   iterate 8 all_goals try first|apply spl<;>intro h|simp (disch:=first|assumption|omega|simp) [*]
   refine WC.mono (HST.out _ _ (by omega) fun b hb=>by simp (disch:=omega) only[Ab]) ?_;rintro _ rfl
   cases hq:stepL u.1 u.2 t.1 t.2 0 with
   | none =>
    have hz:z = -1:=by rw[HSI.out,hq];rfl
    rw[hq] at HNA;have HNB:Aa (a0x t (ts.take k) 0=a0x t ((ts.take k).drop (j+1)) (j+1)):=⟨HNA.out⟩;clear HNA hq HSI;subst hz
    iterate 8 all_goals try first|apply spl<;>intro h|simp (disch:=first|assumption|omega|simp) [*]
    refine ih2.out (k-(j+1)) _ _ (by omega) ⟨j+1,_,_,by omega,rfl,rfl,?_,⟨fun b hb=>?_⟩,?_,HNB,by simp[*]⟩
    ·omega
    ·simp (disch:=omega) only[Ab];exact HG2.out b hb
    ·simp (disch:=omega) only[Ab];exact hgt
   | some v =>
    have hz:z=v:=by rw[HSI.out,hq];rfl
    rw[hq] at HNA;have hDE:=HDE.out;rw[HNA.out] at hDE;have hDE2:D=some (j,k,v):=hDE;clear HNA hq HSI hDE HDE HD HP;subst hz hDE2
    iterate 8 all_goals try first|apply spl<;>intro h|simp (disch:=first|assumption|omega|simp) [*]
    refine⟨_,_,⟨rfl,rfl,rfl⟩,by omega,fun b hb=>?_⟩;simp (disch:=omega) only[Ab];exact(HG2.out b (by omega)).trans (HG.out b hb)
  ·have hltjI:¬(j:Int)<(k:Int):=by omega
   have hNN:=HNE.out.trans (by rw[Ex (by rw[Dw];omega)];rfl:_=none);have hDE:=HDE.out;rw[hNN] at hDE;have HDN:Aa (D=Dk ts (ts.drop (k+1)) (k+1)):=⟨hDE⟩;clear hDE hNN
   iterate 8 all_goals try first|apply spl<;>intro h|simp (disch:=first|assumption|omega|simp) [*]
   refine ih.out (ts.length-(k+1)) _ _ (by omega) ⟨k+1,n2,g2,by omega,rfl,rfl,by omega,⟨fun b hb=>(HG2.out b (by omega)).trans (HG.out b hb)⟩,hgn2,hgp2,HDN,by simp[*]⟩
 ·have hltI:¬(k:Int)<(ts.length:Int):=by omega
  have hDE:D=none:=by rw[HP.out,Ex (by omega)];rfl
  clear HP HD;subst hDE
  iterate 8 all_goals try first|apply spl<;>intro h|simp (disch:=first|assumption|omega|simp) [*]
  refine⟨_,_,⟨rfl,rfl,rfl⟩,by omega,fun b hb=>?_⟩;simp (disch:=omega) only[Ab];exact HG.out b hb
end Go.Ai
end
section
namespace Go.Ai
open Go.Proofs Go.Proofs.Tryz
set_option maxRecDepth 10000
set_option maxHeartbeats 40000000
variable {H:Mem} {a b:Int}
theorem sl57:a6y prog 65=true:=by kernel_rfl
theorem equal57nil:Ao prog (Op.equal 65 (.slice none 0 0) (.slice none 0 0))=some true:=by kernel_rfl
theorem f7u {ev:Ev} {d:Option Tmp} {ty rt:TypeId} {p:String} {af:Array Edge} {g:Option (Nat×Bool)} {x:Operand} (hx:ev x=some (.nl)) (hy:ev (.const (.slice none 0 0))=some (.nl)) :
  a2u prog H ev ⟨d,.binOp .eql 65 x (.const (.slice none 0 0)) rt,ty,p,af,g⟩ .eql 65 (some (.nl)) (some (.nl))=.val (.lit (.bool true)) H:=by
 show Bq prog H ev ⟨d,.binOp .eql 65 x (.const (.slice none 0 0)) rt,ty,p,af,g⟩ .eql 65 (some (.nl)) (some (.nl))=_;refine b1q rfl ?_;have h1:(Op.operands (.binOp .eql 65 x (.const (.slice none 0 0)) rt)).toList=[x,.const (.slice none 0 0)]:=rfl;unfold Ba;dsimp only;rw[h1];have l1:toLit (.nl)=some (.slice none 0 0):=rfl;simp only[g5t,List.all_nil,hx,hy,l1,g4o,if_true];have h2:∀ ρ:Operand->Value,ρ x=.slice none 0 0->ρ (.const (.slice none 0 0))=.slice none 0 0->Ao prog (execOp ρ ⟨d,.binOp .eql 65 x (.const (.slice none 0 0)) rt,ty,p,af,g⟩)=some (.value (.bool true)):=by
  intro ρ e1 e2;refine b1r e1 e2 ?_ ?_
  ·unfold eqGuard;kernel_rfl
  ·show Ao prog (do pure (Value.bool (<- Op.equal 65 _ _)))=_;exact(Bs equal57nil).trans rfl
 rw[h2 _ (by simp only[hx,l1]) (by simp only[hy,l1])]
attribute [simp] sl57 f7u
def b2g (g:Gb) (lo n:Nat) (w:Wd) (sv:AV) : Prop :=
 (w=[]/\(sv=.nl\/∃ m,lo<=m/\m<n/\sv=.sl m 0 0 0/\g m=some (.cells [] true 0)))\/(0<w.length/\∃ m,lo<=m/\m<n/\sv=.slq m 0 w.length 0/\g m=some (.cells (wdC w) true 1))
theorem d5w (w:Wd) (hwl:w.length<=1000000) (g:Gb) (n:Nat) (sv:AV) (hv:Ak g n w sv) :
  WC 0 prog 94 [sv] ⟨.fn g,n⟩ fun r=>∃ sv' g' n',r=.ret sv' ⟨.fn g',n'⟩/\n<=n'/\(∀ b,b<n->g' b=g b)/\b2g g' n n' w sv':=by
 have hcase:(w=[]/\sv=.nl)\/((∃ a o k c,sv=.sl a o k c)\/(∃ a o k c,sv=.slq a o k c)\/sv=.es):=by
  rcases hv with⟨h1,_,rfl|rfl⟩|⟨a,off,_,⟨c,rfl⟩|⟨c,rfl⟩,_⟩
  ·exact .inl ⟨g2i.1 h1,rfl⟩
  ·exact .inr (.inr (.inr rfl))
  ·exact .inr (.inl ⟨_,_,_,_,rfl⟩)
  ·exact .inr (.inr (.inl ⟨_,_,_,_,rfl⟩))
 rcases hcase with⟨hw,rfl⟩|hne
 ·subst hw;clear hv;refine ent [] func94 rfl (by decide +kernel) (by kernel_rfl) ?_
  iterate 8 all_goals try first|apply spl<;>intro h|simp (disch:=first|assumption|omega|simp) [*]
  refine⟨_,_,_,⟨rfl,rfl,rfl⟩,Dp _,fun b hb=>rfl,.inl ⟨rfl,.inl rfl⟩⟩
 ·by_cases hl:w.length=0
  ·have hw:w=[]:=g2i.1 hl;subst hw;have hap:=fun {H:Mem} {ev:Ev} {d:Option Tmp} {ty:TypeId} {p:String} {af:Array Edge} {gd:Option (Nat×Bool)} {x y:Operand} {s t:TypeId} {a off:Nat} {hx:ev x=some (.sl a off 0 0)} {hy:ev y=some sv} (hp:(apI prog s t).isSome=true)=>Ag.ap00 (P:=prog) hv (H:=H) (ev:=ev) (d:=d) (ty:=ty) (p:=p) (af:=af) (gd:=gd) (x:=x) (y:=y) (a:=a) (off:=off) (hx:=hx) (hy:=hy) hp;clear hv;rcases hne with⟨a,o,k,c,rfl⟩|⟨a,o,k,c,rfl⟩|rfl
   all_goals
    refine ent [] func94 rfl (by decide +kernel) (by kernel_rfl) ?_
    iterate 8 all_goals try first|apply spl<;>intro h|simp (disch:=first|assumption|omega|simp) [*]
    refine⟨_,_,_,⟨rfl,rfl,rfl⟩,by omega,fun b hb=>?_,.inl ⟨rfl,.inr ⟨n,Dp _,by omega,rfl,Af⟩⟩⟩;exact Ab hb
  ·obtain⟨a2,blk,ha2,hga2,hap⟩:=Ag.ap0 (P:=prog) (sz:=1) hv (by omega) (by omega) (by rw[Bi];omega);clear hv;have hl0:0<w.length:=by omega
   rcases hne with⟨a,o,k,c,rfl⟩|⟨a,o,k,c,rfl⟩|rfl
   all_goals
    refine ent [] func94 rfl (by decide +kernel) (by kernel_rfl) ?_
    iterate 8 all_goals try first|apply spl<;>intro h|simp (disch:=first|assumption|omega|simp) [*]
    refine⟨_,_,_,⟨rfl,rfl,rfl⟩,by omega,fun b hb=>?_,.inr ⟨hl0,n+1,by omega,by omega,rfl,Af⟩⟩;simp (disch:=omega) only[Ab]
theorem mk57 (h0:0<=a) (h1:a<=b) (h2:b<=1048576) : a4d prog H 65 (mkI prog 65) (some (.li a)) (some (.li b))=.val (.sl H.next 0 a.toNat b.toNat) (H.add (.cells (rep [.li 0] b.toNat) true 0)):=by
 have hx:a1v prog H 65 (some (.li a)) (some (.li b))=_:=b6f (e:=3) (size:=1) (bytes:=8) (z:=[.li 0]) (by kernel_rfl) (by decide) (by decide) (by kernel_rfl) h0 h1 h2;unfold a4d;split
 ·rename_i v a' b' hq e1 e2;cases e1;cases e2;split
  ·rename_i h;obtain⟨rfl,h3,h4⟩:=h;have hv:mkI prog 65=some (.li 0):=by kernel_rfl
   rw[hv] at hq;cases hq;rw[b9m]
  ·exact hx
 ·exact hx
theorem mk22 (h0:0<=a) (h1:a<=b) (h2:b<=1048576) : a4d prog H 52 none (some (.li a)) (some (.li b))=.val (.sl H.next 0 a.toNat b.toNat) (H.add (.cells (rep [.nl,.nl] b.toNat) true 0)) :=
 b6f (e:=84) (size:=2) (bytes:=48) (z:=[.nl,.nl]) (by kernel_rfl) (by decide) (by decide) (by kernel_rfl) h0 h1 h2
theorem f7v (h0:0<=a) (h1:a<=b) (h2:b<=1048576) : a4d prog H 65 (some (.li 0)) (some (.li a)) (some (.li b))=.val (.sl H.next 0 a.toNat b.toNat) (H.add (.cells (rep [.li 0] b.toNat) true 0)):=by
 have h:=mk57 (H:=H) h0 h1 h2
 rwa [mkI57] at h
theorem mkI22:mkI prog 52=none:=by kernel_rfl
attribute [simp] mk22 mkI22 f7v
end Go.Ai
end
section
namespace Go.Ai
open Go.Proofs Go.Proofs.Tryz
set_option maxRecDepth 10000
set_option maxHeartbeats 40000000
variable {g g':Gb} {n B:Nat} {w:Wd} {l:Wq} {lv sv:AV}
def Bt (g:Gb) (n:Nat) (l:Wq) (lv:AV) : Prop:=∃ svs,Ag g n lv l.length svs/\RowsW g n l svs
theorem Bt.mono {n': Nat} (h:Bt g n l lv) (hn:n<=n') (hg:∀ a,a<n->g' a=g a) : Bt g' n' l lv :=
 let ⟨svs,h1,h2⟩:=h;⟨svs,h1.mono hn hg,h2.ext hn fun a x ha hx=>(hg a ha).trans hx⟩
theorem Bt.at (h:Bt g n l lv) {k:Nat} (hk:k<l.length) : ∃ a off q,a<n/\(∀ {H:Mem} {ev:Ev} {o:Oper} {t:TypeId},iaS prog H ev o t (some (none,1)) (some lv) (some (.li (k:Int)))=.val (.ptr a (off+k)) H)/\Bd (some (false,1)) (g a) (off+k)=some q/\Ak g n l[k] q:=by
 obtain⟨svs,h1,h2,h3⟩:=h;obtain⟨q,e1,e2⟩:=h3 k hk;obtain⟨a,off,ha,hrow,hia⟩:=h1.ia (P:=prog) hk 1;simp only[El] at hia;have hc:=hrow.one (k:=k) (s:=1) (by omega);grind
theorem el93:(Ca prog 22).map (·.1)=some none:=by kernel_rfl
theorem Bt.cut (h:Bt g n l lv) (hc:Bf lv) :
  ∃ sv',(∀ {H:Mem} {ev:Ev} {d:Option Tmp} {ty:TypeId} {p:String} {af:Array Edge} {gd:Option (Nat×Bool)} {x hi:Operand} {hx:ev x=some lv} {hh:ev hi=some (.li (l.length:Int))},
   ex2 prog H ev ⟨d,.slice 22 x none (some hi) none,ty,p,af,gd⟩ x hi (some lv) (some (.li (l.length:Int))) hx hh=.val sv' H)/\Bt g n l sv':=by
 obtain⟨svs,h1,h2⟩:=h;obtain⟨sv',h3,h4,_⟩:=Ag.cutP (P:=prog) h1 hc el93 (k:=l.length) (sz:=1) (Dp _);refine⟨sv',h3,svs,?_,h2⟩;rw[El,<- h2.1,Ep] at h4;rw[h2.1] at h4;grind
theorem Ak.safe {n':Nat} (h:Ak g n w sv) (hn:n<=n') (hB:n<=B) (hg:∀ a,a<n->g' a=g a) : Bj g' 0 n' B w sv :=
 ⟨fun a=>if a<n then g a else none,⟨fun a z hz=>(by
  grind),Ag.ext hn (fun a x ha hx=>(if_pos ha).trans hx) h⟩⟩
theorem Bj.nil {lo:Nat} : Bj g lo n B [] (.nl):=⟨fun _=>none,fun a z h=>(by cases h),.inl ⟨rfl,rfl,.inl rfl⟩⟩
structure d5x (g:Gb) (n B c k:Nat) (ts:Lq) (R:List AV) : Prop where
 blk:g B=some (.cells R true 0)
 len:R.length=c*2
 kl:k<=c
 rows:RowsF g 0 n B ts (R.take (k*2))
 tl:ts.length=k
theorem d5x.log {len:Nat} {ts:Lq} {R:List AV} (h:d5x g n B len len ts R) (hB:B<n) : a0w g n ts (.sl B 0 len len):=by
 have h1:=h.rows;rw[<- h.len,Ep] at h1;exact⟨R,.inr ⟨B,0,hB,.inl ⟨len,by rw[h.tl]⟩,R,true,0,h.blk,by simp[*]⟩,h1.rows⟩
theorem RowsF.upd {lo:Nat} {ts:Lq} {cs cs': List AV} (h:RowsF g lo n B ts cs) {i:Nat} {t:List Int×Wd} {s1 s2:AV} (hl:cs'.length=cs.length) (h1:cs'[i*2]?=some s1) (h2:cs'[i*2+1]?=some s2) (ho:∀ j,j≠i*2->j≠i*2+1->cs'[j]?=cs[j]?) (w1:Bj g lo n B t.1 s1) (w2:Bj g lo n B t.2 s2) : RowsF g lo n B (ts.set i t) cs':=by
 refine⟨by rw[hl,Ed];exact h.1,fun k hk=>?_⟩;rw[Ed] at hk;by_cases hki:i=k
 ·grind
 ·obtain⟨r1,r2,e1,e2,e3,e4⟩:=h.2 k hk;grind
theorem Bj.sl {lo m len c:Nat} {own:Bool} {z:Nat} (h:g m=some (.cells (wdC w) own z)) (hl:len=w.length) (h1:lo<=m) (h2:m<n) (h3:m≠B) : Bj g lo n B w (.sl m 0 len c):=by
 subst hl;exact⟨fun a=>if a=m then g a else none,⟨fun a z hz=>(by
  grind),.inr ⟨m,0,h2,.inl ⟨c,rfl⟩,wdC w,own,z,(if_pos rfl).trans h,by simp[*]⟩⟩⟩
theorem b2g.keep {lo:Nat} (h:b2g g lo n w sv) (hg:∀ a,lo<=a->a<n->g' a=g a) : b2g g' lo n w sv:=by
 rcases h with⟨rfl,rfl|⟨m,h1,h2,rfl,h3⟩⟩|⟨hl,m,h1,h2,rfl,h3⟩
 ·exact .inl ⟨rfl,.inl rfl⟩
 ·exact .inl ⟨rfl,.inr ⟨m,h1,h2,rfl,(hg m h1 h2).trans h3⟩⟩
 ·exact .inr ⟨hl,m,h1,h2,rfl,(hg m h1 h2).trans h3⟩
theorem b2g.one {lo:Nat} (h:b2g g lo n w sv) : oneC sv=true/\cellsOf sv=[sv]:=by
 rcases h with⟨rfl,rfl|⟨m,h1,h2,rfl,h3⟩⟩|⟨hl,m,h1,h2,rfl,h3⟩<;>exact⟨rfl,rfl⟩
end Go.Ai
end
section
namespace Go.Ai
open Go.Proofs Go.Proofs.Tryz
set_option maxRecDepth 10000
set_option maxHeartbeats 40000000
end Go.Ai
end
section
namespace Go.Ai
set_option maxRecDepth 10000
variable {V:Wd→Option Int} {ws:Wq} {w x p:Wd} {o:Int} {I i:Nat}
def valT:Lq->Wd->Option Int
 | [],_=>none
 | t :: ts,w=>if w≠[]/\w.length<=t.1.length/\t.1.take w.length=w then some (t.2.getD (w.length-1) 0) else valT ts w
def Ar (V:Wd->Option Int) (ws:Wq) (w:Wd) (i:Nat) : Int×Int:=match V (w++[(i:Int)]) with
 | none=>(-1,-1)
 | some o=>if o = -1 then (-1,-2) else (((ws.idxOf (w++[(i:Int)]) : Nat) : Int),o)
def Av (V:Wd->Option Int) (ws:Wq) (I:Nat) (w:Wd) : List (Int×Int):=(List.range I).map (Ar V ws w)
def Bu (V:Wd->Option Int) (ws:Wq) (I:Nat) : Tq:=ws.map (Av V ws I)
structure Nod (V:Wd->Option Int) (ws:Wq) : Prop where
 nd:ws.Nodup
 mem:∀ w,w∈ws↔w=[]\/∃ o,V w=some o/\o ≠ -1
 clo:∀ x j o,V (x++[j])=some o->x=[]\/∃ o',V x=some o'/\(o ≠ -1->o' ≠ -1)
theorem a5t : (Av V ws I w).length=I:=by simp[Av]
theorem b4b (h:i<I) : (Av V ws I w)[i]?=some (Ar V ws w i):=by
 grind[Av]
theorem a3q {V:Wd->Option Int} {ws:Wq} {I:Nat} : (Bu V ws I).length=ws.length:=by simp[Bu]
theorem c5z {k:Nat} (h:k<ws.length) : (Bu V ws I).getD k []=Av V ws I ws[k]:=by
 grind[Bu]
theorem b2h (h:w∈ws) : ∃ hl:ws.idxOf w<ws.length,ws[ws.idxOf w]=w:=by
 grind
theorem d5y {us:Wq} (h:w∈ws) : (ws++us).idxOf w=ws.idxOf w:=by
 grind
theorem d5z (h:w ∉ ws) : (ws++[w]).idxOf w=ws.length:=by
 grind
def Ck (V:Wd->Option Int) (x:Wd) (o:Int) : Wd->Option Int:=fun y=>if y=x then some ((V x).getD o) else V y
theorem b2i {o': Int} (h:V x=some o') : Ck V x o=V:=by
 grind[Ck]
theorem b2j (h:V x=none) : Ck V x o x=some o:=by unfold Ck;grind
theorem a2z {y:Wd} (h:y≠x) : Ck V x o y=V y:=if_neg h
theorem d6a {us:Wq} (hN:Nod V ws) (hw:w++[(i:Int)]≠x) : Ar (Ck V x o) (ws++us) w i=Ar V ws w i:=by
 unfold Ar;rw[a2z hw]
 cases h:V (w++[(i:Int)]) with
 | none=>rfl
 | some o' =>
  dsimp only;split
  ·rfl
  ·rename_i h1;rw[d5y ((hN.mem _).2 (.inr ⟨o',h,h1⟩))]
theorem a7c {a b:Wd} {i j:Int} (h:a++[i]=b++[j]) : a=b/\i=j:=by
 simp_all
theorem f7w {V:Wd->Option Int} {ws us:Wq} {I:Nat} {p w:Wd} {i:Int} {o:Int} (hN:Nod V ws) (hw:w≠p) : Av (Ck V (p++[i]) o) (ws++us) I w=Av V ws I w:=by
 grind[Av,List.map_congr_left,a7c,d6a]
theorem f7x {us:Wq} (hN:Nod V ws) (hi:i<I) : Av (Ck V (p++[(i:Int)]) o) (ws++us) I p=(Av V ws I p).set i (Ar (Ck V (p++[(i:Int)]) o) (ws++us) p i):=by
 apply g4r;intro j;by_cases hji:i=j
 ·grind[b4b,a5t]
 ·rw[g2z hji];by_cases hj:j<I
  ·rw[b4b hj,b4b hj,d6a hN];grind[a7c]
  grind[a5t]
theorem d6b (us:Wq) (hN:Nod V ws) (hp:p∈ws) (hi:i<I) :
  ws.map (Av (Ck V (p++[(i:Int)]) o) (ws++us) I)=(Bu V ws I).set (ws.idxOf p) (((Bu V ws I).getD (ws.idxOf p) []).set i (Ar (Ck V (p++[(i:Int)]) o) (ws++us) p i)):=by
 obtain⟨hl,hat⟩:=b2h hp;apply g4r;intro k;by_cases hk:ws.idxOf p=k
 ·subst hk;rw[g3x (by grind[a3q]),g2s,Dv hl,c5z hl,hat];simp_all[f7x]
 ·rw[g2z hk];by_cases hk2:k<ws.length
  ·unfold Bu;rw[g2s,g2s,Dv hk2];refine congrArg some (f7w hN fun h=>hk ?_);have:ws[ws.idxOf p]=ws[k]:=by grind
   exact(List.getElem_inj hN.nd).1 this
  grind[a3q]
end Go.Ai
end
section
namespace Go.Ai
set_option maxRecDepth 10000
variable {V:Wd→Option Int} {ws:Wq}
theorem Nod.none_of (hN:Nod V ws) {x:Wd} (hx:x≠[]) (h:V x=none) (j:Int) : V (x++[j])=none:=by
 cases h2:V (x++[j]) with
 | none=>rfl
 | some o =>
  rcases hN.clo x j o h2 with h3|⟨o',h3,_⟩
  all_goals grind
theorem Nod.up (hN:Nod V ws) {x:Wd} {j:Int} (h:x++[j]∈ws) : x∈ws:=by
 rcases (hN.mem _).1 h with h1|⟨o,h1,h2⟩
 ·simp_all
 ·rcases hN.clo x j o h1 with h3|⟨o',h3,h4⟩
  ·exact(hN.mem x).2 (.inl h3)
  ·exact(hN.mem x).2 (.inr ⟨o',h3,h4 h2⟩)
theorem Nod.pre (hN:Nod V ws) {x:Wd} : ∀ (n:Nat) (u:Wd),u.length=n->x++u∈ws->x∈ws
 | 0,u,hu,h=>by
  grind
 | n+1,u,hu,h=>by
  have hne:u≠[]:=fun e=>by grind
  have e:=g4s hne;rw[<- e,<- Er] at h;exact hN.pre n u.dropLast (by grind) (hN.up h)
theorem Nod.updDead (hN:Nod V ws) {p:Wd} {i:Int} (hp:p∈ws) (h:V (p++[i])=none) : Nod (Ck V (p++[i]) (-1)) ws:=by
 refine⟨hN.nd,fun w=>?_,fun y j o hy=>?_⟩
 ·by_cases hw:w=p++[i]
  ·subst hw;rw[b2j h];constructor
   ·intro h1;rcases (hN.mem _).1 h1 with h2|⟨o,h2,_⟩
    all_goals grind
   simp
  ·rw[a2z hw];exact hN.mem w
 ·by_cases hyx:y++[j]=p++[i]
  ·obtain⟨rfl,rfl⟩:=a7c hyx;rcases (hN.mem _).1 hp with h1|⟨o',h1,h2⟩
   all_goals simp_all[a2z]
  ·rw[a2z hyx] at hy;rcases hN.clo y j o hy with h1|⟨o',h1,h2⟩
   all_goals grind[a2z]
theorem Nod.updNew (hN:Nod V ws) {p:Wd} {i o:Int} (hp:p∈ws) (h:V (p++[i])=none) (ho:o ≠ -1) : Nod (Ck V (p++[i]) o) (ws++[p++[i]]):=by
 have hx:p++[i] ∉ ws:=fun h1=>by
  rcases (hN.mem _).1 h1 with h2|⟨o,h2,_⟩
  all_goals simp_all
 refine⟨?_,fun w=>?_,fun y j o' hy=>?_⟩
 ·rw[List.nodup_append];refine⟨hN.nd,by simp,fun a ha b hb e=>?_⟩;grind
 ·rw[Eg,En];by_cases hw:w=p++[i]
  ·subst hw;rw[b2j h];grind
  ·rw[a2z hw];constructor
   ·rintro (h1|h1)
    ·exact(hN.mem w).1 h1
    grind
   ·intro h1;exact .inl ((hN.mem w).2 h1)
 ·by_cases hyx:y++[j]=p++[i]
  ·obtain⟨rfl,rfl⟩:=a7c hyx;rcases (hN.mem _).1 hp with h1|⟨o',h1,h2⟩
   all_goals simp_all[a2z]
  ·rw[a2z hyx] at hy;rcases hN.clo y j o' hy with h1|⟨o'',h1,h2⟩
   all_goals grind[a2z]
def addV:(Wd->Option Int)->Wd->Wd->Wd->Wd->Option Int
 | V,p,i :: w,o :: r=>addV (Ck V (p++[i]) o) (p++[i]) w r
 | V,_,_,_=>V
theorem addV_keep:∀ (w r:Wd) (V:Wd->Option Int) (p y:Wd) (o:Int),V y=some o->addV V p w r y=some o
 | [],_,_,_,_,_,h=>h
 | _ :: _,[],_,_,_,_,h=>h
 | i :: w,o' :: r,V,p,y,o,h=>by
  refine addV_keep w r _ _ y o ?_;by_cases hy:y=p++[i]
  ·rw[b2i (hy ▸ h)];exact h
  ·rw[a2z hy];exact h
theorem a7d {p:Wd} {i:Int} {w:Wd} {k:Nat} : p++(i :: w).take (k+1)=(p++[i])++w.take k:=by
 grind
theorem addV_some:∀ (w r:Wd) (V:Wd->Option Int) (p:Wd) (k:Nat),r.length=w.length->k<w.length->∃ o,addV V p w r (p++w.take (k+1))=some o
 | [],_,_,_,_,_,h=>by cases h
 | _ :: _,[],_,_,_,h,_=>by cases h
 | i :: w,o :: r,V,p,0,_,_=>by
  simp[Ck,addV,addV_keep]
 | i :: w,o :: r,V,p,k+1,hl,hk=>by
  show ∃ o',addV (Ck V (p++[i]) o) (p++[i]) w r _=some o';rw[a7d];exact addV_some w r _ _ k (by grind) (by grind)
theorem addV_dead:∀ (w r:Wd) (V:Wd->Option Int) (p y:Wd),r.length=w.length->(∀ k,k<r.length->r.getD k 0 = -1)->addV V p w r y=V y\/(V y=none/\addV V p w r y=some (-1)/\∃ k,k<w.length/\y=p++w.take (k+1))
 | [],_,_,_,_,_,_=>.inl rfl
 | _ :: _,[],_,_,_,h,_=>by cases h
 | i :: w,o :: r,V,p,y,hl,hd=>by
  have ho:o = -1:=hd 0 (by simp);subst ho;show addV (Ck V (p++[i]) (-1)) (p++[i]) w r y=V y\/(V y=none/\addV (Ck V (p++[i]) (-1)) (p++[i]) w r y=some (-1)/\_);rcases addV_dead w r (Ck V (p++[i]) (-1)) (p++[i]) y (by grind) (fun k hk=>hd (k+1) (by grind)) with h|⟨h1,h2,k,hk,h3⟩
  ·by_cases hy:y=p++[i]
   ·cases hv:V y with
    | none =>
     refine .inr ⟨rfl,?_,0,by simp,by grind⟩;grind[b2j]
    | some o=>simp_all[b2i]
   grind[a2z]
  ·have hy:y≠p++[i]:=fun e=>by
    simp_all
   (simp_all[a2z];grind)
theorem c6a {O:Int} : ∀ (r:Wd) (k:Nat),okR O true r=true->k<r.length->r.getD k 0 = -1
 | [],_,_,hk=>by grind
 | o :: r,0,h,_=>(a8l h).2.2.1 rfl
 | o :: r,k+1,h,hk=>by
  obtain⟨_,_,h3,h4⟩:=a8l h;rw[h3 rfl] at h4;exact c6a r k h4 (by simpa using hk)
theorem f7y {V:List Int->Option Int} {ws:List (List Int)} {I:Nat} (hN:Nod V ws) {x w r:List Int} (hx:V x=some (-1)) (hx0:x≠[]) (hl:r.length=w.length) (hd:∀ k,k<r.length->r.getD k 0 = -1) : Bu (addV V x w r) ws I=Bu V ws I/\Nod (addV V x w r) ws:=by
 have hxw:x ∉ ws:=fun h=>by
  rcases (hN.mem _).1 h with h1|⟨o,h1,h2⟩
  all_goals grind
 have key:∀ v∈ws,∀ j:Int,addV V x w r (v++[j])=V (v++[j]):=fun v hv j=>by
  rcases addV_dead w r V x (v++[j]) hl hd with h|⟨h1,h2,k,hk,h3⟩
  ·exact h
  ·exfalso;have h4:v=x++w.take k:=by
    grind[Cr,a7c]
   rw[h4] at hv;exact hxw (hN.pre _ _ rfl hv)
 constructor
 ·grind[Bu,List.map_congr_left,Av,Ar]
 ·refine⟨hN.nd,fun v=>?_,fun y j o hy=>?_⟩
  ·rw[hN.mem v];rcases addV_dead w r V x v hl hd with h|⟨h1,h2,_⟩
   all_goals grind
  ·rcases addV_dead w r V x (y++[j]) hl hd with h|⟨h1,h2,k,hk,h3⟩
   ·rw[h] at hy;rcases hN.clo y j o hy with h1|⟨o',h1,h2⟩
    all_goals grind[addV_keep]
   ·rw[h2] at hy;cases hy;have h4:y=x++w.take k:=by
     grind[Cr,a7c]
    cases k with
    | zero =>
     rw[List.take_zero,List.append_nil] at h4;rw[h4];exact .inr ⟨-1,addV_keep _ _ _ _ _ _ hx,fun h=>absurd rfl h⟩
    | succ k =>
     obtain⟨o',ho'⟩:=addV_some w r V x k hl (by omega);grind
def a2i (I:Nat) : Tq->Nat->Wd->Wd->Tq
 | rows,at',i :: w,o :: r =>
  if o = -1 then rows.set at' ((rows.getD at' []).set i.toNat (-1,-2))
  else if ((rows.getD at' []).getD i.toNat (-1,-1)).1 = -1 then a2i I (rows.set at' ((rows.getD at' []).set i.toNat ((rows.length:Int),o))++[List.replicate I (-1,-1)]) rows.length w r
  else a2i I rows ((rows.getD at' []).getD i.toNat (-1,-1)).1.toNat w r
 | rows,_,_,_=>rows
theorem c6b {O:Int} {I:Nat} : ∀ (w r:List Int) (V:List Int->Option Int) (ws:List (List Int)) (p:List Int),Nod V ws->p∈ws->inW w I=true->okR O false r=true->r.length=w.length ->
  (∀ k,k<w.length->∀ o',V (p++w.take (k+1))=some o'->o'=r.getD k 0)->∃ us,Nod (addV V p w r) (ws++us)/\a2i I (Bu V ws I) (ws.idxOf p) w r=Bu (addV V p w r) (ws++us) I
 | [],_,V,ws,p,hN,_,_,_,_,_=>⟨[],by rw[List.append_nil];exact hN,by rw[List.append_nil];rfl⟩
 | _ :: _,[],_,_,_,_,_,_,_,h,_=>by cases h
 | i :: w,o :: r,V,ws,p,hN,hp,hw,hr,hl,hc=>by
  unfold inW at hw;rw[List.all_cons,Bool.and_eq_true] at hw;have hi:=of_decide_eq_true hw.1;obtain⟨a,rfl⟩ : ∃ a:Nat,i=a:=⟨i.toNat,by omega⟩;have ha:a<I:=by omega
  obtain⟨hr1,hr2,_,hr4⟩:=a8l hr;have hl' : r.length=w.length:=by grind
  obtain⟨hpl,hpat⟩:=b2h hp;have hc0:∀ o',V (p++[(a:Int)])=some o'->o'=o:=fun o' h=>by
   have:=hc 0 (by simp) o' (by grind);grind
  have hrow:(Bu V ws I).getD (ws.idxOf p) []=Av V ws I p:=by grind[c5z]
  have hent:(Av V ws I p).getD a (-1,-1)=Ar V ws p a:=by grind[b4b]
  have hxne:p++[(a:Int)]≠[]:=by simp
  have hc1:∀ k,k<w.length->∀ o',Ck V (p++[(a:Int)]) o ((p++[(a:Int)])++w.take (k+1))=some o'->o'=r.getD k 0:=fun k hk o' h=>by
   rw[a2z (fun e=>by have h4:=congrArg List.length e;grind)] at h;have:=hc (k+1) (by grind) o' (by grind);grind
  show ∃ us,Nod (addV (Ck V (p++[(a:Int)]) o) (p++[(a:Int)]) w r) (ws++us)/\(if o = -1 then (Bu V ws I).set (ws.idxOf p) (((Bu V ws I).getD (ws.idxOf p) []).set (a:Int).toNat (-1,-2))
   else if (((Bu V ws I).getD (ws.idxOf p) []).getD (a:Int).toNat (-1,-1)).1 = -1 then a2i I ((Bu V ws I).set (ws.idxOf p) (((Bu V ws I).getD (ws.idxOf p) []).set (a:Int).toNat (((Bu V ws I).length:Int),o))++[List.replicate I (-1,-1)]) (Bu V ws I).length w r
   else a2i I (Bu V ws I) (((Bu V ws I).getD (ws.idxOf p) []).getD (a:Int).toNat (-1,-1)).1.toNat w r)=Bu (addV (Ck V (p++[(a:Int)]) o) (p++[(a:Int)]) w r) (ws++us) I
  rw[Int.toNat_natCast];by_cases ho:o = -1
  ·subst ho;rw[if_pos rfl];have hd:∀ k,k<r.length->r.getD k 0 = -1:=fun k hk=>c6a r k (by assumption) hk;have hx1:Ck V (p++[(a:Int)]) (-1) (p++[(a:Int)])=some (-1):=by
    cases h:V (p++[(a:Int)]) with
    | none=>exact b2j h
    | some o'=>rw[b2i h,h,hc0 o' h]
   have hN1:Nod (Ck V (p++[(a:Int)]) (-1)) ws:=by
    cases h:V (p++[(a:Int)]) with
    | none=>exact hN.updDead hp h
    | some o'=>grind[b2i]
   obtain⟨d1,d2⟩:=f7y (I:=I) hN1 hx1 hxne hl' hd;refine⟨[],by grind,?_⟩;rw[List.append_nil,d1];have h1:=d6b (I:=I) (o:=-1) [] hN hp ha;rw[List.append_nil] at h1;have h2:Ar (Ck V (p++[(a:Int)]) (-1)) ws p a=(-1,-2):=by grind[Ar]
   rw[h2] at h1;exact h1.symm
  ·rw[if_neg ho,hrow,hent];have hr4' : okR O false r=true:=by grind
   cases h:V (p++[(a:Int)]) with
   | none =>
    have he:Ar V ws p a=(-1,-1):=by grind[Ar]
    rw[he,if_pos rfl];have hxw:p++[(a:Int)] ∉ ws:=fun h1=>by
     rcases (hN.mem _).1 h1 with h2|⟨o',h2,_⟩
     all_goals grind
    have hN1:=hN.updNew hp h ho;have h1:=d6b (I:=I) (o:=o) [p++[(a:Int)]] hN hp ha;have h2:Ar (Ck V (p++[(a:Int)]) o) (ws++[p++[(a:Int)]]) p a=((ws.length:Int),o):=by
     unfold Ar;rw[b2j h];grind
    rw[h2,hrow] at h1;have h3:Av (Ck V (p++[(a:Int)]) o) (ws++[p++[(a:Int)]]) I (p++[(a:Int)])=List.replicate I (-1,-1):=by
     unfold Av;rw[List.eq_replicate_iff];refine⟨by simp,fun b hb=>?_⟩;obtain⟨j,_,rfl⟩:=List.mem_map.1 hb;unfold Ar;rw[a2z (by simp),hN.none_of hxne h]
    have h4:(Bu V ws I).set (ws.idxOf p) ((Av V ws I p).set a (((Bu V ws I).length:Int),o))++[List.replicate I (-1,-1)]=Bu (Ck V (p++[(a:Int)]) o) (ws++[p++[(a:Int)]]) I:=by
     grind[Bu]
    rw[h4];have h5:(Bu V ws I).length=(ws++[p++[(a:Int)]]).idxOf (p++[(a:Int)]):=by rw[a3q,d5z hxw]
    rw[h5];obtain⟨us,e1,e2⟩:=c6b w r _ _ (p++[(a:Int)]) hN1 (by simp) hw.2 hr4' hl' hc1;grind
   | some o' =>
    have hoo:=hc0 o' h;subst hoo;have hxw:p++[(a:Int)]∈ws:=(hN.mem _).2 (.inr ⟨o',h,ho⟩);have he:Ar V ws p a=(((ws.idxOf (p++[(a:Int)]) : Nat) : Int),o'):=by unfold Ar;grind
    rw[he,if_neg (by grind)];rw[b2i h] at hc1 |-;obtain⟨us,e1,e2⟩:=c6b w r V ws (p++[(a:Int)]) hN hxw hw.2 hr4' hl' hc1;grind[Int.toNat_natCast]
end Go.Ai
end
section
namespace Go.Ai
set_option maxRecDepth 10000
theorem d6c (t:List Int×Wd) (w:Wd) : ∀ (ts:Lq),valT (ts++[t]) w=match valT ts w with
  | some o=>some o
  | none=>if w≠[]/\w.length<=t.1.length/\t.1.take w.length=w then some (t.2.getD (w.length-1) 0) else none
 | []=>rfl
 | u :: ts=>by
  (simp_all[valT,d6c];grind)
theorem addV_eq:∀ (w r:Wd) (V:Wd->Option Int) (p y:Wd),r.length=w.length->addV V p w r y=match V y with
  | some o=>some o
  | none=>if p.length<y.length/\y.length<=p.length+w.length/\(p++w).take y.length=y then some (r.getD (y.length-p.length-1) 0) else none
 | [],_,V,p,y,_=>by
  show V y=_;grind
 | _ :: _,[],_,_,_,h=>by cases h
 | i :: w,o :: r,V,p,y,hl=>by
  show addV (Ck V (p++[i]) o) (p++[i]) w r y=_;rw[addV_eq w r _ _ y (by grind)];have hla:(p++[i]).length=p.length+1:=by simp
  by_cases hy:y=p++[i]
  ·(simp_all[Ck];grind)
  ·rw[a2z hy];grind
theorem f7z {ts:Lq} {t:List Int×Wd} (hl:t.2.length=t.1.length) : addV (valT ts) [] t.1 t.2=valT (ts++[t]):=by
 funext y;rw[addV_eq _ _ _ _ _ hl,d6c];grind
def a2j (ts:Lq) : Prop:=∀ u∈ts,∀ t∈ts,∀ k,k<u.1.length->k<t.1.length->u.1.take (k+1)=t.1.take (k+1)->u.2.getD k 0=t.2.getD k 0
theorem stepL_iff:∀ (x a y b:Wd) (k:Nat),a.length=x.length->b.length=y.length->(stepL x a y b k=none↔∀ j,j<x.length->j<y.length->x.take (j+1)=y.take (j+1)->a.getD j 0=b.getD j 0)
 | [],_,_,_,_,_,_=>⟨fun _ j h=>(by cases h),fun _=>rfl⟩
 | _ :: _,[],_,_,_,h,_=>by cases h
 | _ :: _,_ :: _,[],_,_,_,_=>⟨fun _ j _ h=>(by cases h),fun _=>rfl⟩
 | _ :: _,_ :: _,_ :: _,[],_,_,h=>by cases h
 | i :: x,p :: a,j :: y,q :: b,k,ha,hb=>by
  have ih:=stepL_iff x a y b (k+1) (by grind) (by grind);show ((if i=j then (if p=q then stepL x a y b (k+1) else some k) else none)=none↔_);by_cases h:i=j
  ·subst h;rw[if_pos rfl];by_cases h2:p=q
   ·subst h2;rw[if_pos rfl,ih]
    (simp_all;grind)
   ·rw[if_neg h2];constructor
    ·grind
    ·intro h3;exact absurd (h3 0 (by simp) (by simp) (by simp)) h2
  grind
theorem c6c (t:List Int×Wd) : ∀ (us:Lq) (a:Nat),a0x t us a=none↔∀ u∈us,stepL u.1 u.2 t.1 t.2 0=none
 | [],_=>⟨fun _ u hu=>(by grind),fun _=>rfl⟩
 | u :: us,a=>by
  have ih:=c6c t us (a+1);have e:a0x t (u :: us) a=match stepL u.1 u.2 t.1 t.2 0 with|some k=>some (a,k)|none=>a0x t us (a+1):=rfl
  grind
theorem d6d (ts:Lq) : ∀ (us:Lq) (b:Nat),Dk ts us b=none↔∀ (i:Nat) (h:i<us.length),∀ u∈ts.take (b+i),stepL u.1 u.2 us[i].1 us[i].2 0=none
 | [],_=>⟨fun _ i hi=>(by grind),fun _=>rfl⟩
 | t :: us,b=>by
  have ih:=d6d ts us (b+1);have e:Dk ts (t :: us) b=match a0x t (ts.take b) 0 with|some (a,k)=>some (a,b,k)|none=>Dk ts us (b+1):=rfl
  rw[e]
  cases h:a0x t (ts.take b) 0 with
  | some x =>
   constructor
   ·grind
   ·intro h2;have h3:=(c6c t (ts.take b) 0).2 fun u hu=>h2 0 (by simp) u hu;grind
  | none =>
   (simp_all[c6c];grind)
theorem b6y {ts:Lq} (hl:∀ t∈ts,t.2.length=t.1.length) : Dk ts ts 0=none↔a2j ts:=by
 rw[d6d];constructor
 ·intro h;have key:∀ (a b:Nat) (ha:a<ts.length) (hb:b<ts.length),a<b->∀ k,k<ts[a].1.length->k<ts[b].1.length->ts[a].1.take (k+1)=ts[b].1.take (k+1)->ts[a].2.getD k 0=ts[b].2.getD k 0:=fun a b ha hb hab=>by
   have h1:=h b hb ts[a] (by
    (simp_all[Ez];grind))
   grind[stepL_iff]
  intro u hu t ht k h1 h2 h3;obtain⟨a,ha,rfl⟩:=Ez.1 hu;obtain⟨b,hb,rfl⟩:=Ez.1 ht;grind
 ·intro h i hi u hu;have hu':=g3o hu;exact(stepL_iff _ _ _ _ _ (hl _ hu') (hl _ (Dt hi))).2 fun j=>h u hu' _ (Dt hi) j
theorem a8m {w:Wd} {o:Int} : ∀ {ts:Lq},valT ts w=some o->∃ u∈ts,w≠[]/\w.length<=u.1.length/\u.1.take w.length=w/\o=u.2.getD (w.length-1) 0
 | [],h=>by cases h
 | t :: ts,h=>by
  by_cases hc:w≠[]/\w.length<=t.1.length/\t.1.take w.length=w
  ·have e:valT (t :: ts) w=some (t.2.getD (w.length-1) 0):=if_pos hc;grind
  ·have e:valT (t :: ts) w=valT ts w:=if_neg hc;rw[e] at h;obtain⟨u,h1,h2⟩:=a8m h;exact⟨u,by simp[h1],h2⟩
theorem d6e {ts:Lq} (hc:a2j ts) {t:List Int×Wd} (ht:t∈ts) {k:Nat} (hk:k<t.1.length) : valT ts (t.1.take (k+1))=some (t.2.getD k 0):=by
 have hlen:(t.1.take (k+1)).length=k+1:=by grind
 have hne:t.1.take (k+1)≠[]:=fun e=>by grind
 have hsome:∀ us:Lq,t∈us->∃ o,valT us (t.1.take (k+1))=some o:=by
  intro us
  induction us with
  | nil=>grind
  | cons u us ih =>
   intro h;by_cases hcc:t.1.take (k+1)≠[]/\(t.1.take (k+1)).length<=u.1.length/\u.1.take (t.1.take (k+1)).length=t.1.take (k+1)
   ·exact⟨_,if_pos hcc⟩
   ·rcases Dz.1 h with rfl|h
    ·grind
    ·obtain⟨o,ho⟩:=ih h;exact⟨o,(if_neg hcc).trans ho⟩
 obtain⟨o,ho⟩:=hsome ts ht;obtain⟨u,h1,_,h3,h4,h5⟩:=a8m ho;rw[hlen] at h3 h4 h5;rw[ho,h5,Nat.add_sub_cancel];exact congrArg some (hc u h1 t ht k (by omega) hk h4)
theorem a2j.sub {ts us:Lq} (h:a2j us) (hs:∀ t∈ts,t∈us) : a2j ts:=fun u hu t ht=>h u (hs u hu) t (hs t ht)
def b0l (I:Nat) (ts:Lq) : Tq:=ts.foldl (fun rows t=>a2i I rows 0 t.1 t.2) [List.replicate I (-1,-1)]
theorem c6d {I:Nat} {O:Int} : ∀ (n:Nat) (ts:Lq),ts.length=n->a2j ts->(∀ t∈ts,Cn I O t=true)->∃ us,Nod (valT ts) ([] :: us)/\b0l I ts=Bu (valT ts) ([] :: us) I
 | 0,ts,hn,_,_=>by
  have e:=g2i.1 hn;subst e;refine⟨[],⟨by simp,fun w=>?_,fun x j o h=>by cases h⟩,?_⟩
  ·rw[En];constructor
   ·grind
   ·rintro (h|⟨o,h,_⟩)
    ·exact h
    ·cases h
  ·show [List.replicate I (-1,-1)]=[Av (valT []) [[]] I []];congr 1;unfold Av;symm;rw[List.eq_replicate_iff];refine⟨by simp,fun b hb=>?_⟩;obtain⟨j,_,rfl⟩:=Ei.1 hb;rfl
 | n+1,ts,hn,hc,hv=>by
  have hne:ts≠[]:=fun e=>by grind
  have e:=g4s hne;generalize ts.getLast hne=t at e;generalize ts.dropLast=us at e;subst e;have hlu:us.length=n:=by grind
  obtain⟨vs,h1,h2⟩:=c6d n us hlu (hc.sub fun t ht=>by grind) fun t ht=>hv t (by grind);have hvt:=hv t (by simp);unfold Cn at hvt;rw[Ds,Ds] at hvt;have hlt:=of_decide_eq_true hvt.1.1;obtain⟨ks,h3,h4⟩:=c6b (O:=O) (I:=I) t.1 t.2 (valT us) ([] :: vs) [] h1 (by simp) hvt.1.2 hvt.2 hlt fun k hk o' ho'=>by
   rw[g4k] at ho';obtain⟨u,g1,_,g3,g4,g5⟩:=a8m ho';have hlen:(t.1.take (k+1)).length=k+1:=by grind
   rw[hlen] at g3 g4 g5;rw[g5,Nat.add_sub_cancel];exact hc u (by grind) t (by simp) k (by omega) hk g4
  grind[f7z,b0l]
end Go.Ai
end
section
namespace Go.Ai
set_option maxRecDepth 10000
variable {ws os:Wq} {V:Wd→Option Int} {O:Int} {I n:Nat} {w:Wd}
def Cx (ws:Wq) : Prop:=∀ (a b:Nat) (ha:a<ws.length) (hb:b<ws.length),a<b->SL ws[a] ws[b]
theorem Cx.nodup (h:Cx ws) : ws.Nodup :=
 List.pairwise_iff_getElem.2 fun i j hi hj hij e=>by
  have h1:=h i j hi hj hij;grind[SL.irrefl]
theorem Cx.snoc (h:Cx ws) {x:Wd} (hx:∀ w∈ws,SL w x) : Cx (ws++[x]):=by
 intro a b ha hb hab;rw[Dr,Em] at ha hb;by_cases hb2:b<ws.length
 ·rw[Ey (by omega),Ey hb2];exact h a b (by omega) hb2 hab
 grind
def chL (V:Wd->Option Int) (w:Wd) : List Nat->Wq
 | []=>[]
 | i :: l=>match V (w++[(i:Int)]) with
  | none=>chL V w l
  | some o=>if o = -1 then chL V w l else (w++[(i:Int)]) :: chL V w l
theorem b6z {V:Wd->Option Int} {w x:Wd} : ∀ {l:List Nat},x∈chL V w l↔∃ i∈l,x=w++[(i:Int)]/\∃ o,V x=some o/\o ≠ -1
 | []=>by simp[chL]
 | i :: l=>by
  have ih:=@b6z V w x l;unfold chL;grind
def numE:Nat->List (Int×Int)->List (Int×Int)
 | _,[]=>[]
 | k,e :: es=>if e.1 = -1 then e :: numE k es else ((k:Int),e.2) :: numE (k+1) es
def oldE:List (Int×Int)->Wd
 | []=>[]
 | e :: es=>if e.1 = -1 then oldE es else e.1 :: oldE es
theorem d6f {V:Wd->Option Int} {ws:Wq} {w:Wd} : ∀ (l:List Nat),oldE (l.map (Ar V ws w))=(chL V w l).map fun x=>((ws.idxOf x:Nat) : Int)
 | []=>rfl
 | i :: l=>by
  have ih:=@d6f V ws w l;rw[g2v];unfold chL
  cases h:V (w++[(i:Int)]) with
  | none =>
   have e1:Ar V ws w i=(-1,-1):=by grind[Ar]
   rw[e1];exact ih
  | some o =>
   dsimp only;by_cases ho:o = -1
   ·have e1:Ar V ws w i=(-1,-2):=by simp_all[Ar]
    rw[if_pos ho,e1];exact ih
   ·have e1:Ar V ws w i=(((ws.idxOf (w++[(i:Int)]) : Nat) : Int),o):=by simp_all[Ar]
    rw[if_neg ho,e1,g2v,<- ih];rfl
theorem c0f {V:Wd→Option Int} {ws:Wq} {w:Wd} : ∀ (l:List Nat) (os:Wq),l.Nodup→(∀ i∈l,w++[(i:Int)] ∉ os)→numE os.length (l.map (Ar V ws w))=l.map (Ar V (os++chL V w l) w)
 | [],_,_,_=>rfl
 | i :: l,os,hn,hos=>by
  have hn':=g6d.1 hn;rw [g2v,g2v];unfold chL
  cases h:V (w++[(i:Int)]) with
  | none =>
   have e1:∀ us,Ar V us w i=(-1,-1):=fun us=>by unfold Ar; rw [h]
   rw [e1,e1];show (-1,-1) :: numE os.length (l.map (Ar V ws w))=_;rw [c0f l os hn'.2 fun j hj=>hos j (by simp [hj])]
  | some o =>
   dsimp only;by_cases ho:o = -1
   ·simp_all [Ar,numE,c0f]
   ·rw [if_neg ho];have e1:∀ us,Ar V us w i=(((us.idxOf (w++[(i:Int)]) : Nat) : Int),o):=fun us=>by simp_all [Ar]
    rw [e1,e1];have e2:(os++(w++[(i:Int)]) :: chL V w l).idxOf (w++[(i:Int)])=os.length:=by
     grind
    rw [e2];have e3:numE os.length ((((ws.idxOf (w++[(i:Int)]) : Nat) : Int),o) :: l.map (Ar V ws w))=((os.length:Int),o) :: numE (os.length+1) (l.map (Ar V ws w)):=by
     rfl
    rw [e3];have ih:=c0f (V:=V) (ws:=ws) (w:=w) l (os++[w++[(i:Int)]]) hn'.2 fun j hj hm=>by
     rcases Eg.1 hm with h1 | h1
     ·grind
     ·have:=(a7c (En.1 h1)).2;have e:j=i:=by omega
      grind
    grind
theorem c0g (hV:∀ x o,V x=some o->o ≠ -1->0<=o/\o<O) : ∀ (l:List Nat) (k:Nat),goE O (numE k (l.map (Ar V ws w))) k=some (k+(chL V w l).length)
 | [],_=>rfl
 | i :: l,k=>by
  rw[g2v];unfold chL
  cases h:V (w++[(i:Int)]) with
  | none =>
   have e1:Ar V ws w i=(-1,-1):=by grind[Ar]
   rw[e1];show goE O ((-1,-1) :: numE k (l.map (Ar V ws w))) k=_;exact c0g hV l k
  | some o =>
   dsimp only;by_cases ho:o = -1
   ·rw[if_pos ho];have e1:Ar V ws w i=(-1,-2):=by simp_all[Ar]
    rw[e1];show goE O ((-1,-2) :: numE k (l.map (Ar V ws w))) k=_;exact c0g hV l k
   ·rw[if_neg ho];have e1:Ar V ws w i=(((ws.idxOf (w++[(i:Int)]) : Nat) : Int),o):=by simp_all[Ar]
    rw[e1];have e3:numE k ((((ws.idxOf (w++[(i:Int)]) : Nat) : Int),o) :: l.map (Ar V ws w))=((k:Int),o) :: numE (k+1) (l.map (Ar V ws w)):=by
     rfl
    rw[e3];have hb:=hV _ _ h ho;have e4:a0d O k ((k:Int),o)=some (k+1):=by
     unfold a0d;grind
    show (match a0d O k ((k:Int),o) with|none=>none|some nx=>goE O (numE (k+1) (l.map (Ar V ws w))) nx)=_;rw[e4];dsimp only;rw[c0g hV l (k+1),Ek];congr 1;omega
theorem d6g {I:Int} {r:List (Int×Int)} : ∀ (l:Tq) (n nx k k' : Nat),goT I O l n nx=some k->(r.length:Int)=I->n+l.length<k->goE O r k=some k'->goT I O (l++[r]) n nx=some k'
 | [],n,nx,k,k',h,h1,h2,h3=>by
  have e:nx=k:=Option.some.inj h;simp_all[goT]
 | a :: l,n,nx,k,k',h,h1,h2,h3=>by
  have h' : (if (a.length:Int)=I/\n<nx then (match goE O a nx with|none=>none|some q=>goT I O l (n+1) q) else none)=some k:=h;show (if (a.length:Int)=I/\n<nx then (match goE O a nx with|none=>none|some q=>goT I O (l++[r]) (n+1) q) else none)=_;split at h'
  ·rename_i hc;rw[if_pos hc]
   cases hq:goE O a nx with
   | none=>rw[hq] at h';cases h'
   | some q =>
    rw[hq] at h';exact d6g l (n+1) q k k' h' h1 (by rw[Ek] at h2;omega) h3
  grind
structure Bfs (V:Wd->Option Int) (ws:Wq) (I:Nat) (O:Int) (n:Nat) (os:Wq) : Prop where
 srt:Cx os
 sub:∀ x∈os,x∈ws
 le:n<=os.length
 hd:os[0]?=some []
 ch:∀ (m:Nat) (h:m<os.length),m<n->∀ x∈chL V os[m] (List.range I),x∈os
 par:∀ x∈os,x=[]\/∃ (m:Nat) (h:m<os.length),m<n/\∃ i:Int,x=os[m]++[i]
 go:goT I O ((os.take n).map (Av V os I)) 0 1=some os.length
theorem Bfs.zero (h:[]∈ws) : Bfs V ws I O 0 [[]] :=
 ⟨fun a b ha hb hab=>by grind,fun x hx=>by grind,by simp,rfl,fun m h hm=>by omega,fun x hx=>.inl (En.1 hx),rfl⟩
theorem c0h {V:Wd→Option Int} {w:Wd} : ∀ (l:List Nat) (os:Wq),Cx os→l.Pairwise (· < ·)→(∀ x∈os,∀ i∈l,SL x (w++[(i:Int)]))→Cx (os++chL V w l)
 | [],os,h,_,_=>by grind [chL]
 | i :: l,os,h,hp,hx=>by
  have hp':=List.pairwise_cons.1 hp;unfold chL
  cases hv:V (w++[(i:Int)]) with
  | none=>exact c0h l os h hp'.2 fun x hx' j hj=>hx x hx' j (by simp [hj])
  | some o =>
   dsimp only;split
   ·exact c0h l os h hp'.2 fun x hx' j hj=>hx x hx' j (by simp [hj])
   ·have h1:=c0h (V:=V) (w:=w) l (os++[w++[(i:Int)]]) (h.snoc fun x hx'=>hx x hx' i (by simp)) hp'.2 fun x hx' j hj=>by
     rcases Eg.1 hx' with h2 | h2
     ·exact hx x h2 j (by simp [hj])
     ·rw [En.1 h2];exact SL.last w (by have:=hp'.1 j hj; omega)
    rwa [Er] at h1
theorem d6h {us:Wq} (h:∀ x∈chL V w (List.range I),x∈os) : Av V (os++us) I w=Av V os I w:=by
 unfold Av;apply g3r;intro i hi;unfold Ar
 cases hv:V (w++[(i:Int)]) with
 | none=>rfl
 | some o =>
  dsimp only;split
  ·rfl
  ·rename_i ho;rw[d5y (h _ (b6z.2 ⟨i,hi,rfl,o,hv,ho⟩))]
theorem Bfs.step (h:Bfs V ws I O n os) (hN:Nod V ws) (hV:∀ x o,V x=some o->o ≠ -1->0<=o/\o<O) (hn:n<os.length) :
  Bfs V ws I O (n+1) (os++chL V os[n] (List.range I))/\numE os.length (Av V ws I os[n])=Av V (os++chL V os[n] (List.range I)) I os[n]:=by
 have hgt:∀ x∈os,∀ i∈List.range I,SL x (os[n]++[(i:Int)]):=fun x hx i _=>by
  rcases h.par x hx with rfl|⟨m,hm,hmn,j,rfl⟩
  ·grind[SL.nil]
  ·exact(h.srt m n hm hn hmn).app j i
 have hnot:∀ i∈List.range I,os[n]++[(i:Int)] ∉ os:=fun i hi hm=>SL.irrefl (hgt _ hm i hi);have hnum:=c0f (V:=V) (ws:=ws) (w:=os[n]) (List.range I) os List.nodup_range hnot;have hnum' : numE os.length (Av V ws I os[n])=Av V (os++chL V os[n] (List.range I)) I os[n]:=hnum;refine⟨⟨c0h _ _ h.srt List.pairwise_lt_range hgt,fun x hx=>?_,?_,?_,fun m hm hmn x hx=>?_,fun x hx=>?_,?_⟩,hnum⟩
 ·rcases Eg.1 hx with h1|h1
  ·exact h.sub x h1
  ·obtain⟨i,_,_,o,h2,h3⟩:=b6z.1 h1;exact(hN.mem x).2 (.inr ⟨o,h2,h3⟩)
 ·grind
 ·rw[Ew (by omega)];exact h.hd
 ·rw[Eg];by_cases hmn2:m<n
  ·rw[Ey (by omega)] at hx;exact .inl (h.ch m (by omega) hmn2 x hx)
  grind
 ·rcases Eg.1 hx with h1|h1
  ·rcases h.par x h1 with h2|⟨m,hm,hmn,j,h2⟩
   ·grind
   ·exact .inr ⟨m,by grind,by omega,j,by grind⟩
  ·obtain⟨i,_,h2,_⟩:=b6z.1 h1;exact .inr ⟨n,by grind,by omega,i,by grind⟩
 ·have e1:(os++chL V os[n] (List.range I)).take (n+1)=os.take n++[os[n]]:=by
   grind[Cr]
  have e2:(os.take n).map (Av V (os++chL V os[n] (List.range I)) I)=(os.take n).map (Av V os I):=by
   apply g3r;intro w hw;obtain⟨m,hm,rfl⟩:=Ez.1 hw;rw[Dw] at hm;rw[g3k];exact d6h fun x hx=>h.ch m (by omega) (by omega) x hx
  rw[e1,g2r,e2,g4q,<- hnum'];refine d6g _ 0 1 os.length _ h.go ?_ ?_ ?_
  ·grind[a5t]
  ·grind
  ·rw[Dr];exact c0g hV _ _
theorem Bfs.rows (h:Bfs V ws I O n os) (us:Wq) : (os.take n).map (Av V (os++us) I)=(os.take n).map (Av V os I):=by
 apply g3r;intro w hw;obtain⟨m,hm,rfl⟩:=Ez.1 hw;rw[Dw] at hm;rw[g3k];exact d6h fun x hx=>h.ch m (by omega) (by omega) x hx
theorem nodup_len:∀ {a b:Wq},a.Nodup->(∀ x∈a,x∈b)->a.length<=b.length
 | [],b,_,_=>Du _
 | x :: a,b,hn,hs=>by
  have hn':=g6d.1 hn;have hx:=hs x (by simp);have h1:=@nodup_len a (b.erase x) hn'.2 fun y hy=>(List.mem_erase_of_ne (fun e=>hn'.1 (by grind))).2 (hs y (by grind));grind
theorem Bfs.len (h:Bfs V ws I O n os) : os.length<=ws.length:=nodup_len h.srt.nodup h.sub
theorem Bfs.done (h:Bfs V ws I O os.length os) (hN:Nod V ws) (hI:∀ (x:Wd) (i o:Int),V (x++[i])=some o->0<=i/\i<(I:Int)) : Nod V os:=by
 have hall:∀ (k:Nat) (x:Wd),x.length=k->x∈ws->x∈os:=by
  intro k
  induction k with
  | zero =>
   intro x hx _;rw[g2i.1 hx];exact g2l h.hd
  | succ k ih =>
   intro x hx hm;have hne:x≠[]:=fun e=>by grind
   have e:=g4s hne;have hd:x.dropLast∈os:=ih x.dropLast (by grind) (hN.up (by rw[e];grind));obtain⟨m,hm2,hm3⟩:=Ez.1 hd;rcases (hN.mem x).1 hm with h1|⟨o,h1,h2⟩
   ·grind
   ·have h3:=hI x.dropLast (x.getLast hne) o (by grind);refine h.ch m hm2 hm2 x (b6z.2 ⟨(x.getLast hne).toNat,?_,?_,o,h1,h2⟩)
    all_goals grind
 refine⟨h.srt.nodup,fun w=>?_,hN.clo⟩;rw[<- hN.mem w];exact⟨h.sub w,hall _ w rfl⟩
theorem srt_eq:∀ {a b:Wq},Cx a->Cx b->(∀ x,x∈a↔x∈b)->a=b
 | [],[],_,_,_=>rfl
 | [],y :: b,_,_,h=>by have:=(h y).2 (by simp);grind
 | x :: a,[],_,_,h=>by have:=(h x).1 (by simp);grind
 | x :: a,y :: b,ha,hb,h=>by
  have hxa:∀ z∈a,SL x z:=fun z hz=>by
   obtain⟨i,hi,rfl⟩:=Ez.1 hz;exact ha 0 (i+1) (by simp) (by grind) (by omega)
  have hyb:∀ z∈b,SL y z:=fun z hz=>by
   obtain⟨i,hi,rfl⟩:=Ez.1 hz;exact hb 0 (i+1) (by simp) (by grind) (by omega)
  have e:x=y:=by
   rcases Dz.1 ((h x).1 (by simp)) with h1|h1
   ·exact h1
   ·rcases Dz.1 ((h y).2 (by simp)) with h2|h2
    ·exact h2.symm
    ·exact absurd ((hyb x h1).trans (hxa y h2)) SL.irrefl
  subst e;have ta:Cx a:=fun i j hi hj hij=>ha (i+1) (j+1) (by simpa using hi) (by simpa using hj) (by omega);have tb:Cx b:=fun i j hi hj hij=>hb (i+1) (j+1) (by simpa using hi) (by simpa using hj) (by omega);rw[srt_eq ta tb fun z=>?_];constructor
  ·intro hz;rcases Dz.1 ((h z).1 (by simp[hz])) with h1|h1
   ·subst h1;exact absurd (hxa z hz) SL.irrefl
   ·exact h1
  ·intro hz;rcases Dz.1 ((h z).2 (by simp[hz])) with h1|h1
   ·subst h1;exact absurd (hyb z hz) SL.irrefl
   ·exact h1
end Go.Ai
end
section
namespace Go.Ai
set_option maxRecDepth 10000
variable {O I:Int} {ts:Lq} {a b:Wd}
theorem lexC_zero:∀ {a b:List Int},a.length=b.length->lexC a b=0->a=b
 | [],[],_,_=>rfl
 | [],_ :: _,h,_=>by grind
 | _ :: _,[],h,_=>by grind
 | x :: a,y :: b,hl,h=>by
  unfold lexC at h;by_cases h1:x<y
  ·grind
  ·rw[if_neg h1] at h;by_cases h2:y<x
   ·grind
   ·rw[if_neg h2] at h;rw[lexC_zero (by simpa using hl) h,show x=y by omega]
theorem lexC_pos:∀ {a b:List Int},a.length=b.length->0<lexC a b->LL b a
 | [],[],_,h=>by grind[lexC]
 | [],_ :: _,h,_=>by grind
 | _ :: _,[],h,_=>by grind
 | x :: a,y :: b,hl,h=>by
  unfold lexC at h;by_cases h1:x<y
  ·grind
  ·rw[if_neg h1] at h;by_cases h2:y<x
   ·exact .inl h2
   ·rw[if_neg h2] at h;exact .inr ⟨by omega,lexC_pos (by grind) h⟩
theorem c0i (h:Bl a b=0) : a=b:=by
 grind[Bl,lexC_zero]
theorem c6e (h:0<Bl a b) : SL b a:=by
 unfold Bl at h;split at h
 ·omega
 ·split at h
  ·rename_i h2;exact .inl h2
  ·exact .inr ⟨by omega,lexC_pos (by omega) h⟩
def Bk (w:Wd) : Wq->Wq
 | []=>[w]
 | x :: l=>if Bl w x<0 then w :: x :: l else if Bl w x=0 then x :: l else x :: Bk w l
theorem b2k {w:Wd} : ∀ {l:Wq} {x:Wd},x∈Bk w l↔x=w\/x∈l
 | [],x=>by simp[Bk]
 | y :: l,x=>by
  have ih:=@b2k w l x;unfold Bk;split
  ·grind
  ·split
   ·rename_i h;rw[c0i h];grind
   grind
theorem c6f {x:Wd} {l:Wq} : Cx (x :: l)↔(∀ y∈l,SL x y)/\Cx l:=by
 constructor
 ·intro h;refine⟨fun y hy=>?_,fun a b ha hb hab=>h (a+1) (b+1) (by grind) (by grind) (by omega)⟩;obtain⟨i,hi,rfl⟩:=Ez.1 hy;exact h 0 (i+1) (by simp) (by grind) (by omega)
 ·rintro⟨h1,h2⟩ a b ha hb hab
  cases b with
  | zero=>omega
  | succ b =>
   cases a with
   | zero=>grind
   | succ a=>exact h2 a b (by grind) (by grind) (by omega)
theorem c6g {w:Wd} : ∀ {l:Wq},Cx l->Cx (Bk w l)
 | [],_=>fun a b ha hb hab=>by grind[Bk]
 | y :: l,h=>by
  obtain⟨h1,h2⟩:=c6f.1 h;unfold Bk;split
  ·rename_i h3;refine c6f.2 ⟨fun z hz=>?_,h⟩;rcases Dz.1 hz with rfl|hz
   ·grind[a4s]
   ·exact(a4s.1 h3).trans (h1 z hz)
  ·split
   ·exact h
   ·refine c6f.2 ⟨fun z hz=>?_,c6g h2⟩;rcases b2k.1 hz with rfl|hz
    all_goals grind[c6e]
def nodW:Wq->Wd->Wd->Wd->Wq
 | out,p,i :: w,o :: r=>if o = -1 then out else nodW (Bk (p++[i]) out) (p++[i]) w r
 | out,_,_,_=>out
theorem nodW_srt:∀ (w r:Wd) (out:Wq) (p:Wd),Cx out->Cx (nodW out p w r)
 | [],_,_,_,h=>h
 | _ :: _,[],_,_,h=>h
 | i :: w,o :: r,out,p,h=>by
  unfold nodW;split
  ·exact h
  ·exact nodW_srt w r _ _ (c6g h)
theorem d6i : ∀ (w r:Wd) (out:Wq) (p x:Wd),r.length=w.length->okR O false r=true->(x∈nodW out p w r↔x∈out\/∃ k,k<w.length/\r.getD k 0 ≠ -1/\x=p++w.take (k+1))
 | [],_,_,_,_,_,_=>⟨fun h=>.inl h,fun h=>h.elim id fun⟨k,h1,_⟩=>by grind⟩
 | _ :: _,[],_,_,_,h,_=>by cases h
 | i :: w,o :: r,out,p,x,hl,hr=>by
  obtain⟨_,_,_,h4⟩:=a8l hr;unfold nodW;by_cases ho:o = -1
  ·rw[if_pos ho];rw[decide_eq_true ho] at h4;constructor
   ·grind
   ·rintro (h|⟨k,h1,h2,_⟩)
    ·exact h
    ·cases k with
     | zero=>grind
     | succ k=>exact absurd (c6a r k h4 (by grind)) h2
  ·rw[if_neg ho,d6i w r _ _ x (by grind) (by rw[decide_eq_false ho] at h4;omega),b2k];constructor
   ·rintro ((h|h)|⟨k,h1,h2,h3⟩)
    ·exact .inr ⟨0,by simp,ho,by grind⟩
    ·grind
    ·exact .inr ⟨k+1,by grind,h2,by grind⟩
   grind[a7d]
def Bv (ts:Lq) : Wq:=ts.foldl (fun out t=>nodW out [] t.1 t.2) [[]]
theorem b4c (hv:∀ t∈ts,Cn I O t=true) : Cx (Bv ts)/\∀ x,x∈Bv ts↔x=[]\/∃ t∈ts,∃ k,k<t.1.length/\t.2.getD k 0 ≠ -1/\x=t.1.take (k+1):=by
 have key:∀ (us:Lq) (out:Wq),(∀ t∈us,Cn I O t=true)->Cx out->Cx (us.foldl (fun out t=>nodW out [] t.1 t.2) out)/\∀ x,x∈us.foldl (fun out t=>nodW out [] t.1 t.2) out↔x∈out\/∃ t∈us,∃ k,k<t.1.length/\t.2.getD k 0 ≠ -1/\x=t.1.take (k+1):=by
  intro us
  induction us with
  | nil=>grind
  | cons t us ih =>
   intro out h1 h2;rw[g5k];have hvt:=h1 t (by simp);unfold Cn at hvt;rw[Ds,Ds] at hvt;obtain⟨h3,h4⟩:=ih (nodW out [] t.1 t.2) (fun u hu=>h1 u (by grind)) (nodW_srt _ _ _ _ h2);refine⟨h3,fun x=>?_⟩;rw[h4 x,d6i t.1 t.2 out [] x (of_decide_eq_true hvt.1.1) hvt.2];constructor
   ·rintro ((h|⟨k,h5,h6,h7⟩)|⟨u,hu,h5⟩)
    all_goals grind
   ·rintro (h|⟨u,hu,k,h5⟩)
    all_goals grind
 obtain⟨h1,h2⟩:=key ts [[]] hv fun a b ha hb hab=>by grind
 refine⟨h1,fun x=>?_⟩;rw[show Bv ts=ts.foldl (fun out t=>nodW out [] t.1 t.2) [[]] from rfl,h2 x,En]
theorem b0m (hv:∀ t∈ts,Cn I O t=true) (hc:a2j ts) (x:Wd) : x∈Bv ts↔x=[]\/∃ o,valT ts x=some o/\o ≠ -1:=by
 rw[(b4c hv).2 x];constructor
 ·rintro (h|⟨t,ht,k,h1,h2,rfl⟩)
  all_goals simp_all[d6e]
 ·rintro (h|⟨o,h1,h2⟩)
  ·grind
  ·obtain⟨u,g1,g2,g3,g4,g5⟩:=a8m h1;grind
def Al (I:Nat) (ts:Lq) : Tq:=Bu (valT ts) (Bv ts) I
theorem c0j {I O:Int} {ts:Lq} (hv:∀ t∈ts,Cn I O t=true) {x:Wd} {i o:Int} (h:valT ts (x++[i])=some o) : (0<=i/\i<I)/\(o ≠ -1->0<=o/\o<O):=by
 obtain⟨u,g1,g2,g3,g4,g5⟩:=a8m h
 have hvt:=hv u g1
 unfold Cn at hvt
 rw[Bool.and_eq_true,Bool.and_eq_true] at hvt
 have hl:=of_decide_eq_true hvt.1.1
 rw[List.length_append,List.length_singleton] at g3 g4 g5
 constructor
 ·have hm:i∈u.1:=by
   grind[List.mem_of_mem_take]
  exact of_decide_eq_true (List.all_eq_true.1 hvt.1.2 i hm)
 ·intro ho
  have h1:=c0d u.2 (x.length+1-1) false hvt.2 (by omega)
  grind
theorem d6j (hv:∀ t∈ts,Cn I O t=true) {x:Wd} {o:Int} (h:valT ts x=some o) : o ≠ -1->0<=o/\o<O:=by
 obtain⟨u,g1,g2,g3,g4,g5⟩:=a8m h;have e:=g4s g2;rw[<- e] at h;exact(c0j hv h).2
theorem d6k {I:Nat} {ws os:Wq} (hv:∀ t∈ts,Cn I O t=true) (hc:a2j ts) (hN:Nod (valT ts) ws) (h:Bfs (valT ts) ws I O os.length os) : os=Bv ts/\Nod (valT ts) os/\goT I O (Al I ts) 0 1=some (Al I ts).length:=by
 have hN2:=h.done hN fun x i o hx=>(c0j hv hx).1;have e:os=Bv ts:=srt_eq h.srt (b4c hv).1 fun x=>(hN2.mem x).trans (b0m hv hc x).symm;refine⟨e,hN2,?_⟩;have h1:=h.go;rw[Ep] at h1;unfold Al;rw[a3q,<- e];exact h1
end Go.Ai
end
section
namespace Go.Ai
open Go.Proofs Go.Proofs.Tryz
set_option maxRecDepth 10000
set_option maxHeartbeats 40000000
theorem mkI81:mkI prog 98=none:=by kernel_rfl
theorem mk81 {H:Mem} {a b:Int} (h0:0<=a) (h1:a<=b) (h2:b<=1048576) : a4d prog H 98 none (some (.li a)) (some (.li b))=.val (.sl H.next 0 a.toNat b.toNat) (H.add (.cells (rep [.li 0,.li 0] b.toNat) true 0)) :=
 b6f (e:=97) (size:=2) (bytes:=16) (z:=[.li 0,.li 0]) (by kernel_rfl) (by decide) (by decide) (by kernel_rfl) h0 h1 h2
attribute [simp] mkI81 mk81
theorem d6l {row:List (Int×Int)} {i:Nat} (hi:i<row.length) (e:Int×Int) : Ay (Aq row) (i*2) [.li e.1,.li e.2]=Aq (row.set i e):=by
 have hl:=rowC_len row;apply g4r;intro j;by_cases hj:j<row.length*2
 ·have hk:j / 2<row.length:=by omega
  have h2:i*2+([.li e.1,.li e.2] : List AV).length<=(Aq row).length:=by rw[hl];simp;omega
  have h3:=b3p (row.set i e) (j / 2) (by rw[Ed];exact hk);have h4:=b3p row (j / 2) hk;by_cases hij:i=j / 2
  ·subst hij;simp only[g5z] at h3;rcases Nat.mod_two_eq_zero_or_one j with hm|hm
   ·have ej:j=j / 2*2:=by omega
    rw[show (Ay (Aq row) (j / 2*2) [.li e.1,.li e.2])[j]?=(Ay (Aq row) (j / 2*2) [.li e.1,.li e.2])[j / 2*2]? from congrArg _ ej,d3t (by simpa using h2),show (Aq (row.set (j / 2) e))[j]?=(Aq (row.set (j / 2) e))[j / 2*2]? from congrArg _ ej,h3.1]
   ·have ej:j=j / 2*2+1:=by omega
    rw[show (Ay (Aq row) (j / 2*2) [.li e.1,.li e.2])[j]?=(Ay (Aq row) (j / 2*2) [.li e.1,.li e.2])[j / 2*2+1]? from congrArg _ ej,d3u (by simpa using h2),show (Aq (row.set (j / 2) e))[j]?=(Aq (row.set (j / 2) e))[j / 2*2+1]? from congrArg _ ej,h3.2]
  ·rw[c4x h2 (by simp;omega)];simp only[g4g hij] at h3;rcases Nat.mod_two_eq_zero_or_one j with hm|hm
   ·have ej:j=j / 2*2:=by omega
    rw[show (Aq row)[j]?=(Aq row)[j / 2*2]? from congrArg _ ej,show (Aq (row.set i e))[j]?=(Aq (row.set i e))[j / 2*2]? from congrArg _ ej,h4.1,h3.1]
   ·have ej:j=j / 2*2+1:=by omega
    rw[show (Aq row)[j]?=(Aq row)[j / 2*2+1]? from congrArg _ ej,show (Aq (row.set i e))[j]?=(Aq (row.set i e))[j / 2*2+1]? from congrArg _ ej,h4.2,h3.2]
 ·rw[g2k (by rw[a5p (by rw[hl];simp;omega),hl];omega),g2k (by rw[rowC_len,Ed];omega)]
theorem c6h (I:Nat) (hI:I<=16) (g:Gb) (n:Nat) :
  WC 0 prog 105 [.li I] ⟨.fn g,n⟩ fun r=>r=.ret (.sl n 0 I I) ⟨.fn (Aj g n (some (.cells (Aq (List.replicate I (-1,-1))) true 0))),n+1⟩:=by
 have hI2:(I:Int)<=1048576:=by omega
 refine ent [] func105 rfl (by decide +kernel) (by kernel_rfl) ?_
 iterate 8 all_goals try first|apply spl<;>intro h|simp (disch:=first|assumption|omega|simp) [*]
 refine LX.ind (fun m gf H'=>∃ (k:Nat) (L:List AV),k<=I/\m=I-k/\H'=⟨.fn (Aj g n (some (.cells L true 0))),n+1⟩/\L.length=I*2/\Aa (L.take (k*2)=Aq (List.replicate k (-1,-1)))/\gf 3=some (.sl n 0 I I)/\gf 8=some (.li I)/\gf 9=some (.li k)) (m0:=I) ?_ ?_
 ·exact⟨0,rep [.li 0,.li 0] I,Du _,rfl,by simp,by rw[b3r];rfl,⟨rfl⟩,by simp[*]⟩
 rintro m gf H' ⟨k,L,hk,rfl,rfl,hLl,HT,w3,w8,w9⟩ ih;refine rnd [] (by decide +kernel) ?_;by_cases hlt:k<I
 ·have hltI:(k:Int)<(I:Int):=by omega
  have hk2:k*2+2<=L.length:=by omega
  have HP:Aa ((Ay L (k*2) [.li (-1),.li (-1)]).length=I*2/\(Ay L (k*2) [.li (-1),.li (-1)]).take ((k+1)*2)=Aq (List.replicate (k+1) (-1,-1))):=⟨by
   have h2:k*2+([.li (-1),.li (-1)] : List AV).length<=L.length:=hk2;refine⟨by rw[a5p h2];exact hLl,?_⟩;rw[List.replicate_succ',c4t,<- HT.out,<- a8e h2,show (k+1)*2=k*2+2 by omega];rfl⟩
  iterate 8 all_goals try first|apply spl<;>intro h|simp (disch:=first|assumption|omega|simp) [*]
  exact ih.out (I-(k+1)) _ _ (by omega) ⟨k+1,Ay L (k*2) [.li (-1),.li (-1)],by omega,rfl,by simp[Ay],HP.out.1,⟨HP.out.2⟩,by simp[*]⟩
 ·have hltI:¬(k:Int)<(I:Int):=by omega
  have hkI:k=I:=by omega
  have HE:Aa (L=Aq (List.replicate I (-1,-1))):=⟨by
   have h:=HT.out;rw[hkI,<- hLl,Ep] at h;exact h⟩
  clear hkI
  iterate 8 all_goals try first|apply spl<;>intro h|simp (disch:=first|assumption|omega|simp) [*]
  rw[HE.out]
end Go.Ai
end
section
namespace Go.Ai
open Go.Proofs Go.Proofs.Tryz
set_option maxRecDepth 10000
set_option maxHeartbeats 40000000
variable {I n T B:Nat} {bs:List Nat} {g g':Gb} {sv:AV}
def Cs (I:Nat) (bs:List Nat) : List AV:=bs.map fun b=>.sl b 0 I I
theorem b4d : (Cs I bs).length=bs.length:=by simp[Cs]
theorem c6i {k:Nat} (h:k<bs.length) : (Cs I bs)[k]'(by rw[b4d];exact h)=.sl bs[k] 0 I I:=by simp[Cs]
structure RowsB (g:Gb) (lo n I:Nat) (rows:Tq) (bs:List Nat) : Prop where
 len:bs.length=rows.length
 nd:bs.Nodup
 at' : ∀ (k:Nat) (h:k<bs.length) (h' : k<rows.length),lo<=bs[k]/\bs[k] < n/\g bs[k]=some (.cells (Aq rows[k]) true 0)/\rows[k].length=I
structure a3a (g:Gb) (lo n T I:Nat) (rows:Tq) (bs:List Nat) (B:Nat) (sv:AV) : Prop where
 rb:RowsB g lo n I rows bs
 pos:0<rows.length
 bl:lo<=B/\B<n
 tl:lo<=T/\T<n
 tb:T≠B
 tn:T ∉ bs
 bn:B ∉ bs
 gt:g T=some (.cells [sv] true 0)
 gb:(rows.length=1/\sv=.sl B 0 1 1/\g B=some (.cells (Cs I bs) true 0))\/(sv=.slq B 0 rows.length 0/\g B=some (.cells (Cs I bs) true 1))
def a5u (I:Nat) (rows:Tq) : Prop:=∀ row∈rows,row.length=I/\∀ e∈row,e.1 = -1\/(0<=e.1/\e.1<rows.length)
theorem a5u.set {rows:Tq} (h:a5u I rows) {a i:Nat} (ha:a<rows.length) {e:Int×Int} (he:e.1 = -1\/(0<=e.1/\e.1<rows.length)) : a5u I (rows.set a ((rows.getD a []).set i e)):=by
 intro row hr;rcases g4f hr with h1|rfl
 ·obtain⟨h2,h3⟩:=h row h1;exact⟨h2,fun e he=>by rw[Ed];exact h3 e he⟩
 ·have hm:=(a4w (d:=[]) ha).1;obtain⟨h2,h3⟩:=h _ hm;refine⟨by rw[Ed];exact h2,fun e' he'=>?_⟩;rw[Ed];rcases g4f he' with h4|rfl
  ·exact h3 e' h4
  ·exact he
theorem a5u.new {rows:Tq} (h:a5u I rows) {a i:Nat} (ha:a<rows.length) {o:Int} : a5u I (rows.set a ((rows.getD a []).set i ((rows.length:Int),o))++[List.replicate I (-1,-1)]):=by
 intro row hr;rw[Dr,Ed,Em];rcases Eg.1 hr with hr|hr
 ·rcases g4f hr with h1|rfl
  ·obtain⟨h2,h3⟩:=h row h1;exact⟨h2,fun e he=>by rcases h3 e he with h4|h4;exact .inl h4;exact .inr ⟨h4.1,by omega⟩⟩
  ·have hm:=(a4w (d:=[]) ha).1;obtain⟨h2,h3⟩:=h _ hm;refine⟨by rw[Ed];exact h2,fun e' he'=>?_⟩;rcases g4f he' with h4|rfl
   ·rcases h3 e' h4 with h5|h5
    ·exact .inl h5
    ·exact .inr ⟨h5.1,by omega⟩
   ·exact .inr ⟨by show (0:Int)<=rows.length;omega,by show (rows.length:Int)<_;omega⟩
 ·rw[En.1 hr];exact⟨by simp,fun e he=>.inl (by rw[(List.mem_replicate.1 he).2])⟩
theorem a3a.keep {lo n':Nat} {rows:Tq} (h:a3a g lo n T I rows bs B sv) (hn:n<=n') (hg:∀ a,lo<=a->a<n->g' a=g a) : a3a g' lo n' T I rows bs B sv :=
 ⟨⟨h.rb.len,h.rb.nd,fun k h1 h2=>let ⟨e1,e2,e3,e4⟩:=h.rb.at' k h1 h2;⟨e1,by omega,(hg _ e1 e2).trans e3,e4⟩⟩,h.pos,⟨h.bl.1,by have:=h.bl.2;omega⟩,⟨h.tl.1,by have:=h.tl.2;omega⟩,h.tb,h.tn,h.bn,(hg _ h.tl.1 h.tl.2).trans h.gt,h.gb.imp (fun⟨e1,e2,e3⟩=>⟨e1,e2,(hg _ h.bl.1 h.bl.2).trans e3⟩) fun⟨e1,e2⟩=>⟨e1,(hg _ h.bl.1 h.bl.2).trans e2⟩⟩
theorem a3a.store {lo:Nat} {rows:Tq} (h:a3a g lo n T I rows bs B sv) {a:Nat} (ha:a<rows.length) (ha' : a<bs.length) {row:List (Int×Int)} (hl:row.length=I) (hb:g' bs[a]=some (.cells (Aq row) true 0)) (hg:∀ b,b≠bs[a]->g' b=g b) : a3a g' lo n T I (rows.set a row) bs B sv:=by
 have hne:∀ x,x ∉ bs->x≠bs[a]:=fun x hx e=>hx (e ▸ Dt ha');refine⟨⟨by rw[Ed];exact h.rb.len,h.rb.nd,fun k h1 h2=>?_⟩,by rw[Ed];exact h.pos,h.bl,h.tl,h.tb,h.tn,h.bn,(hg _ (hne _ h.tn)).trans h.gt,?_⟩
 ·rw[Ed] at h2;obtain⟨e1,e2,e3,e4⟩:=h.rb.at' k h1 h2;by_cases hk:a=k
  ·subst hk;exact⟨e1,e2,by simpa using hb,by simpa using hl⟩
  ·have hbk:bs[k]≠bs[a]:=fun e=>hk ((List.getElem_inj h.rb.nd).1 e).symm;exact⟨e1,e2,by rw[g4g hk];exact(hg _ hbk).trans e3,by rw[g4g hk];exact e4⟩
 ·rw[Ed];exact h.gb.imp (fun⟨e1,e2,e3⟩=>⟨e1,e2,(hg _ (hne _ h.bn)).trans e3⟩) fun⟨e1,e2⟩=>⟨e1,(hg _ (hne _ h.bn)).trans e2⟩
theorem a3a.push {lo n':Nat} {rows:Tq} {B' b:Nat} (h:a3a g lo n T I rows bs B sv) {row:List (Int×Int)} (hl:row.length=I) (hb:n<=b) (hb' : b<n') (hB:n<=B') (hB' : B' < n') (hne:b≠B') (h1:g' b=some (.cells (Aq row) true 0)) (h2:g' B'=some (.cells (Cs I (bs++[b])) true 1)) (h3:g' T=some (.cells [.slq B' 0 (rows.length+1) 0] true 0)) (hg:∀ x∈bs,g' x=g x) : a3a g' lo n' T I (rows++[row]) (bs++[b]) B' (.slq B' 0 (rows.length+1) 0):=by
 have hlt:∀ x∈bs,lo<=x/\x<n:=fun x hx=>by
  obtain⟨k,hk,rfl⟩:=Ez.1 hx;obtain⟨e1,e2,_⟩:=h.rb.at' k hk (by have:=h.rb.len;omega);exact⟨e1,e2⟩
 have htl:=h.tl;have hbl:=h.bl;refine⟨⟨by rw[Dr,Dr,h.rb.len];rfl,?_,fun k k1 k2=>?_⟩,by simp,⟨by omega,hB'⟩,⟨htl.1,by omega⟩,by omega,?_,?_,h3,.inr ⟨by rw[Dr];rfl,h2⟩⟩
 ·rw[List.nodup_append];refine⟨h.rb.nd,by simp,fun x hx y hy e=>?_⟩;rw[En] at hy;have:=hlt x hx;omega
 ·rw[Dr,Em] at k1;by_cases hk:k<bs.length
  ·have hk2:k<rows.length:=by have:=h.rb.len;omega
   obtain⟨e1,e2,e3,e4⟩:=h.rb.at' k hk hk2;rw[Ey hk,Ey hk2];exact⟨e1,by omega,(hg _ (Dt hk)).trans e3,e4⟩
  ·have e:k=bs.length:=by omega
   have e2:k=rows.length:=by have:=h.rb.len;omega
   rw[g3l (by omega),g3l (by omega)];simp;exact⟨by omega,hb',h1,hl⟩
 ·rw[Eg,En];rintro (hx|hx)
  ·exact h.tn hx
  ·omega
 ·rw[Eg,En];rintro (hx|hx)
  ·have:=hlt _ hx;omega
  ·exact hne hx.symm
theorem f8a {rows:Tq} {at' k:Nat} {w r:Wd} (hk:k<w.length) (hk2:k<r.length) : a2i I rows at' (w.drop k) (r.drop k)=if r[k] = -1 then rows.set at' ((rows.getD at' []).set (w[k]).toNat (-1,-2))
  else if ((rows.getD at' []).getD (w[k]).toNat (-1,-1)).1 = -1 then a2i I (rows.set at' ((rows.getD at' []).set (w[k]).toNat ((rows.length:Int),r[k]))++[List.replicate I (-1,-1)]) rows.length (w.drop (k+1)) (r.drop (k+1))
  else a2i I rows ((rows.getD at' []).getD (w[k]).toNat (-1,-1)).1.toNat (w.drop (k+1)) (r.drop (k+1)):=by
 rw[Ef hk,Ef hk2];rfl
theorem f8b (hI:I<=16) {Oo:Int} {w r:Wd} (hl:r.length=w.length) (hw:inW w I=true) (hwl:w.length<=256) (lo n T Lg:Nat) (g:Gb) {rows:Tq} {bs:List Nat} {B:Nat} {sv lv s1 s2:AV}
  (hT:a3a g lo n T I rows bs B sv) (hok:a5u I rows) (hrl:rows.length+w.length<=100000) (hLg:Lg<lo) (hgL:g Lg=some (.cells [.li I,.li Oo,lv] true 0)) (hlo:lo<=n) (h1:Ak g lo w s1) (h2:Ak g lo r s2) :
  WC 0 prog 106 [.agg [s1,s2],.ptr T 0,.ptr Lg 0] ⟨.fn g,n⟩ fun q=>∃ g' n' bs' B' sv',q=.ret (.tup []) ⟨.fn g',n'⟩/\n<=n'/\(∀ b,b<lo->g' b=g b)/\a3a g' lo n' T I (a2i I rows 0 w r) bs' B' sv'/\a5u I (a2i I rows 0 w r)/\(a2i I rows 0 w r).length<=rows.length+w.length:=by
 have hlen1:=@Am prog _ _ _ _ _ h1;have e1:oneC s1=true:=h1.one;have e2:oneC s2=true:=h2.one;have hone:allOne [s1,s2]=true:=by simp[e1,e2]
 have H1:=Aa.mk h1;have H2:=Aa.mk h2;have HT:=Aa.mk hT;have HOK:=Aa.mk hok;have HW:=Aa.mk hw;have htl:=hT.tl;clear h1 h2 hT hok hw;obtain⟨RES,hRES⟩ : ∃ x,x=a2i I rows 0 w r:=⟨_,rfl⟩;rw[<- hRES];have HRES:=Aa.mk hRES;clear hRES;refine ent pl106 func106 rfl (by decide +kernel) (by kernel_rfl) ?_
 iterate 8 all_goals try first|apply spl<;>intro h|simp (disch:=first|assumption|omega|simp) [*]
 refine LX.ind (fun m gf H'=>∃ (k n' : Nat) (gL:Gb) (rk:Tq) (at' : Nat) (bk:List Nat) (B:Nat) (sv:AV),k<=w.length/\m=w.length-k/\H'=⟨.fn gL,n'⟩/\n+1<=n'/\Aa (∀ b,b<lo->gL b=g b)/\gL n=some (.cells [s1,s2] true 0)/\Aa (a3a gL lo n' T I rk bk B sv)/\Aa (n ∉ bk/\n≠B) /\
  Aa (a5u I rk)/\at' < rk.length/\rk.length<=rows.length+k/\Aa (RES=a2i I rk at' (w.drop k) (r.drop k))/\gf 1=some (.ptr T 0)/\gf 2=some (.ptr Lg 0)/\gf 3=some (.ptr n 0)/\gf 4=some (.li at')/\gf 9=some s1/\gf 10=some (.li w.length)/\gf 11=some (.li k)) (m0:=w.length) ?_ ?_
 ·refine⟨0,n+1,_,rows,0,bs,B,sv,Du _,rfl,rfl,Dp _,⟨fun b hb=>Ab (by omega)⟩,Af,⟨HT.out.keep (by omega) fun a h1 h2=>Ab h2⟩,⟨fun hm=>?_,by have:=HT.out.bl.2;omega⟩,HOK,HT.out.pos,by omega,HRES,by simp[*]⟩;obtain⟨j,hj,e⟩:=Ez.1 hm;have:=(HT.out.rb.at' j hj (by have:=HT.out.rb.len;omega)).2.1;omega
 clear HT HOK HRES B sv bs;rintro m gf H' ⟨k,n',gL,rk,at',bk,B,sv,hk,rfl,rfl,hn',HG,hgn,HT,HNB,HOK,hat,hrk,HRES,q1,q2,q3,q4,q9,q10,q11⟩ ih;refine rnd pl106 (by decide +kernel) ?_;by_cases hlt:k<w.length
 ·have hltI:(k:Int)<(w.length:Int):=by omega
  obtain⟨a1,o1,ha1,hia1,hc1⟩:=Ak.at (n:=lo) (Ag.mono (Dp lo) HG.out H1.out) hlt;obtain⟨a2,o2,ha2,hia2,hc2⟩:=Ak.at (n:=lo) (Ag.mono (Dp lo) HG.out H2.out) (by omega:k<r.length);have HST:=Aa.mk (HRES.out.trans (f8a hlt (by omega:k<r.length)));have hi0:=of_decide_eq_true (Eb.1 HW.out _ (Dt hlt));generalize w[k]=x at *;generalize r[k]=o at *;obtain⟨i,rfl⟩ : ∃ i:Nat,x=i:=⟨x.toNat,by omega⟩;have hiI:i<I:=by omega
  rw[g2t] at HST;have hbl:=HT.out.rb.len;have hab:at' < bk.length:=by omega
  obtain⟨l1,l2,l3,l4⟩:=HT.out.rb.at' at' hab hat;have HGD:Aa (rk.getD at' []=rk[at']):=⟨(a4w (d:=[]) hat).2⟩;rw[HGD.out] at HST;have hmr:=(HOK.out _ (Dt hat)).2;have hrs:=c6i (I:=I) hab;have HBB:Aa (bk[at']∈bk):=⟨Dt hab⟩;have HSTO:=Aa.mk fun (g' : Gb) (n2:Nat) (row:List (Int×Int)) (h1:n'<=n2) (h2:row.length=I) (h3:g' bk[at']=some (.cells (Aq row) true 0)) (h4:∀ b,b≠bk[at']->b<n'->g' b=gL b)=>show a3a g' lo n2 T I (rk.set at' row) bk B sv from
   ((HT.out.store (g':=fun z=>if z=bk[at'] then g' z else gL z) hat hab h2 ((if_pos rfl).trans h3) fun b hb=>if_neg hb).keep h1 fun a k1 k2=>by
    by_cases ha:a=bk[at']
    ·rw[if_pos ha]
    ·rw[if_neg ha];exact h4 a ha k2)
  generalize rk[at']=row at *;generalize bk[at']=b at *;have hil:i<row.length:=by omega
  have hre:(Aq row)[i*2]'(by rw[rowC_len];omega)=.lit (.int .i64 row[i].1):=(Ea.1 (b3p row i hil).1).2;have hrcl:(Aq row).length=I*2:=by rw[rowC_len,l4]
  have hei:=hmr _ (Dt hil);have HENT:Aa (row.getD i (-1,-1)=row[i]):=⟨(a4w (d:=(-1,-1)) hil).2⟩;rw[HENT.out] at HST;generalize row[i]=e at *;have hbT:b≠T:=fun h=>HT.out.tn (h ▸ HBB.out);have hbB:b≠B:=fun h=>HT.out.bn (h ▸ HBB.out);have hbn:b≠n:=fun h=>HNB.out.1 (h ▸ HBB.out);have hgT:=HT.out.gt;have hTB:=HT.out.tb;have hTlt:=HT.out.tl;have hBlt:=HT.out.bl;have hnB:=HNB.out.2;have hTn:T≠n:=by omega
  have hput:∀ p q:Int,List.take (i*2) (Aq row)++.li p :: .li q :: List.drop (i*2+2) (Aq row)=Aq (row.set i (p,q)):=fun p q=>by
   have:=d6l hil (p,q);unfold Ay at this;simpa using this
  have hi2:i*2+2<=(Aq row).length:=by omega
  have hi3:i*2<(Aq row).length:=by omega
  have hrsl:at' < (Cs I bk).length:=by rw[b4d];exact hab
  by_cases ho:o = -1
  ·rw[if_pos ho] at HST;subst ho;rcases HT.out.gb with⟨g1,g2,g3⟩|⟨g2,g3⟩
   ·subst g2;obtain rfl:at'=0:=by omega
    clear hmr
    iterate 8 all_goals try first|apply spl<;>intro h|simp (disch:=first|assumption|omega|simp) [*]
    refine⟨_,_,⟨rfl,rfl⟩,by omega,fun c hc=>?_,⟨_,_,_,HST.out ▸ HSTO.out _ _ _ (Dp _) (by rw[Ed];exact l4) Af fun c hc _=>Ae hc⟩,?_,?_⟩
    ·rw[Ab (by omega)];exact HG.out c hc
    ·rw[HST.out,<- HGD.out];exact HOK.out.set hat (.inl rfl)
    ·rw[HST.out,Ed];omega
   ·subst g2;clear hmr
    iterate 8 all_goals try first|apply spl<;>intro h|simp (disch:=first|assumption|omega|simp) [*]
    refine⟨_,_,⟨rfl,rfl⟩,by omega,fun c hc=>?_,⟨_,_,_,HST.out ▸ HSTO.out _ _ _ (Dp _) (by rw[Ed];exact l4) Af fun c hc _=>Ae hc⟩,?_,?_⟩
    ·rw[Ab (by omega)];exact HG.out c hc
    ·rw[HST.out,<- HGD.out];exact HOK.out.set hat (.inl rfl)
    ·rw[HST.out,Ed];omega
  ·rw[if_neg ho] at HST;have hgLL:gL Lg=some (.cells [.li I,.li Oo,lv] true 0):=(HG.out Lg hLg).trans hgL;have hre2:∀ (p q:Int),(Aq (row.set i (p,q)))[i*2]?=some (.li p):=fun p q=>by
    have h1:=(b3p (row.set i (p,q)) i (by rw[Ed];exact hil)).1;rw[g5z] at h1;exact h1
   have hrl3:∀ p q:Int,(Aq (row.set i (p,q))).length=I*2:=fun p q=>by rw[rowC_len,Ed,l4]
   have hrs2:∀ (X:AV),(Cs I bk++[X])[at']?=some (.sl b 0 I I):=fun X=>by rw[Ew hrsl,Dv hrsl,hrs]
   have hx1:∀ (G:Gb) (x:Option Blk),Aj G b x T=G T:=fun G x=>Ae (Ne.symm hbT);have hx2:∀ (G:Gb) (x:Option Blk),Aj G b x B=G B:=fun G x=>Ae (Ne.symm hbB);have hx3:∀ (G:Gb) (x:Option Blk),Aj G b x n=G n:=fun G x=>Ae (Ne.symm hbn);have hx4:∀ (G:Gb) (x:Option Blk),Aj G B x b=G b:=fun G x=>Ae hbB;have hx5:∀ (G:Gb) (x:Option Blk),Aj G T x b=G b:=fun G x=>Ae hbT;have hx6:∀ (G:Gb) (x:Option Blk),Aj G T x B=G B:=fun G x=>Ae (Ne.symm hTB);have hx7:∀ (G:Gb) (x:Option Blk),Aj G B x T=G T:=fun G x=>Ae hTB;have hx8:∀ (G:Gb) (x:Option Blk),Aj G B x n=G n:=fun G x=>Ae hnB;have hx9:∀ (G:Gb) (x:Option Blk),Aj G T x n=G n:=fun G x=>Ae (Ne.symm hTn);have hrsL:(Cs I bk).length=rk.length:=by rw[b4d];exact hbl
   have hrk2:rk.length<=1000000:=by omega
   have HOKN:Aa (a5u I (rk.set at' (row.set i ((rk.length:Int),o))++[List.replicate I (-1,-1)])):=⟨by rw[<- HGD.out];exact HOK.out.new hat⟩;have HPU:=Aa.mk fun (gF:Gb) (h1:gF n'=some (.cells (Aq (List.replicate I (-1,-1))) true 0)) (h2:gF (n'+1+1)=some (.cells (Cs I bk++[.sl n' 0 I I]) true 1)) (h3:gF T=some (.cells [.slq (n'+1+1) 0 (rk.length+1) 0] true 0)) (h4:gF b=some (.cells (Aq (row.set i ((rk.length:Int),o))) true 0)) (h5:∀ c,c≠b->c≠T->c≠B->c<n'->gF c=gL c)=>show a3a gF lo (n'+1+1+1) T I (rk.set at' (row.set i ((rk.length:Int),o))++[List.replicate I (-1,-1)]) (bk++[n']) (n'+1+1) (.slq (n'+1+1) 0 (rk.length+1) 0) from by
    have hS:=HSTO.out (Aj gL b (some (.cells (Aq (row.set i ((rk.length:Int),o))) true 0))) n' (row.set i ((rk.length:Int),o)) (Dp _) (by rw[Ed];exact l4) Af fun c hc _=>Ae hc;have hP:=hS.push (g':=gF) (n':=n'+1+1+1) (b:=n') (B':=n'+1+1) (row:=List.replicate I (-1,-1)) (by simp) (Dp _) (by omega) (by omega) (by omega) (by omega) h1 (by rw[h2];simp[Cs]) (by rw[h3,Ed]) fun x hx=>by
     by_cases hxb:x=b
     ·subst hxb;rw[h4,Af]
     ·rw[Ae hxb];obtain⟨j,hj,e⟩:=Ez.1 hx;have:=(HT.out.rb.at' j hj (by have:=HT.out.rb.len;omega)).2.1;exact h5 x hxb (fun h=>HT.out.tn (h ▸ hx)) (fun h=>HT.out.bn (h ▸ hx)) (by omega)
    rw[Ed] at hP;exact hP
   by_cases he:e.1 = -1
   ·rw[if_pos he] at HST;rcases HT.out.gb with⟨g1,g2,g3⟩|⟨g2,g3⟩
    ·subst g2;have hrsL1:(Cs I bk).length=1:=by rw[hrsL];exact g1
     have htk1:List.take 1 (Cs I bk)=Cs I bk:=Eo (by omega);have hatI:(at' : Int)<1:=by omega
     have hat1:at' < 1:=by omega
     have g1I:((rk.length:Nat) : Int)=1:=by omega
     have HZ:=Aa.mk g1;rw[g1] at HST HPU HOKN;clear hmr hei hrsL
     iterate 8 all_goals try first|apply spl<;>intro h|simp (disch:=first|assumption|omega|simp) [*]
     refine WC.mono (c6h I hI _ _) ?_;rintro _ rfl
     iterate 8 all_goals try first|apply spl<;>intro h|simp (disch:=first|assumption|omega|simp) [*]
     refine ih.out (w.length-(k+1)) _ _ (by omega) ⟨k+1,n'+1+1+1,_,_,1,bk++[n'],n'+1+1,.slq (n'+1+1) 0 (1+1) 0,by omega,rfl,rfl,by omega,⟨fun c hc=>?_⟩,?_,⟨HPU.out _ ?_ ?_ ?_ ?_ ?_⟩,⟨fun hm=>?_,by omega⟩,HOKN,by rw[Dr,Ed,HZ.out];simp,by rw[Dr,Ed,HZ.out];simp;omega,HST,by simp[*]⟩
     ·simp (disch:=omega) only[Ab,Ae];exact HG.out c hc
     ·simp (disch:=omega) only[Ab,Ae];exact hgn
     ·simp (disch:=omega) only[Ab,Ae,Af]
     ·simp (disch:=omega) only[Ae,Af]
     ·simp (disch:=omega) only[Af]
     ·simp (disch:=omega) only[Ae,hx4,hx5,Af];rfl
     ·intro c c1 c2 c3 c4;simp (disch:=omega) only[Ae]
     ·rcases Eg.1 hm with h|h
      ·exact HNB.out.1 h
      ·have:=En.1 h;omega
    ·subst g2;clear hmr hei
     iterate 8 all_goals try first|apply spl<;>intro h|simp (disch:=first|assumption|omega|simp) [*]
     refine WC.mono (c6h I hI _ _) ?_;rintro _ rfl
     iterate 8 all_goals try first|apply spl<;>intro h|simp (disch:=first|assumption|omega|simp) [*]
     refine ih.out (w.length-(k+1)) _ _ (by omega) ⟨k+1,n'+1+1+1,_,_,rk.length,bk++[n'],n'+1+1,.slq (n'+1+1) 0 (rk.length+1) 0,by omega,rfl,rfl,by omega,⟨fun c hc=>?_⟩,?_,⟨HPU.out _ ?_ ?_ ?_ ?_ ?_⟩,⟨fun hm=>?_,by omega⟩,HOKN,by rw[Dr,Ed];simp,by rw[Dr,Ed];simp;omega,HST,by simp[*]⟩
     ·simp (disch:=omega) only[Ab,Ae];exact HG.out c hc
     ·simp (disch:=omega) only[Ab,Ae];exact hgn
     ·simp (disch:=omega) only[Ab,Ae,Af]
     ·simp (disch:=omega) only[Ae,Af]
     ·simp (disch:=omega) only[Af]
     ·simp (disch:=omega) only[Ae,hx4,hx5,Af]
     ·intro c c1 c2 c3 c4;simp (disch:=omega) only[Ae]
     ·rcases Eg.1 hm with h|h
      ·exact HNB.out.1 h
      ·have:=En.1 h;omega
   ·rw[if_neg he] at HST;obtain⟨e0,e1⟩ : 0<=e.1/\e.1<rk.length:=by rcases hei with h|h;exact absurd h he;exact h
    obtain⟨t,ht⟩ : ∃ t:Nat,e.1=(t:Int):=⟨e.1.toNat,by omega⟩;rw[ht] at hre he e1 HST;rw[g2t] at HST;have htl:t<rk.length:=by omega
    rcases HT.out.gb with⟨g1,g2,g3⟩|⟨g2,g3⟩
    ·subst g2;obtain rfl:at'=0:=by omega
     clear hmr hei HPU HOKN ht
     iterate 8 all_goals try first|apply spl<;>intro h|simp (disch:=first|assumption|omega|simp) [*]
     exact ih.out (w.length-(k+1)) _ _ (by omega) ⟨k+1,n',gL,rk,t,bk,B,_,by omega,rfl,rfl,by omega,HG,hgn,HT,HNB,HOK,htl,by omega,HST,by simp[*]⟩
    ·subst g2;clear hmr hei HPU HOKN ht
     iterate 8 all_goals try first|apply spl<;>intro h|simp (disch:=first|assumption|omega|simp) [*]
     exact ih.out (w.length-(k+1)) _ _ (by omega) ⟨k+1,n',gL,rk,t,bk,B,_,by omega,rfl,rfl,by omega,HG,hgn,HT,HNB,HOK,htl,by omega,HST,by simp[*]⟩
 ·have hltI:¬(k:Int)<(w.length:Int):=by omega
  have hRE:RES=rk:=by
   rw[HRES.out,Ex (by omega)];cases r.drop k<;>rfl
  iterate 8 all_goals try first|apply spl<;>intro h|simp (disch:=first|assumption|omega|simp) [*]
  refine⟨_,_,⟨rfl,rfl⟩,by omega,HG.out,⟨_,_,_,HT.out⟩,HOK.out,by omega⟩
end Go.Ai
end
section
namespace Go.Ai
open Go.Proofs Go.Proofs.Tryz
set_option maxRecDepth 10000
set_option maxHeartbeats 40000000
theorem sl81:a6y prog 98=true:=by kernel_rfl
attribute [simp] sl81
theorem f8c {row:List (Int×Int)} (h0:0<row.length) (hl:row.length<=1000) (g:Gb) (n b:Nat) (hb:b<n) (hg:g b=some (.cells (Aq row) true 0)) :
  WC 0 prog 122 [.sl b 0 row.length row.length] ⟨.fn g,n⟩ fun r=>∃ g',r=.ret (.slq (n+1) 0 row.length 0) ⟨.fn g',n+1+1⟩/\(∀ x,x<n->g' x=g x)/\g' (n+1)=some (.cells (Aq row) true 2):=by
 have hv:Ag g n (.sl b 0 row.length row.length) row.length (Aq row):=a2v hg hb;obtain⟨a2,blk,ha2,hga2,hap⟩:=Ag.ap0 (P:=prog) (sz:=2) hv h0 (by omega) (by rw[rowC_len]);clear hv;refine ent [] func122 rfl (by decide +kernel) (by kernel_rfl) ?_
 iterate 8 all_goals try first|apply spl<;>intro h|simp (disch:=first|assumption|omega|simp) [*]
 intro x hx;simp (disch:=omega) only[Ab]
theorem d6m {len a:Nat} (h0:0<len) (H:Mem) : WC 0 prog 121 [.slq a 0 len 0] H fun r=>r=.ret (.sl a 0 len len) H:=by
 refine WC.ofFn ?_;refine ent [] func121 rfl (by decide +kernel) (by kernel_rfl) ?_
 iterate 8 all_goals try first|apply spl<;>intro h|simp (disch:=first|assumption|omega|simp) [*]
theorem mkI36:mkI prog 23=some (.nl):=by kernel_rfl
theorem mk36 {H:Mem} {a b:Int} (h0:0<=a) (h1:a<=b) (h2:b<=1048576) : a4d prog H 23 (some (.nl)) (some (.li a)) (some (.li b))=.val (.sl H.next 0 a.toNat b.toNat) (H.add (.cells (rep [.nl] b.toNat) true 0)):=by
 have hx:a1v prog H 23 (some (.li a)) (some (.li b))=_:=b6f (e:=98) (size:=1) (bytes:=24) (z:=[.nl]) (by kernel_rfl) (by decide) (by decide) (by kernel_rfl) h0 h1 h2;unfold a4d;dsimp only;split
 ·rename_i h;obtain⟨rfl,h3,h4⟩:=h;rw[b9m]
 ·exact hx
attribute [simp] mkI36 mk36
theorem c6j {e:Int×Int} : ∀ (l:List (Int×Int)) (k:Nat),numE k (l++[e])=numE k l++[if e.1 = -1 then e else (((k+(oldE l).length:Nat) : Int),e.2)]
 | [],k=>by
  show numE k [e]=_;unfold numE oldE;split
  ·rfl
  ·rfl
 | a :: l,k=>by
  rw[g4x];unfold numE oldE;split
  ·rw[c6j l k];rfl
  ·rw[c6j l (k+1),Ek,show k+1+(oldE l).length=k+((oldE l).length+1) by omega];rfl
theorem c6k {e:Int×Int} : ∀ (l:List (Int×Int)),oldE (l++[e])=oldE l++(if e.1 = -1 then [] else [e.1])
 | []=>by
  show oldE [e]=_;unfold oldE;split<;>rfl
 | a :: l=>by
  rw[g4x];unfold oldE;split
  ·exact c6k l
  ·rw[c6k l];rfl
theorem numE_len:∀ (l:List (Int×Int)) (k:Nat),(numE k l).length=l.length
 | [],_=>rfl
 | a :: l,k=>by
  unfold numE;split
  ·rw[Ek,Ek,numE_len l k]
  ·rw[Ek,Ek,numE_len l (k+1)]
def a1t (k:Nat) (row:List (Int×Int)) (i:Nat) : List (Int×Int):=numE k (row.take i)++row.drop i
theorem d6n {k:Nat} {row:List (Int×Int)} {i:Nat} : (a1t k row i).length=row.length:=by
 unfold a1t;rw[Dr,numE_len,Dw,g5h];omega
theorem f8d {k:Nat} {row:List (Int×Int)} {i:Nat} (h:i<row.length) : (a1t k row i)[i]'(by rw[d6n];exact h)=row[i]:=by
 unfold a1t;have hl:(numE k (row.take i)).length=i:=by rw[numE_len,Dw];omega
 rw[g3l (by omega)];simp[hl]
theorem f8e {k:Nat} {row:List (Int×Int)} {i:Nat} (h:i<row.length) : a1t k row (i+1)=if row[i].1 = -1 then a1t k row i else (a1t k row i).set i (((k+(oldE (row.take i)).length:Nat) : Int),row[i].2):=by
 unfold a1t;have hl:(numE k (row.take i)).length=i:=by rw[numE_len,Dw];omega
 have hd:row.drop i=row[i] :: row.drop (i+1):=Ef h;rw[Cr h,c6j,Er];split
 ·rw[hd];rfl
 ·rw[g4p _ _ (by omega),hl,g2o,hd];rfl
theorem f8f {l:List AV} {off:Nat} {u v:AV} (h:l[off+1]?=some v) : Ay l off [u,v]=l.set off u:=by
 obtain⟨h1,h2⟩:=Ea.1 h;unfold Ay;rw[List.set_eq_take_append_cons_drop,if_pos (by omega),Er];congr 1;show u :: v :: l.drop (off+2)=_;rw[Ef h1,h2]
theorem f8g {row:List (Int×Int)} {i:Nat} (hi:i<row.length) (p:Int) : (Aq row).set (i*2) (.li p)=Aq (row.set i (p,row[i].2)):=by
 rw[<- d6l hi (p,row[i].2)];exact(f8f (b3p row i hi).2).symm
theorem oldE_take:∀ (row:List (Int×Int)) (i:Nat),(oldE (row.take i)).length<=(oldE row).length
 | [],i=>by rw[List.take_nil];exact Dp _
 | e :: row,0=>Du _
 | e :: row,i+1=>by
  rw[g3q];unfold oldE;have:=oldE_take row i;split
  ·exact this
  ·rw[Ek,Ek];omega
end Go.Ai
end

