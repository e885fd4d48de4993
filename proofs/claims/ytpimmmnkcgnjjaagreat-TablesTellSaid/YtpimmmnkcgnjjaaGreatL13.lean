/- A small verified interpreter over names, its proofs, and what was proved with it. No condition. -/
import Derived.Test.YtpimmmnkcgnjjaaGreatL12
import Derived.Test.YtpimmmnkcgnjjaaGreatL09
import Derived.Test.YtpimmmnkcgnjjaaGreatL10
import Derived.Test.YtpimmmnkcgnjjaaGreatL06
import Derived.Test.YtpimmmnkcgnjjaaGreatL08
set_option linter.all false
set_option linter.deprecated false
section
namespace Go.Ai
open Go.Proofs Go.Proofs.Tryz
set_option maxRecDepth 10000
set_option maxHeartbeats 40000000
def a1i (len:Nat) (rv:AV) : Prop:=(len=0/\rv=.nl)\/∃ a o,rv=.sl a o len len
theorem d7e (w:Wd) (g:Gb) (lo n:Nat) (sv:AV) (hv:b2g g lo n w sv) :
  WC 0 prog 93 [sv] ⟨.fn g,n⟩ fun r=>∃ sv',r=.ret sv' ⟨.fn g,n⟩/\a1g g lo n w sv'/\a1i w.length sv':=by
 rcases hv with⟨rfl,rfl|⟨m,h1,h2,rfl,h3⟩⟩|⟨hl,m,h1,h2,rfl,h3⟩
 ·have HF:Aa (a1g g lo n [] (.nl)/\a1i ([] : Wd).length (.nl)):=⟨⟨fun _=>none,fun a z h=>(by cases h),.inl ⟨rfl,rfl,.inl rfl⟩⟩,.inl ⟨rfl,rfl⟩⟩;refine ent [] func93 rfl (by decide +kernel) (by kernel_rfl) ?_
  iterate 8 all_goals try first|apply spl<;>intro h|simp (disch:=first|assumption|omega|simp) [*]
  exact HF.out
 ·have HF:Aa (a1g g lo n [] (.sl m 0 0 0)/\a1i ([] : Wd).length (.sl m 0 0 0)):=⟨⟨fun a=>if a=m then g a else none,⟨fun a z hz=>(by
   have hz' : (if a=m then g a else none)=some z:=hz;split at hz'
   ·rename_i h4;subst h4;exact⟨hz',h1,h2⟩
   ·cases hz'),.inr ⟨m,0,h2,.inl ⟨0,rfl⟩,[],true,0,(if_pos rfl).trans h3,by simp[wdC],by simp[wdC]⟩⟩⟩,.inr ⟨_,_,rfl⟩⟩
  refine ent [] func93 rfl (by decide +kernel) (by kernel_rfl) ?_
  iterate 8 all_goals try first|apply spl<;>intro h|simp (disch:=first|assumption|omega|simp) [*]
  exact HF.out
 ·have HF:Aa (a1g g lo n w (.sl m 0 w.length w.length)/\a1i w.length (.sl m 0 w.length w.length)):=⟨⟨fun a=>if a=m then g a else none,⟨fun a z hz=>(by
   have hz' : (if a=m then g a else none)=some z:=hz;split at hz'
   ·rename_i h4;subst h4;exact⟨hz',h1,h2⟩
   ·cases hz'),.inr ⟨m,0,h2,.inl ⟨_,rfl⟩,wdC w,true,1,(if_pos rfl).trans h3,by simp[*]⟩⟩⟩,.inr ⟨_,_,rfl⟩⟩
  clear h3;have hl2:¬w=[]:=fun h=>by rw[h] at hl;cases hl
  refine ent [] func93 rfl (by decide +kernel) (by kernel_rfl) ?_
  iterate 8 all_goals try first|apply spl<;>intro h|simp (disch:=first|assumption|omega|simp) [*]
  exact HF.out
def RowK (g:Gb) (lo n:Nat) : Option (Wd)->AV->Prop
 | none,rv=>rv=.nl
 | some r,rv=>a1g g lo n r rv/\a1i r.length rv
def d7f (g:Gb) (lo n A c:Nat) (r:Wd) (rv:AV) : Prop :=
 (∃ Lo,rv=.sl A 0 r.length c/\lo<=A/\A<n/\g A=some (.cells Lo true 0)/\Lo.length=c/\Lo.take r.length=wdC r/\r.length<=c)\/(0<r.length/\∃ B,rv=.slq B 0 r.length 0/\lo<=B/\B<n/\g B=some (.cells (wdC r) true 1))
theorem d7f.rep {g:Gb} {lo n A c:Nat} {r:Wd} {rv:AV} (h:d7f g lo n A c r rv) : Ak g n r rv:=by
 rcases h with⟨Lo,rfl,h1,h2,h3,h4,h5,h6⟩|⟨h0,B,rfl,h1,h2,h3⟩
 ·refine .inr ⟨A,0,h2,.inl ⟨c,rfl⟩,Lo,true,0,h3,?_,?_⟩
  ·rw[Bi];omega
  ·rw[Bi,g3p];exact h5
 ·exact .inr ⟨B,0,h2,.inr ⟨0,rfl⟩,wdC r,true,1,h3,by simp[*]⟩
end Go.Ai
end
section
namespace Go.Ai
open Go.Proofs Go.Proofs.Tryz
set_option maxRecDepth 10000
set_option maxHeartbeats 40000000
theorem g0d {l:Wq} (hll:l.length<=100000) {w:Wd} (hwl:w.length<=1000) (hwls:∀ x∈l,x.length<=1000) (g:Gb) (n:Nat) (lv sv:AV) (h1:Bt g n l lv) (hw:Ak g n w sv) :
  WC 0 prog 42 [lv,sv] ⟨.fn g,n⟩ fun r=>r=.ret (.lit (.bool (decide (w∈l)))) ⟨.fn g,n⟩:=by
 have hlen:=@Am prog _ _ _ _ _ h1.choose_spec.1;have H1:=Aa.mk h1;have HW:=Aa.mk hw;have HWL:=Aa.mk hwls;obtain⟨res,hres⟩ : ∃ b,b=decide (w∈l):=⟨_,rfl⟩;rw[<- hres];have HRE:=Aa.mk hres;clear h1 hw hwls hres;refine ent [] func42 rfl (by decide +kernel) (by kernel_rfl) ?_
 iterate 8 all_goals try first|apply spl<;>intro h|simp (disch:=first|assumption|omega|simp) [*]
 refine LX.ind (fun m gf H'=>∃ k:Nat,k<=l.length/\m=l.length-k/\H'=⟨.fn g,n⟩/\Aa (w ∉ l.take k)/\gf 0=some lv/\gf 1=some sv/\gf 5=some (.li k)) (m0:=l.length) ?_ ?_
 ·exact⟨0,Du _,rfl,rfl,⟨by simp⟩,by simp[*]⟩
 rintro m gf H' ⟨k,hk,rfl,rfl,HN,w0,w1,w5⟩ ih;refine rnd [] (by decide +kernel) ?_;by_cases hlt:k<l.length
 ·have hkI:(k:Int)<(l.length:Int):=by omega
  obtain⟨a,off,q,ha,hia,hc,hq⟩:=H1.out.at hlt;have HS:=Aa.mk (c6l l[k] w (by have:=HWL.out _ (Dt hlt);omega) (by omega) g n q sv hq HW.out);have hwk:Aa (w ∉ l.take (k+1)\/l[k]=w):=⟨by
   by_cases h:l[k]=w
   ·exact .inr h
   ·refine .inl ?_;rw[Cr hlt,Eg,En];rintro (h1|h1)
    ·exact HN.out h1
    ·exact h h1.symm⟩
  have HIX:Aa (l[k]=w->res=true):=⟨fun h=>by rw[HRE.out,<- h];exact decide_eq_true (Dt hlt)⟩;generalize l[k]=x at *
  iterate 8 all_goals try first|apply spl<;>intro h|simp (disch:=first|assumption|omega|simp) [*]
  refine WC.mono HS.out ?_;rintro _ rfl;by_cases hx:x=w
  ·have hix:=HIX.out hx;subst hix;simp only[hx,decide_true]
   iterate 8 all_goals try first|apply spl<;>intro h|simp (disch:=first|assumption|omega|simp) [*]
  ·have hnm:w ∉ l.take (k+1):=hwk.out.resolve_right hx;simp only[hx,decide_false]
   iterate 8 all_goals try first|apply spl<;>intro h|simp (disch:=first|assumption|omega|simp) [*]
   exact ih.out (l.length-(k+1)) _ _ (by omega) ⟨k+1,by omega,rfl,rfl,⟨hnm⟩,by simp[*]⟩
 ·have hkI:¬(k:Int)<(l.length:Int):=by omega
  have hre:res=false:=by
   have h2:=HN.out;rw[Eo (by omega)] at h2;rw[HRE.out];exact decide_eq_false h2
  subst hre
  iterate 8 all_goals try first|apply spl<;>intro h|simp (disch:=first|assumption|omega|simp) [*]
end Go.Ai
end
section
namespace Go.Ai
open Go.Proofs Go.Proofs.Tryz
set_option maxRecDepth 10000
set_option maxHeartbeats 40000000
theorem g0e {l:Wq} (hll:l.length<=30000) {w:Wd} (hwl:w.length<=1000) (hwls:∀ x∈l,x.length<=1000) (g gk:Gb) (hgk:∀ a z,gk a=some z->g a=some z) (n:Nat) (lv wv:AV) (svs:List AV) (hsv:Ag gk n lv l.length svs) (hr:RowsW gk n l svs) (hw:Ak gk n w wv) :
  WC 0 prog 60 [lv,wv] ⟨.fn g,n⟩ fun r=>∃ ov g' n',r=.ret ov ⟨.fn g',n'⟩/\n<=n'/\(∀ b,b<n->g' b=g b)/\((a1h l w=l/\ov=lv)\/(a1h l w=l++[w]/\∃ B,Bh g' n n' B ov (a1h l w).length 1 (svs++[wv]))):=by
 replace hsv:Ag g n lv l.length svs:=Ag.ext (Dp _) (fun a x _ hx=>hgk a x hx) hsv;have hlen:=@Am prog _ _ _ _ _ hsv;have h1l:oneC lv=true:=hsv.one;have h1w:oneC wv=true:=hw.one;have hcw:cellsOf wv=[wv]:=hw.cell;have h2w:allOne [wv]=true:=by simp[h1w]
 have hsl:svs.length=l.length:=hr.1;have HH:=Aa.mk (g0d (by omega) hwl hwls g n lv wv ⟨svs,hsv,hr.ext (Dp _) fun a x _ hx=>hgk a x hx⟩ (Ag.ext (Dp _) (fun a x _ hx=>hgk a x hx) hw));have HR:=Aa.mk hr;have HW:=Aa.mk hw;have HSV:=Aa.mk hsv;clear hr hw hsv hwls hgk;refine ent [] func60 rfl (by decide +kernel) (by kernel_rfl) ?_
 iterate 8 all_goals try first|apply spl<;>intro h|simp (disch:=first|assumption|omega|simp) [*]
 refine WC.mono HH.out ?_;rintro _ rfl;by_cases hin:w∈l
 ·have hpm:a1h l w=l:=if_pos hin;simp only[hin,decide_true];have HPM:=Aa.mk hpm;clear hpm
  iterate 8 all_goals try first|apply spl<;>intro h|simp (disch:=first|assumption|omega|simp) [*]
  exact⟨_,_,_,⟨rfl,rfl,rfl⟩,Dp _,fun _ _=>rfl,.inl ⟨HPM.out,rfl⟩⟩
 ·have hpm:a1h l w=l++[w]:=if_neg hin;simp only[hin,decide_false];by_cases hl0:l.length=0
  ·have hsv:=HSV.out;rw[hl0] at hsv;have hap:=fun {H:Mem} {ev:Ev} {d:Option Tmp} {ty:TypeId} {p:String} {af:Array Edge} {gd:Option (Nat×Bool)} {x y:Operand} {s t:TypeId} {a off:Nat} {hx:ev x=some (.sl a off 0 0)} {hy:ev y=some lv} (hp:(apI prog s t).isSome=true)=>Ag.ap00 (P:=prog) hsv (H:=H) (ev:=ev) (d:=d) (ty:=ty) (p:=p) (af:=af) (gd:=gd) (x:=x) (y:=y) (a:=a) (off:=off) (hx:=hx) (hy:=hy) hp;have HPM:=Aa.mk hpm;have HL0:=Aa.mk hl0;clear hsv hpm hl0
   iterate 8 all_goals try first|apply spl<;>intro h|simp (disch:=first|assumption|omega|simp) [*]
   have hs0:svs=[]:=g2i.1 (by rw[hsl];exact HL0.out);rw[hs0];refine⟨_,_,_,⟨rfl,rfl,rfl⟩,by omega,fun b hb=>by simp (disch:=omega) only[Ab],.inr ⟨HPM.out,n+1+1,.inr ⟨by rw[HPM.out];simp,by rw[HPM.out];simp[HL0.out],by omega,by omega,Af,by rw[HPM.out];simp[HL0.out]⟩⟩⟩
  ·have hsv:=HSV.out;obtain⟨a9,blk,ha9,hga9,hap⟩:=Ag.ap0 (P:=prog) (sz:=1) hsv (by omega) (by omega) (by rw[hsl,El]);have hsl1:svs.length=l.length*1:=by omega
   have HPM:=Aa.mk hpm;clear hsv hpm hsl
   iterate 8 all_goals try first|apply spl<;>intro h|simp (disch:=first|assumption|omega|simp) [*]
   exact⟨_,_,_,⟨rfl,rfl,rfl⟩,by omega,fun b hb=>by simp (disch:=omega) only[Ab,Ae],.inr ⟨HPM.out,n+1+1+1,.inr ⟨by rw[HPM.out];simp,by rw[HPM.out];simp,by omega,by omega,Af,by rw[HPM.out];simp;omega⟩⟩⟩
end Go.Ai
end
section
namespace Go.Ai
open Go.Proofs Go.Proofs.Tryz
set_option maxRecDepth 10000
set_option maxHeartbeats 40000000
variable {g:Gb} {n B:Nat} {sv:AV} {ts:Lq}
theorem a8r {lo len sz:Nat} {cs:List AV} (h:Bh g lo n B sv len sz cs) : Bf sv:=by
 intro a o k c e;rcases h with⟨_,_,h3⟩|⟨_,h3,_⟩
 ·rw[h3] at e;cases e
 ·rw[h3] at e;cases e
def b7b (g:Gb) (lo n:Nat) (w:Wd) (sv:AV) : Prop:=a1g g lo n w sv/\Bf sv
def a2k (g:Gb) (lo n B:Nat) (ts:Lq) (sv:AV) : Prop:=∃ cs,Bh g lo n B sv ts.length 2 cs/\RowsF g lo n B ts cs/\∀ v∈cs,Bf v
theorem a2k.logF {lo:Nat} (h:a2k g lo n B ts sv) : b0g g lo n B ts sv:=let ⟨cs,h1,h2,_⟩:=h;⟨cs,h1,h2⟩
theorem a2k.one {lo:Nat} (h:a2k g lo n B ts sv) : oneC sv=true:=h.logF.one
theorem a2k.logX {lo:Nat} (h:a2k g lo n B ts sv) : a3b g n ts sv:=by
 obtain⟨cs,h1,h2,h3⟩:=h;refine⟨cs,Ag.ext (Dp _) (fun a x _ hx=>?_) h1.slice,h2.rows,h3⟩;split at hx
 ·exact hx
 ·cases hx
theorem a2k.keep {g': Gb} {lo lo' n':Nat} (h:a2k g lo n B ts sv) (h0:lo'<=lo) (h2:n<=n') (hg:∀ a,lo<=a->a<n->g' a=g a) : a2k g' lo' n' B ts sv:=by
 obtain⟨cs,h1,h3,h4⟩:=h;refine⟨cs,?_,h3.keep h0 h2 (.inr (.inl rfl)) fun a h4 h5 _=>hg a h4 h5,h4⟩;rcases h1 with h1|⟨k1,k2,k3,k4,k5,k6⟩
 ·exact .inl h1
 ·exact .inr ⟨k1,k2,by omega,by omega,(hg B k3 k4).trans k5,k6⟩
theorem d7g {M:Bc} (hM:M.ok) (w:Wd) (hwl:w.length<=300) (hw:inW w M.inp=true) (g:Gb) (n:Nat) (ms:List AV) (wv:AV) (hr:a2w g n M ms) (hv:Ak g n w wv) :
  WC 0 prog 45 [.agg ms,.li 0,wv] ⟨.fn g,n⟩ fun r=>∃ sv g' n',r=.ret sv ⟨.fn g',n'⟩/\n<=n'/\(∀ b,b<n->g' b=g b)/\b7b g' n n' (Dd M 0 w) sv:=by
 obtain⟨rv,rfl,h1r⟩:=hr.one;have h1a:allOne [.li M.inp,.li M.out,rv]=true:=by simp[h1r]
 have hlen:=@Am prog _ _ _ _ _ hv;have HR:=Aa.mk hr;have HV:=Aa.mk hv;have HM:=Aa.mk hM;have HW:=Aa.mk hw;have hr0:=hM.2.2.2.2.1;clear hr hv hM hw;refine ent pl45 func45 rfl (by decide +kernel) (by kernel_rfl) ?_
 iterate 8 all_goals try first|apply spl<;>intro h|simp (disch:=first|assumption|omega|simp) [*]
 refine LX.ind (fun m gf H'=>∃ (k n' : Nat) (gL:Gb) (B:Nat) (sv:AV) (cs:List AV) (s:Int),k<=w.length/\m=w.length-k/\H'=⟨.fn gL,n'⟩/\n+1<=n'/\Aa (∀ b,b<n->gL b=g b)/\gL n=some (.cells [.li M.inp,.li M.out,rv] true 0) /\
  Aa (Bh gL (n+1) n' B sv k 1 cs)/\Aa (cs=wdC (Dd M 0 (w.take k)))/\Aa (s=b2f M 0 (w.take k)/\b6w M s)/\gf 1=some (.li s)/\gf 2=some wv/\gf 3=some (.ptr n 0)/\gf 7=some sv/\gf 8=some (.li k)) (m0:=w.length) ?_ ?_
 ·exact⟨0,_,_,0,_,[],0,Du _,rfl,rfl,Dp _,⟨fun b hb=>Ab hb⟩,Af,⟨.inl ⟨rfl,rfl,rfl⟩⟩,⟨rfl⟩,⟨rfl,.inr ⟨0,rfl,by omega⟩⟩,by simp[*]⟩
 rintro m gf H' ⟨k,n',gL,B,sv,cs,s,hk,rfl,rfl,hn',HG,hgn,HGR,HC,HST,w1,w2,w3,w7,w8⟩ ih;refine rnd pl45 (by decide +kernel) ?_;by_cases hlt:k<w.length
 ·have hltI:(k:Int)<(w.length:Int):=by omega
  obtain⟨a2,off,ha2,hia,hcell⟩:=Ag.mono (Fb hn') HG.out HV.out |> fun h=>Ak.at (w:=w) h hlt;have htk:=Cr hlt;have hx:=of_decide_eq_true (Eb.1 HW.out _ (Dt hlt));have HN:=Aa.mk (fun (gX:Gb) (n2:Nat) (hn2:n<=n2) (hX:∀ b,b<n->gX b=g b)=>f7k HM.out s w[k] HST.out.2 hx.1 hx.2 gX n2 _ (HR.out.mono hn2 hX));have HA:Aa (b2f M 0 (w.take (k+1))=(a0o M s w[k]).1):=⟨by rw[htk,d5d,<- HST.out.1];rfl⟩;have HRN:Aa (Dd M 0 (w.take (k+1))=Dd M 0 (w.take k)++[(a0o M s w[k]).2]):=⟨by rw[htk,d5c,<- HST.out.1];rfl⟩;have HOK:=Aa.mk (d5e (d5g HM.out HST.out.2 hx.1 hx.2)).1;clear hx htk;generalize w[k]=x at *;generalize a0o M s x=e at *;obtain⟨to,eo⟩:=e;dsimp only at *
  iterate 8 all_goals try first|apply spl<;>intro h|simp (disch:=first|assumption|omega|simp) [*]
  refine WC.mono (HN.out _ _ (by omega) fun b (hb:b<n)=>(Ab (by omega)).trans (HG.out b hb)) ?_;rintro _ ⟨g2,n2,rfl,hn2,hX⟩;have HG2:Aa (∀ b,b<n->g2 b=g b):=⟨fun b hb=>(hX b (by omega)).trans ((Ab (by omega)).trans (HG.out b hb))⟩;have hnn2:n'+1<=n2:=hn2;have hg2n:g2 n=some (.cells [.li M.inp,.li M.out,rv] true 0):=(hX n (by omega)).trans ((Ab (by omega)).trans hgn);have hg2e:g2 n'=some (.cells [.li 0,.li 0] true 0):=(hX n' (by omega)).trans Af;have HX:=Aa.mk hX;have HEND:Aa (∀ cs',cs'=cs++[.li eo]->cs'=wdC (Dd M 0 (w.take (k+1)))/\cs'.length=(k+1)*1):=⟨fun cs' h=>by
   rw[HRN.out,a4v,<- HC.out];refine⟨h,?_⟩;rw[h,HC.out,Dr,Bi,b3z,Dw];simp;omega⟩
  clear hX hn2 HN hia hcell ha2;rcases HGR.out with⟨hk0,hc0,hs0⟩|⟨hk0,hs0,hB1,hB2,hB3,hB4⟩
  ·subst hs0;have HZ:=Aa.mk (And.intro hk0 hc0);clear hk0 hc0
   iterate 8 all_goals try first|apply spl<;>intro h|simp (disch:=first|assumption|omega|simp) [*]
   have HQ:=HEND.out [.li eo] (by rw[HZ.out.2];rfl);refine ih.out (w.length-(k+1)) _ _ (by omega) ⟨k+1,n2+1+1,_,n2+1,.slq (n2+1) 0 (k+1) 0,_,to,by omega,rfl,rfl,by omega,⟨fun b hb=>?_⟩,?_,⟨.mk Af (by omega) (by omega) HQ.2⟩,⟨HQ.1⟩,⟨HA.out.symm,HOK.out⟩,by simp,by simp[*],by simp[*],by rw[HZ.out.1];simp,by simp⟩
   ·simp (disch:=omega) only[Ab];exact HG2.out b hb
   ·simp (disch:=omega) only[Ab];exact hg2n
  ·subst hs0;have hB5:g2 B=some (.cells cs true 1):=(HX.out B (by omega)).trans ((Ab hB2).trans hB3);clear hB3
   iterate 8 all_goals try first|apply spl<;>intro h|simp (disch:=first|assumption|omega|simp) [*]
   have HQ:=HEND.out _ rfl;refine ih.out (w.length-(k+1)) _ _ (by omega) ⟨k+1,n2+1+1,_,n2+1,.slq (n2+1) 0 (k+1) 0,_,to,by omega,rfl,rfl,by omega,⟨fun b hb=>?_⟩,?_,⟨.mk Af (by omega) (by omega) HQ.2⟩,⟨HQ.1⟩,⟨HA.out.symm,HOK.out⟩,by simp[*]⟩
   ·simp (disch:=omega) only[Ab,Ae];exact HG2.out b hb
   ·simp (disch:=omega) only[Ab,Ae];exact hg2n
 ·have hltI:¬(k:Int)<(w.length:Int):=by omega
  have hkw:k=w.length:=by omega
  have HREP:Aa (b7b gL n n' (Dd M 0 w) sv):=⟨by
   have h1:=HGR.out;rw[HC.out,hkw,Ep] at h1;exact⟨(h1.fresh (b3z w 0).symm).keep (Dy n) (Dp _) fun _ _ _=>rfl,a8r h1⟩⟩
  clear hkw
  iterate 8 all_goals try first|apply spl<;>intro h|simp (disch:=first|assumption|omega|simp) [*]
  exact⟨_,_,_,⟨rfl,rfl,rfl⟩,by omega,HG.out,HREP.out⟩
theorem g0f (bs:List Nat) (hb:∀ b∈bs,b<256) (I most:Nat) (hI0:0<I) (hI:I<=16) (hm:most<=12) (g:Gb) (n:Nat) (bv:AV) (hv:a5s g n bs bv) :
  WC 0 prog 44 [bv,.li I,.li most] ⟨.fn g,n⟩ fun r=>∃ sv g' n',r=.ret sv ⟨.fn g',n'⟩/\n<=n'/\(∀ b,b<n->g' b=g b)/\b7b g' n n' (Cw bs I most) sv:=by
 have hlen:=@Am prog _ _ _ _ _ hv;have HV:=Aa.mk hv;have HBS:=Aa.mk hb;clear hv hb;refine ent [] func44 rfl (by decide +kernel) (by kernel_rfl) ?_
 iterate 8 all_goals try first|apply spl<;>intro h|simp (disch:=first|assumption|omega|simp) [*]
 refine LX.ind (fun m gf H'=>∃ (k n' : Nat) (gL:Gb) (B:Nat) (sv:AV) (cs:List AV),k<=bs.length/\k<=most/\m=most-k/\H'=⟨.fn gL,n'⟩/\n<=n'/\Aa (∀ b,b<n->gL b=g b) /\
  Aa (Bh gL n n' B sv k 1 cs)/\Aa (cs=wdC ((bs.take k).map fun b=>((b % I:Nat) : Int)))/\gf 0=some bv/\gf 1=some (.li I)/\gf 2=some (.li most)/\gf 7=some sv/\gf 8=some (.li k)) (m0:=most) ?_ ?_
 ·exact⟨0,_,_,0,_,[],Du _,Du _,rfl,rfl,Dp _,⟨fun b hb=>rfl⟩,⟨.inl ⟨rfl,rfl,rfl⟩⟩,⟨rfl⟩,by simp[*]⟩
 rintro m gf H' ⟨k,n',gL,B,sv,cs,hk,hkm,rfl,rfl,hn',HG,HGR,HC,w0,w1,w2,w7,w8⟩ ih;refine rnd [] (by decide +kernel) ?_;have fin:¬(k<bs.length/\k<most)->Aa (b7b gL n n' (Cw bs I most) sv):=fun h=>⟨by
  have h1:=HGR.out;have e:bs.take k=bs.take most:=by
   by_cases h2:k<most
   ·rw[Eo (by omega),Eo (by omega)]
   ·rw[show k=most by omega]
  rw[HC.out,e] at h1;exact⟨h1.fresh (by rw[Ee,<- e,Dw];omega),a8r h1⟩⟩
 have FIN:=Aa.mk fin;clear fin;by_cases hlt:k<bs.length
 ·have hltI:(k:Int)<(bs.length:Int):=by omega
  by_cases hlm:k<most
  ·have hlmI:(k:Int)<(most:Int):=by omega
   obtain⟨a2,off,ha2,hia,hcell⟩:=a5s.at (n:=n') (w:=bs) (Ag.mono hn' HG.out HV.out) hlt;have hx:=HBS.out _ (Dt hlt);have HEND:Aa (∀ cs',cs'=cs++[.li ((bs[k] % I:Nat) : Int)]->cs'=wdC ((bs.take (k+1)).map fun b=>((b % I:Nat) : Int))/\cs'.length=(k+1)*1):=⟨fun cs' h=>by
    rw[Cr hlt,g2r,g4q,a4v,<- HC.out];refine⟨h,?_⟩;rw[h,HC.out,Dr,Bi,Ee,Dw];simp;omega⟩
   generalize bs[k]=x at *;have hrem:(x:Int).tmod (I:Int)=((x % I:Nat) : Int):=(g3j x I).symm;have hxi:x % I<256:=Nat.lt_of_le_of_lt (Nat.mod_le x I) hx;generalize x % I=y at *;have hI1:¬(I:Int)=0:=by omega
   have hI2:¬I=0:=by omega
   rcases HGR.out with⟨hk0,hc0,hs0⟩|⟨hk0,hs0,hB1,hB2,hB3,hB4⟩
   ·subst hs0;have HZ:=Aa.mk (And.intro hk0 hc0);clear hk0 hc0
    iterate 8 all_goals try first|apply spl<;>intro h|simp (disch:=first|assumption|omega|simp) [*]
    have HQ:=HEND.out [.li (y:Int)] (by rw[HZ.out.2];rfl);refine ih.out (most-(k+1)) _ _ (by omega) ⟨k+1,n'+1+1,_,n'+1,.slq (n'+1) 0 (k+1) 0,_,by omega,by omega,rfl,rfl,by omega,⟨fun b hb=>?_⟩,⟨.mk Af (by omega) (by omega) HQ.2⟩,⟨HQ.1⟩,by simp[*],by simp[*],by simp[*],by rw[HZ.out.1];simp,by simp⟩;simp (disch:=omega) only[Ab];exact HG.out b hb
   ·subst hs0
    iterate 8 all_goals try first|apply spl<;>intro h|simp (disch:=first|assumption|omega|simp) [*]
    have HQ:=HEND.out _ rfl;refine ih.out (most-(k+1)) _ _ (by omega) ⟨k+1,n'+1+1,_,n'+1,.slq (n'+1) 0 (k+1) 0,_,by omega,by omega,rfl,rfl,by omega,⟨fun b hb=>?_⟩,⟨.mk Af (by omega) (by omega) HQ.2⟩,⟨HQ.1⟩,by simp[*]⟩;simp (disch:=omega) only[Ab,Ae];exact HG.out b hb
  ·have hlmI:¬(k:Int)<(most:Int):=by omega
   have HF:=FIN.out (by omega)
   iterate 8 all_goals try first|apply spl<;>intro h|simp (disch:=first|assumption|omega|simp) [*]
   exact⟨_,_,_,⟨rfl,rfl,rfl⟩,by omega,HG.out,HF.out⟩
 ·have hltI:¬(k:Int)<(bs.length:Int):=by omega
  have HF:=FIN.out (by omega)
  iterate 8 all_goals try first|apply spl<;>intro h|simp (disch:=first|assumption|omega|simp) [*]
  exact⟨_,_,_,⟨rfl,rfl,rfl⟩,by omega,HG.out,HF.out⟩
theorem d7h (bs:List Nat) (hb:∀ b∈bs,b<256) (I:Int) (most:Nat) (hI0:1<=I) (hI:I<=16) (hm:most<=12) (mm:Int) (hmm:mm=most) (g:Gb) (n:Nat) (bv:AV) (hv:a5s g n bs bv) :
  WC 0 prog 44 [bv,.li I,.li mm] ⟨.fn g,n⟩ fun r=>∃ sv g' n',r=.ret sv ⟨.fn g',n'⟩/\n<=n'/\(∀ b,b<n->g' b=g b)/\b7b g' n n' (Cw bs I.toNat most) sv:=by
 obtain⟨k,rfl⟩ : ∃ k:Nat,I=k:=⟨I.toNat,by omega⟩;subst hmm;exact g0f bs hb k most (by omega) (by omega) hm g n bv hv
theorem d7i {st inp out:Nat} {part:Bool} {es:List Nat} {ev:AV} {ws:List (List Nat)} {wv:AV} (ia ib ic:Int) (g:Gb) (n:Nat) (hI:InG g n st inp out es ev ws wv) :
  WC 0 prog 59 [.agg [.lit (.int .u8 st),.lit (.int .u8 inp),.lit (.int .u8 out),.lit (.bool part),ev,wv,.lit (.int .u8 ia),.lit (.int .u8 ib),.lit (.int .u8 ic)]] ⟨.fn g,n⟩ fun r=>∃ sv g' n' B,r=.ret (.agg [.lit (.int .i64 (Cg st inp out part es).inp),.lit (.int .i64 (Cg st inp out part es).out),sv]) ⟨.fn g',n'⟩/\n<=n'/\(∀ b,b<n->g' b=g b)/\a2k g' n n' B (Bm (Cg st inp out part es) ws) sv:=by
 have hlen:=@Am prog _ _ _ _ _ hI.sw.choose_spec.1;have h1e:=hI.se.one;have h1w:=hI.sw.choose_spec.1.one;have hone:allOne [.lit (.int .u8 st),.lit (.int .u8 inp),.lit (.int .u8 out),.lit (.bool part),ev,wv,.lit (.int .u8 ia),.lit (.int .u8 ib),.lit (.int .u8 ic)]=true:=by simp[h1e,h1w]
 have HMO:=Aa.mk fun (gX:Gb) (n2:Nat) (hn:n<=n2) (hX:∀ b,b<n->gX b=g b)=>d5b st inp out part es ev gX n2 hI.b0 hI.b1 hI.b2 (hI.se.mono hn hX) hI.eb;have HI:=Aa.mk hI;have HM:=Aa.mk (b1w st inp out part es);clear hI;generalize Cg st inp out part es=M at *;refine ent pl59 func59 rfl (by decide +kernel) (by kernel_rfl) ?_
 iterate 8 all_goals try first|apply spl<;>intro h|simp (disch:=first|assumption|omega|simp) [*]
 refine WC.mono (HMO.out _ _ (by omega) fun b (hb:b<n)=>by simp (disch:=omega) only[Ab]) ?_;rintro _ ⟨ms,g1,n1,rfl,hn1,hg1,hfr⟩;obtain⟨rv,hms,h1r⟩:=hfr.rep.one;subst hms;have hone2:allOne [.li M.inp,.li M.out,rv]=true:=by simp[h1r]
 have HR:=Aa.mk hfr.rep;have HG1:Aa (∀ b,b<n->g1 b=g b):=⟨fun b hb=>(hg1 b (by omega)).trans (by simp (disch:=omega) only[Ab])⟩;have HX1:=Aa.mk hg1;clear hg1 hfr HMO
 iterate 8 all_goals try first|apply spl<;>intro h|simp (disch:=first|assumption|omega|simp) [*]
 have hgn1:g1 n=some (.cells [.lit (.int .u8 st),.lit (.int .u8 inp),.lit (.int .u8 out),.lit (.bool part),ev,wv,.lit (.int .u8 ia),.lit (.int .u8 ib),.lit (.int .u8 ic)] true 0):=(HX1.out n (by omega)).trans (by simp (disch:=omega) only[Ab,Af]);have hgo1:g1 (n+1)=some (.cells [.li 0,.li 0,.nl] true 0):=(HX1.out (n+1) (by omega)).trans (by simp (disch:=omega) only[Ab,Af]);clear HX1;refine LX.ind (fun m gf H'=>∃ (k n' : Nat) (gL:Gb) (B:Nat) (sv:AV),k<=ws.length/\k<=12/\m=12-k/\H'=⟨.fn gL,n'⟩/\n1+1+1<=n'/\B<n'/\Aa (∀ b,b<n1->gL b=g1 b)/\gL n1=some (.cells [.li M.inp,.li M.out,rv] true 0) /\
  gL (n1+1)=some (.cells [.li M.inp,.li M.out,sv] true 0)/\Aa (a2k gL (n1+1+1) n' B ((ws.take k).map (b0h M)) sv)/\gf 1=some (.ptr n 0)/\gf 2=some (.ptr (n+1) 0)/\gf 3=some (.ptr n1 0)/\gf 4=some (.ptr (n1+1) 0)/\gf 5=some (.li k)) (m0:=12) ?_ ?_
 ·refine⟨0,_,_,0,_,Du _,Du _,rfl,rfl,Dp _,by omega,⟨fun b hb=>?_⟩,?_,Af,⟨[],.inl ⟨rfl,rfl,rfl⟩,.nil,fun v hv=>by cases hv⟩,by simp[*]⟩
  ·exact(Ab (by omega)).trans (Ab hb)
  ·exact(Ab (by omega)).trans Af
 rintro m gf H' ⟨k,n',gL,B,sv,hk,hk12,rfl,rfl,hn',hBn,HG,hgm,hgl,HL,w1,w2,w3,w4,w5⟩ ih;have hgn:=(HG.out n (by omega)).trans hgn1;have hgo:=(HG.out (n+1) (by omega)).trans hgo1;have h1sv:=HL.out.one;have hone3:allOne [.li M.inp,.li M.out,sv]=true:=by simp[h1sv]
 have FIN:Aa (¬(k<ws.length/\k<12)->a2k gL (n1+1+1) n' B (Bm M ws) sv):=⟨fun h=>by
  have e:ws.take k=ws.take 12:=by
   by_cases h2:k<12
   ·rw[Eo (by omega),Eo (by omega)]
   ·rw[show k=12 by omega]
  have h1:=HL.out;rw[e] at h1;exact h1⟩
 refine rnd pl59 (by decide +kernel) ?_;by_cases hlt:k<ws.length
 ·have hltI:(k:Int)<(ws.length:Int):=by omega
  by_cases hlm:k<12
  ·have hlmI:(k:Int)<12:=by omega
   obtain⟨a2,off,q,ha2,hia,hcell,hrb⟩:=HI.out.sw.at hlt;have hcell2:Bd (some (false,1)) (gL a2) (off+k)=some q:=(congrArg (fun z=>Bd (some (false,1)) z (off+k)) ((HG.out a2 (by omega)).trans (HG1.out a2 ha2))).trans hcell;have hM:=HM.out;have HWD:=Aa.mk (fun (gX:Gb) (n2:Nat) (hn2:n<=n2) (hX:∀ b,b<n->gX b=g b)=>d7h ws[k] (HI.out.wb _ (Dt hlt)) M.inp 10 hM.1 hM.2.1 (by decide) 10 rfl gX n2 q (Ag.mono hn2 hX hrb));have HTK:Aa ((ws.take (k+1)).map (b0h M)=(ws.take k).map (b0h M)++[b0h M ws[k]]):=⟨by rw[Cr hlt,g2r,g4q]⟩;have HW:Aa (b0h M ws[k]=(Cw ws[k] M.inp.toNat 10,Dd M 0 (Cw ws[k] M.inp.toNat 10))/\(Cw ws[k] M.inp.toNat 10).length<=10/\inW (Cw ws[k] M.inp.toNat 10) M.inp=true):=⟨rfl,b6x,b4a hM.1⟩;clear hcell hrb hM;generalize Cw ws[k] M.inp.toNat 10=w at *;generalize b0h M ws[k]=t at *
   iterate 8 all_goals try first|apply spl<;>intro h|simp (disch:=first|assumption|omega|simp) [*]
   refine WC.mono (HWD.out _ _ (by omega) fun b (hb:b<n)=>(HG.out b (by omega)).trans (HG1.out b hb)) ?_;rintro _ ⟨uv,g2,n2,rfl,hn2,hX2,hfw⟩;have HX2:=Aa.mk hX2;have HFW:=Aa.mk hfw;have hgm2:=(hX2 n1 (by omega)).trans hgm;have hgl2:=(hX2 (n1+1) (by omega)).trans hgl;have hone4:oneC uv=true:=hfw.1.rep.one;have hcu:cellsOf uv=[uv]:=hfw.1.rep.cell;have HRU:=Aa.mk (fun (gX:Gb) (n3:Nat) (hn3:n2<=n3) (hX:∀ b,b<n2->gX b=g2 b)=>d7g HM.out w (by have:=HW.out.2.1;omega) HW.out.2.2 gX n3 [.li M.inp,.li M.out,rv] uv (HR.out.mono (by omega) fun b hb=>(hX b (by omega)).trans ((HX2.out b (by omega)).trans (HG.out b (by omega)))) (Ag.mono hn3 hX HFW.out.1.rep));clear hX2 hfw HWD hcell2 hia
   iterate 8 all_goals try first|apply spl<;>intro h|simp (disch:=first|assumption|omega|simp) [*]
   refine WC.mono (HRU.out _ _ (by omega) fun b hb=>rfl) ?_;rintro _ ⟨zv,g3,n3,rfl,hn3,hX3,hfz⟩;have HX3:=Aa.mk hX3;have HFZ:=Aa.mk hfz;have hgm3:=(hX3 n1 (by omega)).trans hgm2;have hgl3:=(hX3 (n1+1) (by omega)).trans hgl2;have hone5:oneC zv=true:=hfz.1.rep.one;have hcz:cellsOf zv=[zv]:=hfz.1.rep.cell;have hone6:allOne [uv,zv]=true:=by simp[hone4,hone5]
   clear hX3 hfz HRU;obtain⟨cs,hgr,hrf,hcc⟩:=HL.out;have HCC:=Aa.mk hcc;clear hcc;have HRF:=Aa.mk hrf;have hcl:=hrf.1;rw[Ee,Dw,Fa hk] at hgr;rw[Ee,Dw,Fa hk] at hcl;clear hrf;have HNB:Aa (∀ a,n'<=a->a≠B):=⟨fun a h=>by omega⟩;have HLOG:Aa (∀ gF:Gb,(∀ b,n1+1+1<=b->b<n3->b≠B->gF b=g3 b)->gF (n3+1)=some (.cells (cs++[uv,zv]) true 2)->a2k gF (n1+1+1) (n3+1+1) (n3+1) ((ws.take (k+1)).map (b0h M)) (.slq (n3+1) 0 (k+1) 0)):=⟨fun gF h1 h2=>by
    refine⟨cs++[uv,zv],?_,?_,?_⟩
    ·rw[HTK.out,Dr,Ee,Dw,Fa hk];exact .mk h2 (by omega) (by omega) (by rw[Dr,hcl];simp;omega)
    ·rw[HTK.out,HW.out.1];exact(HRF.out.keep (Dp _) (by omega) (.inl (by omega)) fun a h3 h4 h5=>(h1 a h3 (by omega) h5).trans ((HX3.out a (by omega)).trans (HX2.out a h4))).snoc (HFW.out.1.safe (by omega) (by omega) (.inl (by omega)) fun a h3 h4=>(h1 a (by omega) (by omega) (HNB.out a (by omega))).trans (HX3.out a h4)) (HFZ.out.1.safe (by omega) (by omega) (.inl (by omega)) fun a h3 h4=>h1 a (by omega) h4 (HNB.out a (by omega)))
    ·intro v hv;rcases Eg.1 hv with h|h
     ·exact HCC.out v h
     ·rcases Dz.1 h with rfl|h
      ·exact HFW.out.2
      ·rw[En.1 h];exact HFZ.out.2⟩
   rcases hgr with⟨hk0,hc0,hs0⟩|⟨hk0,hs0,hB1,hB2,hB3,hB4⟩
   ·subst hs0;have HZ:=Aa.mk (And.intro hk0 hc0);clear hk0 hc0
    iterate 8 all_goals try first|apply spl<;>intro h|simp (disch:=first|assumption|omega|simp) [*]
    refine ih.out (12-(k+1)) _ _ (by omega) ⟨k+1,n3+1+1,_,n3+1,.slq (n3+1) 0 (k+1) 0,by omega,by omega,rfl,rfl,by omega,by omega,⟨fun b hb=>?_⟩,?_,?_,⟨HLOG.out _ (fun b h1 h2 h3=>?_) ?_⟩,by simp[*]⟩
    ·simp (disch:=omega) only[Ab,Ae];exact(HX3.out b (by omega)).trans ((HX2.out b (by omega)).trans (HG.out b hb))
    ·simp (disch:=omega) only[Ab,Ae];exact hgm3
    ·rw[HZ.out.1];simp (disch:=omega) only[Ab,Ae,Af]
    ·simp (disch:=omega) only[Ab,Ae]
    ·rw[HZ.out.2];simp (disch:=omega) only[Ab,Ae,Af];rfl
   ·subst hs0;have hB5:g3 B=some (.cells cs true 2):=(HX3.out B (by omega)).trans ((HX2.out B hB2).trans hB3);clear hB3
    iterate 8 all_goals try first|apply spl<;>intro h|simp (disch:=first|assumption|omega|simp) [*]
    refine ih.out (12-(k+1)) _ _ (by omega) ⟨k+1,n3+1+1,_,n3+1,.slq (n3+1) 0 (k+1) 0,by omega,by omega,rfl,rfl,by omega,by omega,⟨fun b hb=>?_⟩,?_,?_,⟨HLOG.out _ (fun b h1 h2 h3=>?_) ?_⟩,by simp[*]⟩
    ·simp (disch:=omega) only[Ab,Ae];exact(HX3.out b (by omega)).trans ((HX2.out b (by omega)).trans (HG.out b hb))
    ·simp (disch:=omega) only[Ab,Ae];exact hgm3
    ·simp (disch:=omega) only[Ab,Ae,Af]
    ·simp (disch:=omega) only[Ab,Ae]
    ·simp (disch:=omega) only[Ab,Ae,Af]
  ·have hlmI:¬(k:Int)<12:=by omega
   have HF:=Aa.mk (FIN.out (by omega))
   iterate 8 all_goals try first|apply spl<;>intro h|simp (disch:=first|assumption|omega|simp) [*]
   exact⟨_,_,_,⟨rfl,rfl,rfl⟩,by omega,fun b hb=>(Ab (by omega)).trans ((HG.out b (by omega)).trans (HG1.out b hb)),B,HF.out.keep (by omega) (Dp _) fun a h1 h2=>Ae (by omega)⟩
 ·have hltI:¬(k:Int)<(ws.length:Int):=by omega
  have HF:=Aa.mk (FIN.out (by omega))
  iterate 8 all_goals try first|apply spl<;>intro h|simp (disch:=first|assumption|omega|simp) [*]
  exact⟨_,_,_,⟨rfl,rfl,rfl⟩,by omega,fun b hb=>(Ab (by omega)).trans ((HG.out b (by omega)).trans (HG1.out b hb)),B,HF.out.keep (by omega) (Dp _) fun a h1 h2=>Ae (by omega)⟩
end Go.Ai
end
section
namespace Go.Ai
open Go.Proofs Go.Proofs.Tryz
set_option maxRecDepth 10000
set_option maxHeartbeats 40000000
theorem d7j {st inp out:Nat} {part:Bool} {es:List Nat} {ev:AV} {ws:List (List Nat)} {wv:AV} (ia ib ic:Nat) (hia:ia<256) (hib:ib<256) (hic:ic<256) (g:Gb) (n:Nat) (hI:InG g n st inp out es ev ws wv) :
  WC 0 prog 21 [.agg [.lit (.int .u8 st),.lit (.int .u8 inp),.lit (.int .u8 out),.lit (.bool part),ev,wv,.lit (.int .u8 ia),.lit (.int .u8 ib),.lit (.int .u8 ic)]] ⟨.fn g,n⟩ fun r=>∃ sv g' n' B,r=.ret (.agg [.lit (.int .i64 (Cg st inp out part es).inp),.lit (.int .i64 (Cg st inp out part es).out),sv]) ⟨.fn g',n'⟩/\n<=n'/\(∀ b,b<n->g' b=g b)/\a2k g' n n' B (ofG (Cg st inp out part es) ws ia ib ic) sv:=by
 have h1e:=hI.se.one;have h1w:=hI.sw.choose_spec.1.one;have hone:allOne [.lit (.int .u8 st),.lit (.int .u8 inp),.lit (.int .u8 out),.lit (.bool part),ev,wv,.lit (.int .u8 ia),.lit (.int .u8 ib),.lit (.int .u8 ic)]=true:=by simp[h1e,h1w]
 have HRU:=Aa.mk fun (gX:Gb) (n2:Nat) (hn:n<=n2) (hX:∀ b,b<n->gX b=g b)=>d7i (part:=part) ia ib ic gX n2 (hI.mono hn hX);have HM:=Aa.mk (b1w st inp out part es);clear hI;generalize Cg st inp out part es=M at *;have HOF:=Aa.mk (rfl:ofG M ws ia ib ic=ofG M ws ia ib ic);have hOK:=d5k HM.out ws;have HOK:=Aa.mk hOK;have hO1:=hOK.o1;have hO2:=hOK.o2;obtain⟨L,hL⟩ : ∃ L,L=ofG M ws ia ib ic:=⟨_,rfl⟩;rw[<- hL];unfold ofG at hL;have HL:=Aa.mk hL;clear hL HOF hOK;generalize Bm M ws=ts at *;have hrem4:(ic:Int).tmod 4=((ic % 4:Nat) : Int):=(g3j ic 4).symm;have hq4:ic % 4<4:=Es _ (by decide);generalize ic % 4=q at *;refine ent pl21 func21 rfl (by decide +kernel) (by kernel_rfl) ?_
 iterate 8 all_goals try first|refine spl (fun h=>?_) fun h=>?_|simp (maxSteps:=999999) (disch:=first|assumption|omega|(simp;done)|fail) [*]
 refine WC.mono (HRU.out _ _ (by omega) fun b (hb:b<n)=>by simp (disch:=omega) only[Ab]) ?_;rintro _ ⟨sv,g1,n1,B,rfl,hn1,hg1,hlf⟩;have HG1:Aa (∀ b,b<n->g1 b=g b):=⟨fun b hb=>(hg1 b (by omega)).trans (by simp (disch:=omega) only[Ab])⟩;have hgn1:g1 n=some (.cells [.lit (.int .u8 st),.lit (.int .u8 inp),.lit (.int .u8 out),.lit (.bool part),ev,wv,.lit (.int .u8 ia),.lit (.int .u8 ib),.lit (.int .u8 ic)] true 0):=(hg1 n (by omega)).trans (by simp (disch:=omega) only[Ab,Af]);have hgo1:g1 (n+1)=some (.cells [.li 0,.li 0,.nl] true 0):=(hg1 (n+1) (by omega)).trans (by simp (disch:=omega) only[Ab,Af]);clear hg1 HRU;have h1sv:=hlf.one;have hone3:allOne [.li M.inp,.li M.out,sv]=true:=by simp[h1sv]
 have hlenS:=@Am prog _ _ _ _ _ hlf.logF.log.choose_spec.1;have HLF:=Aa.mk hlf;have htl:=HOK.out.len;clear hlf;have FIN0:Aa (L=ts->∀ gF:Gb,∀ m,n1<=m->(∀ b,n+1+1<=b->b<n1->gF b=g1 b)->a2k gF n m B L sv):=⟨fun h gF m hm hgF=>by
  rw[h];exact HLF.out.keep (by omega) hm fun a h1 h2=>hgF a (by omega) h2⟩
 by_cases c1:ts.length=0
 ·have hLt:L=ts:=by rw[HL.out,if_pos (.inl c1)]
  have HF:=Aa.mk (FIN0.out hLt);have c1I:(ts.length:Int)=0:=by omega
  clear hLt
  iterate 8 all_goals try first|refine spl (fun h=>?_) fun h=>?_|simp (maxSteps:=999999) (disch:=first|assumption|omega|(simp;done)|fail) [*]
  refine⟨_,_,_,⟨rfl,rfl,rfl⟩,by omega,fun b hb=>?_,B,HF.out _ _ (by omega) fun b h1 h2=>?_⟩
  ·simp (disch:=omega) only[Ab];exact HG1.out b hb
  ·simp (disch:=omega) only[Ab,Ae]
 have c1I:¬(ts.length:Int)=0:=by omega
 have c1N:¬ts=[]:=fun h=>c1 (by rw[h];rfl);have hremI:(ia:Int).tmod (ts.length:Int)=((ia % ts.length:Nat) : Int):=(g3j ia _).symm;by_cases c2:q<2
 ·have hLt:L=ts:=by rw[HL.out,if_pos (.inr c2)]
  have HF:=Aa.mk (FIN0.out hLt);have c2I:(q:Int)<2:=by omega
  clear hLt
  iterate 8 all_goals try first|refine spl (fun h=>?_) fun h=>?_|simp (maxSteps:=999999) (disch:=first|assumption|omega|(simp;done)|fail) [*]
  refine⟨_,_,_,⟨rfl,rfl,rfl⟩,by omega,fun b hb=>?_,B,HF.out _ _ (by omega) fun b h1 h2=>?_⟩
  ·simp (disch:=omega) only[Ab];exact HG1.out b hb
  ·simp (disch:=omega) only[Ab,Ae]
 have c2I:¬(q:Int)<2:=by omega
 have hi:ia % ts.length<ts.length:=Es _ (by omega);rw[if_neg (by omega),(a4w hi).2] at HL;generalize ia % ts.length=i at *;have hiI:(i:Int)<(ts.length:Int):=by omega
 have HTI:=Aa.mk (HOK.out.lens (Dt hi));have hrl:(ts[i]).2.length<=256:=by rw[HTI.out.1];exact HOK.out.wl _ (Dt hi)
 obtain⟨cs,hgr,hrf,hcc⟩:=HLF.out;have HCC:=Aa.mk hcc;clear hcc;rcases hgr with⟨hk0,_,_⟩|⟨hk0,hs0,hB1,hB2,hB3,hB4⟩
 ·omega
 subst hs0;obtain⟨s1,s2,hc1,hc2,hw1,hw2⟩:=hrf.2 i hi;obtain⟨hil,hc2⟩:=Ea.1 hc2;have h1s2:oneC s2=true:=hw2.rep.one;have hcs2:cellsOf s2=[s2]:=hw2.rep.cell;have hlenR:=@Am prog _ _ _ _ _ hw2.rep;have HRF:=Aa.mk hrf;have HW2:=Aa.mk hw2.rep;have HW1:=Aa.mk hw1;clear hw1 hw2 hrf hc1;by_cases c3:(ts[i]).2.length=0
 ·have hLt:L=ts:=by rw[HL.out,if_pos c3]
  have HF:=Aa.mk (FIN0.out hLt);have H30:Aa (Ag g1 n1 s2 0 (wdC (ts[i]).2)):=⟨by have h:=HW2.out;unfold Ak at h;rw[c3] at h;exact h⟩;have hap:=fun {H:Mem} {ev:Ev} {d:Option Tmp} {ty:TypeId} {p:String} {af:Array Edge} {gd:Option (Nat×Bool)} {x y:Operand} {s t:TypeId} {a off:Nat} {hx:ev x=some (.sl a off 0 0)} {hy:ev y=some s2} (hp:(apI prog s t).isSome=true)=>Ag.ap00 (P:=prog) (H30.out) (H:=H) (ev:=ev) (d:=d) (ty:=ty) (p:=p) (af:=af) (gd:=gd) (x:=x) (y:=y) (a:=a) (off:=off) (hx:=hx) (hy:=hy) hp;have c3I:((ts[i]).2.length:Int)=0:=by omega
  clear hLt
  iterate 8 all_goals try first|refine spl (fun h=>?_) fun h=>?_|simp (maxSteps:=999999) (disch:=first|assumption|omega|(simp;done)|fail) [*]
  refine⟨_,_,_,⟨rfl,rfl,rfl⟩,by omega,fun b hb=>?_,B,HF.out _ _ (by omega) fun b h1 h2=>?_⟩
  ·simp (disch:=omega) only[Ab];exact HG1.out b hb
  ·simp (disch:=omega) only[Ab,Ae]
 have c3I:¬((ts[i]).2.length:Int)=0:=by omega
 rw[if_neg c3] at HL;obtain⟨a2,blk,ha2,hga2,hap⟩:=Ag.ap0 (P:=prog) (sz:=1) HW2.out (by omega) (by omega) (by rw[Bi];omega);have hremR:(ib:Int).tmod ((ts[i]).2.length:Int)=((ib % (ts[i]).2.length:Nat) : Int):=(g3j ib _).symm;have hk:ib % (ts[i]).2.length<(ts[i]).2.length:=Es _ (by omega);have HAT:=Aa.mk (c0d (ts[i]).2 (ib % (ts[i]).2.length) false HTI.out.2.2 hk);have HGD:=Aa.mk (a4w (d:=(0:Int)) hk);have HFIN:Aa (∀ (gF:Gb) (m c:Nat) (r' : Wd),r'.length=(ts[i]).2.length->L=ts.set i ((ts[i]).1,r')->(∀ b,n+1+1<=b->b<n1->b≠B->gF b=g1 b)->gF B=some (.cells (cs.set (i*2+1) (.slq (n1+1+1) 0 (ts[i]).2.length c)) true 2)->gF (n1+1+1)=some (.cells (wdC r') true 1)->n1+1+1<m->a2k gF n m B L (.slq B 0 ts.length 0)):=⟨fun gF m c r' h1 h2 h3 h4 h5 h6=>by
  refine⟨cs.set (i*2+1) (.slq (n1+1+1) 0 (ts[i]).2.length c),.inr ⟨?_,?_,by omega,by omega,h4,?_⟩,?_,?_⟩
  ·rw[h2,Ed];exact hk0
  ·rw[h2,Ed]
  ·rw[h2,Ed,Ed];exact hB4
  ·rw[h2];refine(HRF.out.keep (by omega) (by omega) (.inr (.inl rfl)) h3).set2 hi ?_;rw[<- h1];exact .mk h5 (by omega) h6 (by omega)
  ·intro v hv;rcases g4f hv with h|rfl
   ·exact HCC.out v h
   ·intro a o n c e;cases e⟩
 generalize ib % (ts[i]).2.length=k at *;have hkI:(k:Int)<((ts[i]).2.length:Int):=by omega
 have hwk:(wdC (ts[i]).2)[k]'(by rw[Bi];exact hk)=.li ((ts[i]).2[k]):=(Ea.1 (a4c _ k hk)).2;have hwl:(wdC (ts[i]).2).length=(ts[i]).2.length:=Bi _;rw[HGD.out.2] at HAT;have HCH:Aa (b0i M.out q k (ts[i]).2=if q=2 then (if (ts[i]).2[k] = -1 then (ts[i]).2 else (ts[i]).2.set k (((ts[i]).2[k]+1).tmod M.out)) else (ts[i]).2.take k++List.replicate ((ts[i]).2.length-k) (-1)):=⟨by unfold b0i;rw[HGD.out.2]⟩;have HWS:Aa (∀ v,(wdC (ts[i]).2).set k (.li v)=wdC ((ts[i]).2.set k v)):=⟨fun v=>d5p _ _ _⟩;have ha2n:¬a2=n1:=by omega
 clear HLF FIN0;generalize (ts[i]).2=r at *;have hrkO : -1<=r[k]/\r[k] < M.out:=HAT.out;generalize hxx:r[k]=x at *;have HXX:=Aa.mk hxx;clear hxx;have hx1:=hrkO.1;have hx2:=hrkO.2;have hOI:¬M.out=0:=by omega
 by_cases c4:q=2
 ·subst c4;rw[if_pos rfl] at HCH;by_cases c5:x = -1
  ·rw[if_pos c5] at HCH;have HF:=Aa.mk fun gF m c h3 h4 h5 h6=>HFIN.out gF m c r rfl (by rw[HL.out,HCH.out]) h3 h4 h5 h6
   iterate 12 all_goals try first|refine spl (fun h=>?_) fun h=>?_|simp (maxSteps:=999999) (disch:=first|assumption|omega|(simp;done)|fail) [*]
   refine rnd pl21 (by decide +kernel) ?_
   iterate 8 all_goals try first|refine spl (fun h=>?_) fun h=>?_|simp (maxSteps:=999999) (disch:=first|assumption|omega|(simp;done)|fail) [*]
   refine⟨_,_,_,⟨rfl,rfl,rfl⟩,by omega,fun b hb=>?_,B,HF.out _ _ 0 (fun b h1 h2 h3=>?_) ?_ ?_ (by omega)⟩
   ·simp (disch:=omega) only[Ab];exact HG1.out b hb
   ·simp (disch:=omega) only[Ab,Ae]
   ·simp (disch:=omega) only[Ab,Ae,Af]
   ·simp (disch:=omega) only[Ab,Ae,Af]
  ·rw[if_neg c5] at HCH;have HF:=Aa.mk fun gF m c h3 h4 h5 h6=>HFIN.out gF m c (r.set k ((x+1).tmod M.out)) Ed (by rw[HL.out,HCH.out]) h3 h4 h5 h6;have hv0:0<=(x+1).tmod M.out:=Int.tmod_nonneg _ (by omega);have hv1:(x+1).tmod M.out<M.out:=Int.tmod_lt_of_pos _ (by omega);have hws:=HWS.out ((x+1).tmod M.out);have hsl:((wdC r).set k (.li ((x+1).tmod M.out))).length=r.length:=by rw[Ed];exact hwl
   iterate 12 all_goals try first|refine spl (fun h=>?_) fun h=>?_|simp (maxSteps:=999999) (disch:=first|assumption|omega|(simp;done)|fail) [*]
   refine rnd pl21 (by decide +kernel) ?_
   iterate 8 all_goals try first|refine spl (fun h=>?_) fun h=>?_|simp (maxSteps:=999999) (disch:=first|assumption|omega|(simp;done)|fail) [*]
   refine⟨_,_,_,⟨rfl,rfl,rfl⟩,by omega,fun b hb=>?_,B,HF.out _ _ 0 (fun b h1 h2 h3=>?_) ?_ ?_ (by omega)⟩
   ·simp (disch:=omega) only[Ab];exact HG1.out b hb
   ·simp (disch:=omega) only[Ab,Ae]
   ·simp (disch:=omega) only[Ab,Ae,Af]
   ·simp (disch:=omega) only[Ab,Ae,Af]
 ·have hq3:q=3:=by omega
  subst hq3;rw[if_neg c4] at HCH;have HF:=Aa.mk fun gF m c h3 h4 h5 h6=>HFIN.out gF m c (a4x r k r.length) (d5q (by omega) (Dp _)) (by rw[HL.out,HCH.out,f7r (by omega)]) h3 h4 h5 h6
  iterate 12 all_goals try first|refine spl (fun h=>?_) fun h=>?_|simp (maxSteps:=999999) (disch:=first|assumption|omega|(simp;done)|fail) [*]
  obtain⟨gA,hgA⟩ : ∃ gA,gA=Aj (Aj g1 n1 (some (.cells [.li M.inp,.li M.out,.slq B 0 ts.length 0] true 0))) (n1+1) (some (.cells [] true 0)):=⟨_,rfl⟩;have HGA:=Aa.mk hgA;rw[<- hgA];clear hgA;refine LX.ind (fun m gf H'=>∃ (j:Nat) (gL:Gb),k<=j/\j<=r.length/\m=r.length-j/\H'=⟨.fn gL,n1+1+1+1⟩/\Aa (∀ b,b<n1+1+1->gL b=gA b)/\gL (n1+1+1)=some (.cells (wdC (a4x r k j)) true 1) /\
   gf 1=some (.ptr n 0)/\gf 2=some (.ptr (n+1) 0)/\gf 3=some (.ptr n1 0)/\gf 4=some (.li i)/\gf 5=some (.slq (n1+1+1) 0 r.length 0)/\gf 7=some (.li j)) (m0:=r.length-k) ?_ ?_
  ·refine⟨k,_,Dp _,by omega,rfl,rfl,⟨fun b hb=>Ab hb⟩,?_,by simp[*]⟩;rw[Af];unfold a4x;rw[g2o,List.replicate_zero,g4k,g3b]
  rintro m gf H' ⟨j,gL,hkj,hj,rfl,rfl,HG,hgr,w1,w2,w3,w4,w5,w7⟩ ih;have hgn:=(HG.out n (by omega)).trans ((congrFun HGA.out n).trans (by simp (disch:=omega) only[Ab];exact hgn1));have hgo:=(HG.out (n+1) (by omega)).trans ((congrFun HGA.out (n+1)).trans (by simp (disch:=omega) only[Ab];exact hgo1));have hgm:gL n1=some (.cells [.li M.inp,.li M.out,.slq B 0 ts.length 0] true 0):=(HG.out n1 (by omega)).trans ((congrFun HGA.out n1).trans (by simp (disch:=omega) only[Ab,Af]));have hgB:=(HG.out B (by omega)).trans ((congrFun HGA.out B).trans (by simp (disch:=omega) only[Ab];exact hB3));have hrem43:(ic:Int).tmod 4=3:=hrem4;have hncl:(wdC (a4x r k j)).length=r.length:=by rw[Bi,d5q hkj hj]
  clear hB3 hgo1 hgn1 hrem4;refine rnd pl21 (by decide +kernel) ?_;by_cases hlt:j<r.length
  ·have hltI:(j:Int)<(r.length:Int):=by omega
   have HST:=Aa.mk (f7q hkj hlt);have HWN:=Aa.mk (d5p (a4x r k j) j (-1))
   iterate 8 all_goals try first|refine spl (fun h=>?_) fun h=>?_|simp (maxSteps:=999999) (disch:=first|assumption|omega|(simp;done)|fail) [*]
   rw[HWN.out,HST.out];refine ih.out (r.length-(j+1)) _ _ (by omega) ⟨j+1,_,by omega,by omega,rfl,rfl,⟨fun b hb=>?_⟩,Af,by simp[*]⟩;exact(Ab hb).trans (HG.out b hb)
  ·have hltI:¬(j:Int)<(r.length:Int):=by omega
   have hjr:j=r.length:=by omega
   have HJR:=Aa.mk hjr;clear hjr
   iterate 8 all_goals try first|refine spl (fun h=>?_) fun h=>?_|simp (maxSteps:=999999) (disch:=first|assumption|omega|(simp;done)|fail) [*]
   refine⟨_,_,_,⟨rfl,rfl,rfl⟩,by omega,fun b hb=>?_,B,HF.out _ _ 0 (fun b h1 h2 h3=>?_) ?_ ?_ (by omega)⟩
   ·simp (disch:=omega) only[Ab];rw[HG.out b (by omega),HGA.out];simp (disch:=omega) only[Ab];exact HG1.out b hb
   ·simp (disch:=omega) only[Ab,Ae];rw[HG.out b (by omega),HGA.out];simp (disch:=omega) only[Ab,Ae]
   ·simp (disch:=omega) only[Ab,Ae,Af]
   ·simp (disch:=omega) only[Ab,Ae,Af];rw[hgr,HJR.out]
end Go.Ai
end

