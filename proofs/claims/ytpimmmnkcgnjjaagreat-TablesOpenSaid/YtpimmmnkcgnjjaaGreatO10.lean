/- A small verified interpreter over names, its proofs, and what was proved with it. No condition. -/
import Derived.Test.YtpimmmnkcgnjjaaGreatO09
import Derived.Test.YtpimmmnkcgnjjaaGreatO08
import Derived.Test.YtpimmmnkcgnjjaaGreatO05
set_option linter.all false
set_option linter.deprecated false
section
namespace Go.Ai
open Go.Proofs Go.Proofs.Tryz
set_option maxRecDepth 10000
set_option maxHeartbeats 40000000
variable {n nx:Nat} {O:Int}
def edC (e:Int×Int) : List AV:=[.li e.1,.li e.2]
def c1l (g:Gb) (n:Nat) (r:List (Int×Int)) (sv:AV) : Prop:=Af g n sv r.length (r.flatMap edC)
def RowsK (g:Gb) (n:Nat) (T:Tq) (svs:List AV) : Prop:=svs.length=T.length/\∀ (k:Nat) (h:k<T.length),∃ sv,svs[k]?=some sv/\c1l g n T[k] sv
theorem RowsK.ext {g g': Gb} {b b': Nat} {l:Tq} {svs:List AV} (h:RowsK g b l svs) (hb:b<=b') (hg:∀ a x,a<b->g a=some x->g' a=some x) : RowsK g' b' l svs :=
 ⟨h.1,fun k hk=>let ⟨sv,h1,h2⟩:=h.2 k hk;⟨sv,h1,Af.ext hb hg h2⟩⟩
theorem c1l.at {g:Gb} {r:List (Int×Int)} {sv:AV} (h:c1l g n r sv) {i:Nat} (hi:i<r.length) :
  ∃ a off,a<n/\(∀ {H:Mem} {ev:Ev} {o:Oper} {t:TypeId},iaS prog H ev o t (some (none,2)) (some sv) (some (.li (i:Int)))=.val (.ptr a (off+i*2)) H)/\Be (some (true,2)) (g a) (off+i*2)=some (.agg (edC r[i])):=by
 obtain⟨a,off,ha,hrow,hia⟩:=Af.ia (P:=prog) h hi 2;refine⟨a,off,ha,hia,?_⟩;have:=hrow.agg (k:=i*2) (s:=2) (by rw[d2r (sz:=2) _ (fun _ _=>rfl)];omega);rw[d2q (sz:=2) r i hi (fun _ _=>rfl)] at this;exact this
theorem f9z {e:Int×Int} {l:List (Int×Int)} : goE O (e :: l) nx=match a1w O nx e with|none=>none|some k=>goE O l k:=rfl
def b0x (I O:Int) (rows:Tq) (n:Nat) (es:List (Int×Int)) (nx:Nat) : Option Nat:=match goE O es nx with|none=>none|some z=>goT I O rows (n+1) z
theorem g0a {I:Int} {rows:Tq} {e:Int×Int} {es:List (Int×Int)} : b0x I O rows n (e :: es) nx=match a1w O nx e with|none=>none|some k=>b0x I O rows n es k:=by
 unfold b0x;rw[f9z];cases a1w O nx e<;>rfl
theorem g0b {I:Int} {r:List (Int×Int)} {rows:Tq} : goT I O (r :: rows) n nx=if (r.length:Int)=I/\n<nx then b0x I O rows n r nx else none:=rfl
theorem g0c (I O:Int) (T:Tq) (hl:T.length<=1000000) (hw:∀ r∈T,r.length<=1000000) (g:Gb) (n:Nat) (sv:AV) (svs:List AV) (hsv:Af g n sv T.length svs) (hr:RowsK g n T svs) :
  WC 0 prog 91 [.agg [.li I,.li O,sv]] ⟨.fn g,n⟩ fun r=>r=.ret (.li (a7b I O T)) ⟨.fn g,n⟩:=by
 refine WC.drop1 rfl ?_;have hlen:=@Am prog _ _ _ _ _ hsv;have h1s:=hsv.one;have hone:allOne [.li I,.li O,sv]=true:=by simp[h1s]
 have HS:=Aa.mk hsv;have HR:=Aa.mk hr;have HW:=Aa.mk hw;clear hsv hr hw;obtain⟨ret,hret⟩ : ∃ b,b=a7b I O T:=⟨_,rfl⟩;rw[<- hret];unfold a7b at hret;by_cases t1:I > 16
 ·have hr:ret=3:=by rw[hret,if_pos (.inl t1)]
  clear hret;refine ent [] func91 rfl (by decide +kernel) (by kernel_rfl) ?_
  iterate 8 all_goals try first|apply spl<;>intro h|simp (disch:=first|assumption|omega|simp) [*]
  all_goals exact⟨Dx n,fun b hb=>Ad hb⟩
 by_cases t2:O > 16
 ·have hr:ret=3:=by rw[hret,if_pos (.inr (.inl t2))]
  clear hret;refine ent [] func91 rfl (by decide +kernel) (by kernel_rfl) ?_
  iterate 8 all_goals try first|apply spl<;>intro h|simp (disch:=first|assumption|omega|simp) [*]
  all_goals exact⟨Dx n,fun b hb=>Ad hb⟩
 by_cases t3:T.length > 65537
 ·have hr:ret=3:=by rw[hret,if_pos (.inr (.inr t3))]
  have t3I:65537<(T.length:Int):=by omega
  clear hret;refine ent [] func91 rfl (by decide +kernel) (by kernel_rfl) ?_
  iterate 8 all_goals try first|apply spl<;>intro h|simp (disch:=first|assumption|omega|simp) [*]
  all_goals exact⟨Dx n,fun b hb=>Ad hb⟩
 have t3I:¬65537<(T.length:Int):=by omega
 rw[if_neg (by omega)] at hret;by_cases t4:I<1
 ·have hr:ret=1:=by rw[hret,if_pos (.inl t4)]
  clear hret;refine ent [] func91 rfl (by decide +kernel) (by kernel_rfl) ?_
  iterate 8 all_goals try first|apply spl<;>intro h|simp (disch:=first|assumption|omega|simp) [*]
  all_goals exact⟨Dx n,fun b hb=>Ad hb⟩
 by_cases t5:O<1
 ·have hr:ret=1:=by rw[hret,if_pos (.inr (.inl t5))]
  clear hret;refine ent [] func91 rfl (by decide +kernel) (by kernel_rfl) ?_
  iterate 8 all_goals try first|apply spl<;>intro h|simp (disch:=first|assumption|omega|simp) [*]
  all_goals exact⟨Dx n,fun b hb=>Ad hb⟩
 by_cases t6:T.length<1
 ·have hr:ret=1:=by rw[hret,if_pos (.inr (.inr t6))]
  have t6I:(T.length:Int)<1:=by omega
  clear hret;refine ent [] func91 rfl (by decide +kernel) (by kernel_rfl) ?_
  iterate 8 all_goals try first|apply spl<;>intro h|simp (disch:=first|assumption|omega|simp) [*]
  all_goals exact⟨Dx n,fun b hb=>Ad hb⟩
 have t6I:¬(T.length:Int)<1:=by omega
 rw[if_neg (by omega)] at hret;have HRET:=Aa.mk hret;clear hret;refine ent [] func91 rfl (by decide +kernel) (by kernel_rfl) ?_
 iterate 8 all_goals try first|apply spl<;>intro h|simp (disch:=first|assumption|omega|simp) [*]
 refine LX.ind (fun m gf H'=>∃ (k:Nat) (gL:Gb) (n' nx:Nat),k<=T.length/\m=T.length-k/\H'=⟨.fn gL,n'⟩/\n<n'/\Aa (∀ b,b<n->gL b=g b)/\gL n=some (.cells [.li I,.li O,sv] true 0) /\
  Aa (goT I O T 0 1=goT I O (T.drop k) k nx)/\nx<=1+k*1000000/\gf 1=some (.ptr n 0)/\gf 3=some (.li nx)/\gf 37=some sv/\gf 38=some (.li T.length)/\gf 39=some (.li k)) (m0:=T.length) ?_ ?_
 ·exact⟨0,_,_,1,Dt _,rfl,rfl,by omega,⟨fun b hb=>Ad hb⟩,Ag,⟨rfl⟩,by omega,by simp[*]⟩
 rintro m gf H' ⟨k,gL,n',nx,hk,rfl,rfl,hn',HG,hgn,HV,hnx,w1,w3,w37,w38,w39⟩ ih;refine rnd [] (by decide +kernel) ?_;by_cases hlt:k<T.length
 ·have hltI:(k:Int)<(T.length:Int):=by omega
  obtain⟨q1,hw1,hrep⟩:=HR.out.2 k hlt;obtain⟨a2,off,ha2,hrow,hia⟩:=HS.out.ia (P:=prog) hlt 1;simp only[Ea] at hia;have hkl:k<svs.length:=(Eb.1 hw1).1;have hcell:=(hrow.mono (HG.out a2 ha2)).one (k:=k) (s:=1) hkl;rw[(Eb.1 hw1).2] at hcell;have hlw:=@Am prog _ _ _ _ _ hrep;have hdrop:T.drop k=T[k] :: T.drop (k+1):=El hlt;have hv:=HV.out;rw[hdrop,g0b] at hv;have hrl:=HW.out _ (Ds hlt);have HREP:=Aa.mk hrep;have HV2:=Aa.mk hv;clear hrow hrep hw1 ha2 hdrop hv HV;generalize T[k]=row at *;have h1q:oneC q1=true:=HREP.out.one;by_cases u1:(row.length:Int)=I
  ·subst u1;by_cases u2:k<nx
   ·have u2I:¬(nx:Int)<=(k:Int):=by omega
    have hv:=HV2.out;rw[if_pos ⟨rfl,u2⟩] at hv;have HV3:=Aa.mk hv;clear hv HV2
    iterate 8 all_goals try first|apply spl<;>intro h|simp (disch:=first|assumption|omega|simp) [*]
    refine LX.ind (fun m gf H'=>∃ (i:Nat) (gM:Gb) (n2 nz:Nat),i<=row.length/\m=row.length-i/\H'=⟨.fn gM,n2⟩/\n<n2/\Aa (∀ b,b<n->gM b=g b)/\gM n=some (.cells [.li (row.length:Int),.li O,sv] true 0) /\
     Aa (goT (row.length:Int) O T 0 1=b0x (row.length:Int) O (T.drop (k+1)) k (row.drop i) nz)/\nz<=1+k*1000000+i/\gf 1=some (.ptr n 0)/\gf 3=some (.li nz)/\gf 37=some sv/\gf 38=some (.li T.length)/\gf 39=some (.li k) /\
     gf 54=some q1/\gf 55=some (.li row.length)/\gf 56=some (.li i)) (m0:=row.length) ?_ ?_
    ·exact⟨0,gL,n',nx,Dt _,rfl,rfl,hn',HG,hgn,HV3,by omega,by simp[*]⟩
    rintro m gf H' ⟨i,gM,n2,nz,hi,rfl,rfl,hn2,HGM,hgMn,HVM,hnz,x1,x3,x37,x38,x39,x54,x55,x56⟩ ih2;refine rnd [] (by decide +kernel) ?_;by_cases hlt2:i<row.length
    ·have hlt2I:(i:Int)<(row.length:Int):=by omega
     obtain⟨a3,of3,ha3,hia3,hc3⟩:=c1l.at HREP.out hlt2;rw[<- HGM.out a3 ha3] at hc3;have hdr:row.drop i=row[i] :: row.drop (i+1):=El hlt2;have hv:=HVM.out;rw[hdr,g0a] at hv;have HV4:=Aa.mk hv;clear hv HVM hdr;generalize row[i]=e at *;obtain⟨to,out⟩:=e;simp only[edC] at hc3;by_cases e1:to = -1
     ·subst e1;by_cases e2:out = -1
      ·subst e2;have hv2:goT (row.length:Int) O T 0 1=b0x (row.length:Int) O (T.drop (k+1)) k (row.drop (i+1)) nz:=by rw[HV4.out];simp[a1w]
       iterate 8 all_goals try first|apply spl<;>intro h|simp (disch:=first|assumption|omega|simp) [*]
       refine ih2.out (row.length-(i+1)) _ _ (by omega) ⟨i+1,_,_,nz,by omega,rfl,rfl,by omega,⟨fun b hb=>(Ad (by omega)).trans (HGM.out b hb)⟩,(Ad (by omega)).trans hgMn,⟨hv2⟩,by omega,by simp[*]⟩
      ·by_cases e3:out = -2
       ·subst e3;have hv2:goT (row.length:Int) O T 0 1=b0x (row.length:Int) O (T.drop (k+1)) k (row.drop (i+1)) nz:=by rw[HV4.out];simp[a1w]
        iterate 8 all_goals try first|apply spl<;>intro h|simp (disch:=first|assumption|omega|simp) [*]
        refine ih2.out (row.length-(i+1)) _ _ (by omega) ⟨i+1,_,_,nz,by omega,rfl,rfl,by omega,⟨fun b hb=>(Ad (by omega)).trans (HGM.out b hb)⟩,(Ad (by omega)).trans hgMn,⟨hv2⟩,by omega,by simp[*]⟩
       ·have e4:¬(-1:Int)=(nz:Int):=by omega
        have hv2:goT (row.length:Int) O T 0 1=none:=by rw[HV4.out];simp[a1w,e2,e3,e4]
        have hr:ret=1:=by rw[HRET.out,hv2];simp
        clear hv2
        iterate 8 all_goals try first|apply spl<;>intro h|simp (disch:=first|assumption|omega|simp) [*]
        exact⟨g4o (g5z hn2),fun b (hb:b<n)=>(Ad (by omega)).trans (HGM.out b hb)⟩
     ·by_cases e4:to=(nz:Int)
      ·subst e4;by_cases e5:0<=out
       ·by_cases e6:out<O
        ·have hv2:goT (row.length:Int) O T 0 1=b0x (row.length:Int) O (T.drop (k+1)) k (row.drop (i+1)) (nz+1):=by rw[HV4.out];simp[a1w,e1,e5,e6]
         iterate 8 all_goals try first|apply spl<;>intro h|simp (disch:=first|assumption|omega|simp) [*]
         refine ih2.out (row.length-(i+1)) _ _ (by omega) ⟨i+1,_,_,(nz+1),by omega,rfl,rfl,by omega,⟨fun b hb=>(Ad (by omega)).trans (HGM.out b hb)⟩,(Ad (by omega)).trans hgMn,⟨hv2⟩,by omega,by simp[*]⟩
        ·have hv2:goT (row.length:Int) O T 0 1=none:=by rw[HV4.out];simp[a1w,e1,e6]
         have hr:ret=1:=by rw[HRET.out,hv2];simp
         clear hv2
         iterate 8 all_goals try first|apply spl<;>intro h|simp (disch:=first|assumption|omega|simp) [*]
         exact⟨g4o (g5z hn2),fun b (hb:b<n)=>(Ad (by omega)).trans (HGM.out b hb)⟩
       ·have hv2:goT (row.length:Int) O T 0 1=none:=by rw[HV4.out];simp[a1w,e1,e5]
        have hr:ret=1:=by rw[HRET.out,hv2];simp
        clear hv2
        iterate 8 all_goals try first|apply spl<;>intro h|simp (disch:=first|assumption|omega|simp) [*]
        exact⟨g4o (g5z hn2),fun b (hb:b<n)=>(Ad (by omega)).trans (HGM.out b hb)⟩
      ·have hv2:goT (row.length:Int) O T 0 1=none:=by rw[HV4.out];simp[a1w,e1,e4]
       have hr:ret=1:=by rw[HRET.out,hv2];simp
       clear hv2
       iterate 8 all_goals try first|apply spl<;>intro h|simp (disch:=first|assumption|omega|simp) [*]
       exact⟨g4o (g5z hn2),fun b (hb:b<n)=>(Ad (by omega)).trans (HGM.out b hb)⟩
    ·have hlt2I:¬(i:Int)<(row.length:Int):=by omega
     have hi2:i=row.length:=by omega
     have hv:=HVM.out;rw[hi2,g4t] at hv;have HV4:=Aa.mk (show goT (row.length:Int) O T 0 1=goT (row.length:Int) O (T.drop (k+1)) (k+1) nz from hv);clear hv HVM hi2
     iterate 8 all_goals try first|apply spl<;>intro h|simp (disch:=first|assumption|omega|simp) [*]
     refine ih.out (T.length-(k+1)) _ _ (by omega) ⟨k+1,gM,n2,nz,by omega,rfl,rfl,hn2,HGM,hgMn,HV4,by omega,by simp[*]⟩
   ·have u2I:(nx:Int)<=(k:Int):=by omega
    have hv:=HV2.out;rw[if_neg (fun h=>u2 h.2)] at hv;have hr:ret=1:=by rw[HRET.out,hv];simp
    clear hv
    iterate 8 all_goals try first|apply spl<;>intro h|simp (disch:=first|assumption|omega|simp) [*]
    exact⟨g4o hn',fun b hb=>HG.out b hb⟩
  ·have hv:=HV2.out;rw[if_neg (fun h=>u1 h.1)] at hv;have hr:ret=1:=by rw[HRET.out,hv];simp
   clear hv
   iterate 8 all_goals try first|apply spl<;>intro h|simp (disch:=first|assumption|omega|simp) [*]
   exact⟨g4o hn',fun b hb=>HG.out b hb⟩
 ·have hltI:¬(k:Int)<(T.length:Int):=by omega
  have hk2:k=T.length:=by omega
  have hv:=HV.out;rw[hk2,g4t] at hv;have hv' : goT I O T 0 1=some nx:=hv;clear hk2 hv HV;by_cases u3:nx=T.length
  ·rw[u3] at w3;have hr:ret=0:=by rw[HRET.out,hv',u3];simp
   clear hv' u3
   iterate 8 all_goals try first|apply spl<;>intro h|simp (disch:=first|assumption|omega|simp) [*]
   exact⟨g4o hn',fun b hb=>HG.out b hb⟩
  ·have u3I:¬(nx:Int)=(T.length:Int):=by omega
   have hr:ret=1:=by rw[HRET.out,hv',if_neg (fun h=>u3 (by injection h))]
   clear hv'
   iterate 8 all_goals try first|apply spl<;>intro h|simp (disch:=first|assumption|omega|simp) [*]
   exact⟨g4o hn',fun b hb=>HG.out b hb⟩
theorem d6j {I:Nat} {ts:Lq} : (a0g I ts).length=(Ck ts).length:=b4l
end Go.Ai
end
section
namespace Go.Ai
open Go.Proofs Go.Proofs.Tryz
set_option maxRecDepth 10000
set_option maxHeartbeats 40000000
end Go.Ai
end
section
namespace Go.Ai
set_option maxRecDepth 10000
def Bf (rows:Tq) : Int->Wd->Option (Wd)
 | _,[]=>some []
 | a,i :: w=>if ((rows.getD a.toNat []).getD i.toNat (-1,-1)).1 = -1 then (if ((rows.getD a.toNat []).getD i.toNat (-1,-1)).2 = -2 then some (List.replicate (w.length+1) (-1)) else none) else (Bf rows ((rows.getD a.toNat []).getD i.toNat (-1,-1)).1 w).map (((rows.getD a.toNat []).getD i.toNat (-1,-1)).2 :: ·)
end Go.Ai
end
section
namespace Go.Ai
set_option maxRecDepth 10000
theorem g0d {I:Nat} {O:Int} {ts:Lq} (hv:∀ t∈ts,a1a I O t=true) (hc:a5l ts) : Nod (valT ts) (Ck ts):=by
 obtain⟨us,hN,_⟩:=d6b (I:=I) _ ts rfl hc hv;exact⟨(c6w hv).1.nodup,fun w=>b4p hv hc w,hN.clo⟩
end Go.Ai
end
section
namespace Go.Ai
open Go.Proofs Go.Proofs.Tryz
set_option maxRecDepth 10000
set_option maxHeartbeats 40000000
theorem c1m (l:Wq) (hl:l.length<=1000000) (hw:∀ w∈l,w.length<=1000000) (g:Gb) (n:Nat) (sv:AV) (svs:List AV) (hsv:Af g n sv l.length svs) (hr:RowsW g n l svs) :
  WC 0 prog 78 [sv] ⟨.fn g,n⟩ fun r=>r=.ret (.li (longM l:Nat)) ⟨.fn g,n⟩:=by
 have hlen:=@Am prog _ _ _ _ _ hsv;have HS:=Aa.mk hsv;have HR:=Aa.mk hr;have HW:=Aa.mk hw;clear hsv hr hw;refine ent [] func78 rfl (by decide +kernel) (by kernel_rfl) ?_
 iterate 6 all_goals try first|apply spl<;>intro h|simp (disch:=first|assumption|omega|simp) [*]
 refine LX.ind (fun m gf H'=>∃ (k:Nat),k<=l.length/\m=l.length-k/\H'=⟨.fn g,n⟩/\gf 3=some (.li (longM (l.take k) : Nat))/\gf 6=some sv/\gf 7=some (.li l.length)/\gf 8=some (.li k)) (m0:=l.length) ?_ ?_
 ·exact⟨0,Dt _,rfl,rfl,by simp[longM],by simp[*]⟩
 rintro m gf H' ⟨k,hk,rfl,rfl,w3,w6,w7,w8⟩ ih;refine rnd [] (by decide +kernel) ?_;by_cases hlt:k<l.length
 ·have hltI:(k:Int)<(l.length:Int):=by omega
  obtain⟨w1,hw1,hrep⟩:=HR.out.2 k hlt;obtain⟨a2,off,ha2,hrow,hia⟩:=HS.out.ia (P:=prog) hlt 1;simp only[Ea] at hia;have hkl:k<svs.length:=(Eb.1 hw1).1;have hcell:=hrow.one (k:=k) (s:=1) hkl;rw[(Eb.1 hw1).2] at hcell;have hlen1:=@Am prog _ _ _ _ _ hrep;have htk:l.take (k+1)=l.take k++[l[k]]:=by rw[g5j,Dy hlt];rfl
  have hml:longM (l.take (k+1))=max (longM (l.take k)) l[k].length:=by rw[htk,longM_snoc]
  have hwl:=HW.out _ (Ds hlt);have hmx:longM (l.take k)<=1000000:=b6t fun w hw=>HW.out w (g4d hw);have HML:=Aa.mk hml;clear hml htk hrow hrep hw1 ha2;generalize l[k]=w at *;have hdrop:∀ mm:Nat,mm=longM (l.take (k+1))->mm=longM (l.take (k+1)):=fun _ h=>h;clear hdrop;generalize hq:longM (l.take k)=q at *;by_cases hm:q<w.length
  ·have hmI:(q:Int)<(w.length:Int):=by omega
   iterate 6 all_goals try first|apply spl<;>intro h|simp (disch:=first|assumption|omega|simp) [*]
   refine ih.out (l.length-(k+1)) _ _ (by omega) ⟨k+1,by omega,rfl,rfl,?_,by simp[*]⟩;rw[HML.out,Nat.max_eq_right (by omega)];simp
  ·have hmI:¬(q:Int)<(w.length:Int):=by omega
   iterate 6 all_goals try first|apply spl<;>intro h|simp (disch:=first|assumption|omega|simp) [*]
   refine ih.out (l.length-(k+1)) _ _ (by omega) ⟨k+1,by omega,rfl,rfl,?_,by simp[*]⟩;rw[HML.out,Nat.max_eq_left (by omega)];simp
 ·have hltI:¬(k:Int)<(l.length:Int):=by omega
  have hk2:k=l.length:=by omega
  rw[hk2,g4n] at w3;clear hk2
  iterate 6 all_goals try first|apply spl<;>intro h|simp (disch:=first|assumption|omega|simp) [*]
end Go.Ai
end
section
namespace Go.Ai
open Go.Proofs Go.Proofs.Tryz
set_option maxRecDepth 10000
set_option maxHeartbeats 40000000
end Go.Ai
end
section
namespace Go.Ai
open Go.Proofs Go.Proofs.Tryz
set_option maxRecDepth 10000
set_option maxHeartbeats 40000000
end Go.Ai
end
section
namespace Go.Ai
open Go.Proofs Go.Proofs.Tryz
set_option maxRecDepth 10000
set_option maxHeartbeats 40000000
def kb (i:Int) : AV:=.lit (.int .u8 (i+1))
def a6f (w:Wd) (k:Nat) : List AV:=(w.take k).map kb++List.replicate (w.length-k) (.lit (.int .u8 0))
theorem d6k (w:Wd) (k:Nat) (h:k<=w.length) : (a6f w k).length=w.length:=by
 unfold a6f;rw[Dr,Ei,Du,List.length_replicate];omega
theorem d6l (w:Wd) (k:Nat) (h:k<w.length) : (a6f w k).set k (kb w[k])=a6f w (k+1):=by
 unfold a6f;have e1:((w.take k).map kb).length=k:=by rw[Ei,Du];omega
 rw[g6g _ _ (by omega),e1,g4u,show w.length-k=(w.length-(k+1))+1 by omega,g6c,g6w,g5j,Dy h];simp only[Option.toList_some,g3z,g4j,List.map_nil,g4q,g6i,g6q]
theorem d6m (w:Wd) : a6f w w.length=w.map kb:=by
 unfold a6f;rw[g4n,g4u];simp
def a1z (w:Wd) : List UInt8:=w.map fun i=>UInt8.ofNat (i+1).toNat
theorem bytes_key:∀ (w:Wd),bytesOf (w.map kb)=some (a1z w)
 | []=>rfl
 | i :: w=>by
  show bytesOf (.lit (.int .u8 (i+1)) :: w.map kb)=_;rw[d3f,bytes_key w,d3g];rfl
def Bu (w:Wd) : ByteArray:=⟨(a1z w).toArray⟩
theorem d6n {a:Int} (h1:0<=a) (h2:a<=255) : IntKind.u8.wrap a=a:=by
 have:=c9p (m:=a.toNat) (by omega)
 rwa [show (Int.ofNat a.toNat)=a by simp;omega] at this
theorem mk42:mkI prog 42=some (.lit (.int .u8 0)):=by kernel_rfl
attribute [simp] mk42
theorem c1n (w:Wd) (hwl:w.length<=300) (hin:∀ i∈w,0<=i/\i<16) (g:Gb) (n:Nat) (sv:AV) (hsv:Aj g n w sv) :
  WC 0 prog 52 [sv] ⟨.fn g,n⟩ fun r=>r=.ret (.lit (.string (Bu w))) ⟨.fn g,n⟩:=by
 refine WC.drop1 rfl ?_;have hlen:=@Am prog _ _ _ _ _ hsv;have HS:=Aa.mk hsv;have HIN:=Aa.mk hin;clear hsv hin;refine ent [] func52 rfl (by decide +kernel) (by kernel_rfl) ?_
 iterate 6 all_goals try first|apply spl<;>intro h|simp (disch:=first|assumption|omega|simp) [*]
 refine LX.ind (fun m gf H'=>∃ (k:Nat) (gL:Gb) (L:List AV),k<=w.length/\m=w.length-k/\H'=⟨.fn gL,n+1⟩/\Aa (∀ b,b<n->gL b=g b)/\gL n=some (.cells L true 0)/\Aa (L=a6f w k) /\
  gf 3=some (.sl n 0 w.length w.length)/\gf 9=some sv/\gf 10=some (.li w.length)/\gf 11=some (.li k)) (m0:=w.length) ?_ ?_
 ·refine⟨0,_,_,Dt _,rfl,rfl,⟨fun b hb=>Ad hb⟩,Ag,⟨?_⟩,by simp[*]⟩;simp[a6f]
 rintro m gf H' ⟨k,gL,L,hk,rfl,rfl,HG,hgn,HL,w3,w9,w10,w11⟩ ih;have hLl:L.length=w.length:=by rw[HL.out];exact d6k w k hk
 refine rnd [] (by decide +kernel) ?_;by_cases hlt:k<w.length
 ·have hltI:(k:Int)<(w.length:Int):=by omega
  obtain⟨a2,off,ha2,hrow,hia⟩:=Af.ia (P:=prog) HS.out hlt 1;simp only[Ea] at hia;have hcell:=(hrow.mono (HG.out a2 ha2)).one (k:=k) (s:=1) (by rw[Bl];exact hlt);rw[(Eb.1 (a7a w k hlt)).2] at hcell;have hb:=HIN.out _ (Ds hlt);have hset:=d6l w k hlt;rw[<- HL.out] at hset;have HSET:=Aa.mk hset;clear hset hrow;generalize w[k]=x at *;have hw8:IntKind.u8.wrap (x+1)=x+1:=d6n (by omega) (by omega);have hkL:k<L.length:=by omega
  iterate 6 all_goals try first|apply spl<;>intro h|simp (disch:=first|assumption|omega|simp) [*]
  refine ih.out (w.length-(k+1)) _ _ (by omega) ⟨k+1,_,L.set k (kb x),by omega,rfl,rfl,⟨fun b hb=>(Ad hb).trans (HG.out b hb)⟩,Ag,⟨HSET.out⟩,by simp[*]⟩
 ·have hltI:¬(k:Int)<(w.length:Int):=by omega
  have hk2:k=w.length:=by omega
  have hby:bytesOf (List.take w.length L)=some (a1z w):=by rw[Ee (by omega),HL.out,hk2,d6m];exact bytes_key w
  clear hk2
  iterate 6 all_goals try first|apply spl<;>intro h|simp (disch:=first|assumption|omega|simp) [*]
  exact⟨_,⟨rfl,rfl⟩,Dx n,fun b hb=>HG.out b hb⟩
end Go.Ai
end
section
namespace Go.Ai
open Go.Proofs Go.Proofs.Tryz
set_option maxRecDepth 10000
set_option maxHeartbeats 40000000
theorem c6z (s:ByteArray) (l:List ByteArray) (i:Nat) : a5e s (l.zipIdx i)=l.contains s:=by
 haveI:=ba_lawful
 induction l generalizing i with
 | nil=>rfl
 | cons b l ih =>
  have:=ih (i+1);unfold a5e at this |-;rw[List.zipIdx_cons,List.any_cons,this,List.contains_cons];by_cases h:b=s
  ·subst h;simp
  ·have h2:¬(s=b):=fun e=>h e.symm;simp[h,h2]
theorem c7a {w:Wd} {q:Int} (h:Dk w q=0) : w.length<=256/\∀ i∈w,0<=i/\i<16:=by
 unfold Dk at h;split at h
 ·cases h
 ·rename_i h1;split at h
  ·cases h
  ·rename_i h2;have h3:inW w q=true:=by
    cases hb:inW w q with
    | true=>rfl
    | false=>exact absurd (.inr hb) h2
   refine⟨by omega,fun i hi=>?_⟩;have h4:=Ec.1 h3 i hi;have h5:0<=i/\i<q:=by simpa using h4
   omega
def a0a (l:Wq) : List ByteArray:=l.map Bu
def Di (q:Int) (S:Wq) (k:Nat) (w:Wd) : Bool :=
 decide (k=0↔w.length=0) && decide (Dk w q=0) && !((a0a (S.take k)).contains (Bu w)) && (decide (k=0) || (a0a (S.take k)).contains (Bu (w.take (w.length-1))))
def b0y (q:Int) (S:Wq) : Bool:=((List.range S.length).all fun j=>Di q S j (S.getD j [])) && decide (0<S.length)
theorem g0e (w:Wd) (m:Nat) : wdC (w.take m)=(wdC w).take m:=by simp[wdC,List.map_take]
theorem b7y (l:Wq) (w:Wd) {k:Nat} (h:l.length=k) : a2k ((a0a (l++[w])).zipIdx)=a2k ((a0a l).zipIdx++[(Bu w,k)]):=by
 unfold a0a;rw[g3z,List.zipIdx_append,Ei,h];simp
theorem g0f (q c1 c4 c5:Int) (c3 c6:AV) (h3:oneC c3=true) (h6:oneC c6=true) (S:Wq) (hl:S.length<=1000000) (hw:∀ w∈S,w.length<=1000000) (g:Gb) (n:Nat) (sv:AV) (svs:List AV) (hsv:Af g n sv S.length svs) (hr:RowsW g n S svs) (hcap:∀ q∈svs,Bm q) :
  WC 0 prog 88 [.agg [.li q,.li c1,sv,c3,.li c4,.li c5,c6]] ⟨.fn g,n⟩ fun r=>r=.ret (.lit (.bool (b0y q S))) ⟨.fn g,n⟩:=by
 refine WC.drop1 rfl ?_;have hlen:=@Am prog _ _ _ _ _ hsv;have h1s:=hsv.one;have hone:allOne [.li q,.li c1,sv,c3,.li c4,.li c5,c6]=true:=by simp[h1s,h3,h6]
 have HS:=Aa.mk hsv;have HR:=Aa.mk hr;have HW:=Aa.mk hw;have HCAP:=Aa.mk hcap;clear hsv hr hw hcap;obtain⟨ret,hret⟩ : ∃ b,b=b0y q S:=⟨_,rfl⟩;rw[<- hret];have HRET:=Aa.mk hret;clear hret;refine ent [] func88 rfl (by decide +kernel) (by kernel_rfl) ?_
 iterate 8 all_goals try first|apply spl<;>intro h|simp (disch:=first|assumption|omega|simp) [*]
 refine LX.ind (fun m gf H'=>∃ (k:Nat) (gL:Gb),k<=S.length/\m=S.length-k/\H'=⟨.fn gL,n+1+1⟩/\Aa (∀ b,b<n->gL b=g b)/\gL n=some (.cells [.li q,.li c1,sv,c3,.li c4,.li c5,c6] true 0)/\gL (n+1)=some (.map (a2k ((a0a (S.take k)).zipIdx)) k) /\
  Aa (∀ j,j<k->Di q S j (S.getD j [])=true)/\gf 1=some (.ptr n 0)/\gf 3=some (.map (n+1))/\gf 8=some sv/\gf 9=some (.li S.length)/\gf 10=some (.li k)) (m0:=S.length) ?_ ?_
 ·refine⟨0,_,Dt _,rfl,rfl,⟨fun b hb=>(Ad (by omega)).trans (Ad hb)⟩,(Ad (by omega)).trans Ag,Ag,⟨fun j hj=>by omega⟩,by simp[*]⟩
 rintro m gf H' ⟨k,gL,hk,rfl,rfl,HG,hgn,hgm,HPRE,w1,w3,w8,w9,w10⟩ ih;refine rnd [] (by decide +kernel) ?_;by_cases hlt:k<S.length
 ·have hltI:(k:Int)<(S.length:Int):=by omega
  obtain⟨q1,hw1,hrep⟩:=HR.out.2 k hlt;obtain⟨a2,off,ha2,hrow,hia⟩:=HS.out.ia (P:=prog) hlt 1;simp only[Ea] at hia;have hkl:k<svs.length:=(Eb.1 hw1).1;have hcell:=(hrow.mono (HG.out a2 ha2)).one (k:=k) (s:=1) hkl;rw[(Eb.1 hw1).2] at hcell;have hrep' : Aj gL (n+1+1) S[k] q1:=Af.mono (by omega) (fun a ha=>HG.out a ha) hrep;have hlw:=@Am prog _ _ _ _ _ hrep;have hgd:S.getD k []=S[k]:=by rw[g3s,Dy hlt];rfl
  have htk:S.take (k+1)=S.take k++[S[k]]:=by rw[g5j,Dy hlt];rfl
  have hbad:Di q S k S[k]=false->ret=false:=fun h=>by
   rw[HRET.out];unfold b0y;rw[Bool.and_eq_false_iff];left;rw[List.all_eq_false];exact⟨k,by simp[hlt],by rw[hgd,h];simp⟩
  have hnext:Di q S k S[k]=true->∀ j,j<k+1->Di q S j (S.getD j [])=true:=fun h j hj=>by
   by_cases e:j=k
   ·subst e;rw[hgd];exact h
   ·exact HPRE.out j (by omega)
  have hwl:=HW.out _ (Ds hlt);have hcq:Bm q1:=HCAP.out q1 (En hw1);have HCQ:=Aa.mk hcq;clear hcq;have HREP:=Aa.mk hrep';have HT:=Aa.mk htk;have HB:=Aa.mk hbad;have HN:=Aa.mk hnext;clear htk hrow hrep hrep' hw1 ha2 hbad hnext hgd;generalize S[k]=w at *;have hks:=Aa.mk (c6z (Bu w) (a0a (S.take k)) 0);have HC:=Aa.mk (d5m w hwl q gL (n+1+1) q1 HREP.out);have hbad1:¬(k=0↔w.length=0)->ret=false:=fun h=>HB.out (by unfold Di;rw[decide_eq_false h,g4g,g4g,g4g]);have HB1:=Aa.mk hbad1;clear hbad1;have hbad2:¬Dk w q=0->ret=false:=fun h=>HB.out (by unfold Di;rw[decide_eq_false h,g5b,g4g,g4g]);have HB2:=Aa.mk hbad2;clear hbad2;by_cases hk0:k=0
  ·subst hk0;have hia0:∀ {H:Mem} {ev:Ev} {o:Oper} {t:TypeId},iaS prog H ev o t (some (none,1)) (some sv) (some (.li 0))=.val (.ptr a2 off) H:=fun {H ev o t}=>hia;have hcell0:Be (some (false,1)) (gL a2) off=some q1:=hcell;have hlt0:(0:Int)<(S.length:Int):=by omega
   clear hia hcell;by_cases hw0:w.length=0
   ·have hwI:(w.length:Int)=0:=by omega
    iterate 8 all_goals try first|apply spl<;>intro h|simp (disch:=first|assumption|omega|simp) [*]
    refine WC.mono HC.out ?_;rintro _ rfl;by_cases he:Dk w q=0
    ·obtain⟨hw256,hwin⟩:=c7a he;have HKEY:=Aa.mk (c1n w (by omega) hwin gL (n+1+1) q1 HREP.out);clear hwin;have HEND:Aa (Di q S 0 w=true):=⟨by
      unfold Di;rw[decide_eq_true (by omega:0=0↔w.length=0),decide_eq_true he,decide_eq_true rfl];simp[a0a]⟩
     rw[he];have hgm0:gL (n+1)=some (Blk.map (a2k []) 0):=hgm;have hin0:a5e (Bu w) []=false:=rfl;clear hgm
     iterate 8 all_goals try first|apply spl<;>intro h|simp (disch:=first|assumption|omega|simp) [*]
     refine WC.mono HKEY.out ?_;rintro _ rfl
     iterate 8 all_goals try first|apply spl<;>intro h|simp (disch:=first|assumption|omega|simp) [*]
     refine WC.mono HKEY.out ?_;rintro _ rfl
     iterate 8 all_goals try first|apply spl<;>intro h|simp (disch:=first|assumption|omega|simp) [*]
     refine ih.out (S.length-(0+1)) _ _ (by omega) ⟨0+1,_,by omega,rfl,rfl,⟨fun b hb=>(Ad (by omega)).trans (HG.out b hb)⟩,(Ad (by omega)).trans hgn,?_,⟨HN.out HEND.out⟩,by simp[*]⟩;rw[HT.out,b7y (k:=0) _ _ (by simp)];simp[a0a]
    ·have hr:=HB2.out he
     iterate 8 all_goals try first|apply spl<;>intro h|simp (disch:=first|assumption|omega|simp) [*]
     exact⟨by show n<=n+1+1;omega,fun b hb=>HG.out b hb⟩
   ·have hwI:¬(w.length:Int)=0:=by omega
    have hr:=HB1.out (fun h=>hw0 (h.1 rfl))
    iterate 8 all_goals try first|apply spl<;>intro h|simp (disch:=first|assumption|omega|simp) [*]
    exact⟨by show n<=n+1+1;omega,fun b hb=>HG.out b hb⟩
  ·by_cases hw0:w.length=0
   ·have hkI:¬(k:Int)=0:=by omega
    have hwI:(w.length:Int)=0:=by omega
    have hr:=HB1.out (fun h=>hk0 (h.2 hw0))
    iterate 8 all_goals try first|apply spl<;>intro h|simp (disch:=first|assumption|omega|simp) [*]
    exact⟨by show n<=n+1+1;omega,fun b hb=>HG.out b hb⟩
   ·have hkI:¬(k:Int)=0:=by omega
    have hkP:0<(k:Int):=by omega
    have hwI:¬(w.length:Int)=0:=by omega
    have hwP:0<w.length:=by omega
    iterate 8 all_goals try first|apply spl<;>intro h|simp (disch:=first|assumption|omega|simp) [*]
    refine WC.mono HC.out ?_;rintro _ rfl;by_cases he:Dk w q=0
    ·obtain⟨hw256,hwin⟩:=c7a he;have HKEY:=Aa.mk (c1n w (by omega) hwin gL (n+1+1) q1 HREP.out);have HWIN:=Aa.mk hwin;clear hwin;rw[he]
     iterate 8 all_goals try first|apply spl<;>intro h|simp (disch:=first|assumption|omega|simp) [*]
     refine WC.mono HKEY.out ?_;rintro _ rfl;by_cases hc3:(a0a (S.take k)).contains (Bu w)=true
     ·have hin:=hks.out.trans hc3;have hr:ret=false:=HB.out (by unfold Di;rw[hc3,Bool.not_true,g5b,g4g]);clear hc3
      iterate 8 all_goals try first|apply spl<;>intro h|simp (disch:=first|assumption|omega|simp) [*]
      exact⟨by show n<=n+1+1;omega,fun b hb=>HG.out b hb⟩
     have hc3' : (a0a (S.take k)).contains (Bu w)=false:=by simpa using hc3
     have hin:=hks.out.trans hc3';have HC3:=Aa.mk hc3';clear hc3 hc3';obtain⟨m,hm⟩ : ∃ m,w.length=m+1:=⟨w.length-1,by omega⟩;have hkN:0<k:=by omega
     have HK2:=Aa.mk (show ∀ (a off:Nat) (sv' : AV),a<n+1+1->((∃ c,sv'=.sl a off m c)\/∃ c,sv'=.slq a off m c)->Row gL a off (wdC w)->WC 0 prog 52 [sv'] ⟨.fn gL,n+1+1⟩ fun r=>r=.ret (.lit (.string (Bu (w.take m)))) ⟨.fn gL,n+1+1⟩ from
      fun a off sv' ha hs hr=>c1n (w.take m) (by rw[Du];omega) (fun i hi=>HWIN.out i (g4d hi)) gL (n+1+1) sv' (.inr ⟨a,off,ha,by rw[Du,g4a (by omega)];exact hs,by rw[g0e];exact hr.takes m⟩))
     have hks2:=Aa.mk (c6z (Bu (w.take m)) (a0a (S.take k)) 0);have HLW:=Aa.mk @hlw;have HE:=Aa.mk he;clear hlw he;rcases HREP.out with⟨h1,_⟩|⟨a,off,han,⟨c,hq⟩|⟨c,hq⟩,hrow⟩
     ·omega
     ·subst hq;have hcc:=HCQ.out _ _ _ _ rfl;have hcc2:m<=c:=by omega
      have hcc3:0<c:=by omega
      have hkm:=HKEY.out;rw[hm] at hkm;have HKM:=Aa.mk hkm;clear hkm;have HK3:=Aa.mk (HK2.out a off (.sl a off m c) han (.inl ⟨c,rfl⟩) hrow);clear hrow
      iterate 8 all_goals try first|apply spl<;>intro h|simp (disch:=first|assumption|omega|simp) [*]
      refine WC.mono HK3.out ?_;rintro _ rfl;by_cases hc4:(a0a (S.take k)).contains (Bu (w.take m))=true
      ·have hin2:=hks2.out.trans hc4;clear hc4
       iterate 8 all_goals try first|apply spl<;>intro h|simp (disch:=first|assumption|omega|simp) [*]
       refine WC.mono HKM.out ?_;rintro _ rfl;have HEND:Aa (Di q S k w=true):=⟨by
        unfold Di;rw[decide_eq_true (by omega:k=0↔w.length=0),decide_eq_true HE.out,HC3.out,decide_eq_false hk0,show w.length-1=m by omega,(hks2.out.symm.trans hin2)];rfl⟩
       iterate 8 all_goals try first|apply spl<;>intro h|simp (disch:=first|assumption|omega|simp) [*]
       refine ih.out (S.length-(k+1)) _ _ (by omega) ⟨k+1,_,by omega,rfl,rfl,⟨fun b hb=>(Ad (by omega)).trans (HG.out b hb)⟩,(Ad (by omega)).trans hgn,?_,⟨HN.out HEND.out⟩,by simp[*]⟩;rw[HT.out,b7y (k:=k) _ _ (by rw[Du];omega)];simp[g4a hk]
      ·have hc4' : (a0a (S.take k)).contains (Bu (w.take m))=false:=by simpa using hc4
       have hin2:=hks2.out.trans hc4';have hr:ret=false:=HB.out (by unfold Di;rw[show w.length-1=m by omega,hc4',g5h,decide_eq_false hk0,g5b]);clear hc4 hc4'
       iterate 8 all_goals try first|apply spl<;>intro h|simp (disch:=first|assumption|omega|simp) [*]
       exact⟨by show n<=n+1+1;omega,fun b hb=>HG.out b hb⟩
     ·subst hq;have hkm:=HKEY.out;rw[hm] at hkm;have HKM:=Aa.mk hkm;clear hkm;have HK3:=Aa.mk (HK2.out a off (.slq a off m c) han (.inr ⟨c,rfl⟩) hrow);clear hrow
      iterate 8 all_goals try first|apply spl<;>intro h|simp (disch:=first|assumption|omega|simp) [*]
      refine WC.mono HK3.out ?_;rintro _ rfl;by_cases hc4:(a0a (S.take k)).contains (Bu (w.take m))=true
      ·have hin2:=hks2.out.trans hc4;clear hc4
       iterate 8 all_goals try first|apply spl<;>intro h|simp (disch:=first|assumption|omega|simp) [*]
       refine WC.mono HKM.out ?_;rintro _ rfl;have HEND:Aa (Di q S k w=true):=⟨by
        unfold Di;rw[decide_eq_true (by omega:k=0↔w.length=0),decide_eq_true HE.out,HC3.out,decide_eq_false hk0,show w.length-1=m by omega,(hks2.out.symm.trans hin2)];rfl⟩
       iterate 8 all_goals try first|apply spl<;>intro h|simp (disch:=first|assumption|omega|simp) [*]
       refine ih.out (S.length-(k+1)) _ _ (by omega) ⟨k+1,_,by omega,rfl,rfl,⟨fun b hb=>(Ad (by omega)).trans (HG.out b hb)⟩,(Ad (by omega)).trans hgn,?_,⟨HN.out HEND.out⟩,by simp[*]⟩;rw[HT.out,b7y (k:=k) _ _ (by rw[Du];omega)];simp[g4a hk]
      ·have hc4' : (a0a (S.take k)).contains (Bu (w.take m))=false:=by simpa using hc4
       have hin2:=hks2.out.trans hc4';have hr:ret=false:=HB.out (by unfold Di;rw[show w.length-1=m by omega,hc4',g5h,decide_eq_false hk0,g5b]);clear hc4 hc4'
       iterate 8 all_goals try first|apply spl<;>intro h|simp (disch:=first|assumption|omega|simp) [*]
       exact⟨by show n<=n+1+1;omega,fun b hb=>HG.out b hb⟩
    ·have hr:=HB2.out he
     iterate 8 all_goals try first|apply spl<;>intro h|simp (disch:=first|assumption|omega|simp) [*]
     exact⟨by show n<=n+1+1;omega,fun b hb=>HG.out b hb⟩
 ·have hltI:¬(k:Int)<(S.length:Int):=by omega
  have hk2:k=S.length:=by omega
  have hall:((List.range S.length).all fun j=>Di q S j (S.getD j []))=true:=by
   rw[Ec];intro j hj;exact HPRE.out j (by rw[hk2];simpa using hj)
  have hfin:ret=decide (0<S.length):=by rw[HRET.out];unfold b0y;rw[hall,g5c]
  clear hgm hall
  iterate 8 all_goals try first|apply spl<;>intro h|simp (disch:=first|assumption|omega|simp) [*]
  all_goals first|exact fun b hb=>HG.out b hb|exact⟨by show n<=n+1+1;omega,fun b hb=>HG.out b hb⟩|(show n<=n+1+1;omega)
end Go.Ai
end
section
namespace Go.Ai
open Go.Proofs Go.Proofs.Tryz
set_option maxRecDepth 10000
set_option maxHeartbeats 40000000
def a0h (q:Int) (S:Wq) (k:Nat) (w:Wd) : Bool :=
 decide (w.length≠0) && decide (Dk w q=0) && !((a0a (S.take k)).contains (Bu w)) && (decide (q<=(k:Int)) || decide (w=[(k:Int)]))
def b0z (q:Int) (S:Wq) : Bool:=((List.range S.length).all fun j=>a0h q S j (S.getD j [])) && decide (q<=(S.length:Int))
theorem g0g (q c1 c4 c5:Int) (c2 c6:AV) (h2:oneC c2=true) (h6:oneC c6=true) (S:Wq) (hl:S.length<=1000000) (hw:∀ w∈S,w.length<=1000000) (g:Gb) (n:Nat) (sv:AV) (svs:List AV) (hsv:Af g n sv S.length svs) (hr:RowsW g n S svs) :
  WC 0 prog 89 [.agg [.li q,.li c1,c2,sv,.li c4,.li c5,c6]] ⟨.fn g,n⟩ fun r=>r=.ret (.lit (.bool (b0z q S))) ⟨.fn g,n⟩:=by
 refine WC.drop1 rfl ?_;have hlen:=@Am prog _ _ _ _ _ hsv;have h1s:=hsv.one;have hone:allOne [.li q,.li c1,c2,sv,.li c4,.li c5,c6]=true:=by simp[h1s,h2,h6]
 have HS:=Aa.mk hsv;have HR:=Aa.mk hr;have HW:=Aa.mk hw;clear hsv hr hw;obtain⟨ret,hret⟩ : ∃ b,b=b0z q S:=⟨_,rfl⟩;rw[<- hret];have HRET:=Aa.mk hret;clear hret;refine ent [] func89 rfl (by decide +kernel) (by kernel_rfl) ?_
 iterate 8 all_goals try first|apply spl<;>intro h|simp (disch:=first|assumption|omega|simp) [*]
 refine LX.ind (fun m gf H'=>∃ (k:Nat) (gL:Gb),k<=S.length/\m=S.length-k/\H'=⟨.fn gL,n+1+1⟩/\Aa (∀ b,b<n->gL b=g b)/\gL n=some (.cells [.li q,.li c1,c2,sv,.li c4,.li c5,c6] true 0)/\gL (n+1)=some (.map (a2k ((a0a (S.take k)).zipIdx)) k) /\
  Aa (∀ j,j<k->a0h q S j (S.getD j [])=true)/\gf 1=some (.ptr n 0)/\gf 3=some (.map (n+1))/\gf 8=some sv/\gf 9=some (.li S.length)/\gf 10=some (.li k)) (m0:=S.length) ?_ ?_
 ·refine⟨0,_,Dt _,rfl,rfl,⟨fun b hb=>(Ad (by omega)).trans (Ad hb)⟩,(Ad (by omega)).trans Ag,Ag,⟨fun j hj=>by omega⟩,by simp[*]⟩
 rintro m gf H' ⟨k,gL,hk,rfl,rfl,HG,hgn,hgm,HPRE,w1,w3,w8,w9,w10⟩ ih;refine rnd [] (by decide +kernel) ?_;by_cases hlt:k<S.length
 ·have hltI:(k:Int)<(S.length:Int):=by omega
  obtain⟨q1,hw1,hrep⟩:=HR.out.2 k hlt;obtain⟨a2,off,ha2,hrow,hia⟩:=HS.out.ia (P:=prog) hlt 1;simp only[Ea] at hia;have hkl:k<svs.length:=(Eb.1 hw1).1;have hcell:=(hrow.mono (HG.out a2 ha2)).one (k:=k) (s:=1) hkl;rw[(Eb.1 hw1).2] at hcell;have hrep' : Aj gL (n+1+1) S[k] q1:=Af.mono (by omega) (fun a ha=>HG.out a ha) hrep;have hlw:=@Am prog _ _ _ _ _ hrep;have hgd:S.getD k []=S[k]:=by rw[g3s,Dy hlt];rfl
  have htk:S.take (k+1)=S.take k++[S[k]]:=by rw[g5j,Dy hlt];rfl
  have hbad:a0h q S k S[k]=false->ret=false:=fun h=>by
   rw[HRET.out];unfold b0z;rw[Bool.and_eq_false_iff];left;rw[List.all_eq_false];exact⟨k,by simp[hlt],by rw[hgd,h];simp⟩
  have hnext:a0h q S k S[k]=true->∀ j,j<k+1->a0h q S j (S.getD j [])=true:=fun h j hj=>by
   by_cases e:j=k
   ·subst e;rw[hgd];exact h
   ·exact HPRE.out j (by omega)
  have hwl:=HW.out _ (Ds hlt);have HREP:=Aa.mk hrep';have HT:=Aa.mk htk;have HB:=Aa.mk hbad;have HN:=Aa.mk hnext;clear htk hrow hrep hrep' hw1 ha2 hbad hnext hgd;generalize S[k]=w at *;have hks:=Aa.mk (c6z (Bu w) (a0a (S.take k)) 0);have HC:=Aa.mk (d5m w hwl q gL (n+1+1) q1 HREP.out);by_cases hw0:w.length=0
  ·have hwI:(w.length:Int)=0:=by omega
   have hr:ret=false:=HB.out (by unfold a0h;rw[decide_eq_false (by omega:¬w.length≠0),g4g,g4g,g4g])
   iterate 8 all_goals try first|apply spl<;>intro h|simp (disch:=first|assumption|omega|simp) [*]
   exact⟨by show n<=n+1+1;omega,fun b hb=>HG.out b hb⟩
  have hwI:¬(w.length:Int)=0:=by omega
  iterate 8 all_goals try first|apply spl<;>intro h|simp (disch:=first|assumption|omega|simp) [*]
  refine WC.mono HC.out ?_;rintro _ rfl;by_cases he:Dk w q=0
  ·obtain⟨hw256,hwin⟩:=c7a he;have HKEY:=Aa.mk (c1n w (by omega) hwin gL (n+1+1) q1 HREP.out);clear hwin;rw[he]
   iterate 8 all_goals try first|apply spl<;>intro h|simp (disch:=first|assumption|omega|simp) [*]
   refine WC.mono HKEY.out ?_;rintro _ rfl;by_cases hc3:(a0a (S.take k)).contains (Bu w)=true
   ·have hin:=hks.out.trans hc3;have hr:ret=false:=HB.out (by unfold a0h;rw[hc3,Bool.not_true,g5b,g4g]);clear hc3
    iterate 8 all_goals try first|apply spl<;>intro h|simp (disch:=first|assumption|omega|simp) [*]
    exact⟨by show n<=n+1+1;omega,fun b hb=>HG.out b hb⟩
   have hc3' : (a0a (S.take k)).contains (Bu w)=false:=by simpa using hc3
   have hin:=hks.out.trans hc3';have HC3:=Aa.mk hc3';have HE:=Aa.mk he;clear hc3 hc3' he;by_cases hqk:q<=(k:Int)
   ·have hqk2:¬(k:Int)<q:=by omega
    have HEND:Aa (a0h q S k w=true):=⟨by
     unfold a0h;rw[decide_eq_true (by omega:w.length≠0),decide_eq_true HE.out,HC3.out,decide_eq_true hqk];rfl⟩
    iterate 8 all_goals try first|apply spl<;>intro h|simp (disch:=first|assumption|omega|simp) [*]
    refine WC.mono HKEY.out ?_;rintro _ rfl
    iterate 8 all_goals try first|apply spl<;>intro h|simp (disch:=first|assumption|omega|simp) [*]
    refine ih.out (S.length-(k+1)) _ _ (by omega) ⟨k+1,_,by omega,rfl,rfl,⟨fun b hb=>(Ad (by omega)).trans (HG.out b hb)⟩,(Ad (by omega)).trans hgn,?_,⟨HN.out HEND.out⟩,by simp[*]⟩;rw[HT.out,b7y (k:=k) _ _ (by rw[Du];omega)];simp[g4a hk]
   ·have hqk2:(k:Int)<q:=by omega
    by_cases hw1:w.length=1
    ·obtain⟨x,rfl⟩ : ∃ x,w=[x]:=List.length_eq_one_iff.1 hw1;obtain⟨a3,of3,ha3,hrow3,hia3⟩:=Af.ia (P:=prog) HREP.out (k:=0) (by simp) 1;have hcell3:=hrow3.one (k:=0) (s:=1) (by simp[wdC]);have hv3:(wdC [x])[0]'(by simp[wdC])=.li x:=rfl;rw[hv3] at hcell3;clear hv3 hrow3 ha3;have hia4:∀ {H:Mem} {ev:Ev} {o:Oper} {t:TypeId},iaS prog H ev o t (some (none,1)) (some q1) (some (.li 0))=.val (.ptr a3 of3) H:=fun {H ev o t}=>hia3;clear hia3;simp only[Nat.add_zero,Nat.zero_mul] at hcell3;by_cases hxk:x=(k:Int)
     ·subst hxk;have HEND:Aa (a0h q S k [(k:Int)]=true):=⟨by
       unfold a0h;rw[decide_eq_true (by simp:([(k:Int)] : Wd).length≠0),decide_eq_true HE.out,HC3.out,decide_eq_true (rfl:[(k:Int)]=[(k:Int)]),g6h];rfl⟩
      iterate 8 all_goals try first|apply spl<;>intro h|simp (disch:=first|assumption|omega|simp) [*]
      refine WC.mono HKEY.out ?_;rintro _ rfl
      iterate 8 all_goals try first|apply spl<;>intro h|simp (disch:=first|assumption|omega|simp) [*]
      refine ih.out (S.length-(k+1)) _ _ (by omega) ⟨k+1,_,by omega,rfl,rfl,⟨fun b hb=>(Ad (by omega)).trans (HG.out b hb)⟩,(Ad (by omega)).trans hgn,?_,⟨HN.out HEND.out⟩,by simp[*]⟩;rw[HT.out,b7y (k:=k) _ _ (by rw[Du];omega)];simp[g4a hk]
     ·have hr:ret=false:=HB.out (by unfold a0h;rw[decide_eq_false hqk,decide_eq_false (by simpa using hxk:¬[x]=[(k:Int)]),g5h,g5b])
      iterate 8 all_goals try first|apply spl<;>intro h|simp (disch:=first|assumption|omega|simp) [*]
      exact⟨by show n<=n+1+1;omega,fun b hb=>HG.out b hb⟩
    ·have hwI1:¬(w.length:Int)=1:=by omega
     have hr:ret=false:=HB.out (by unfold a0h;rw[decide_eq_false hqk,decide_eq_false (fun e=>hw1 (by rw[e];rfl) : ¬w=[(k:Int)]),g5h,g5b])
     iterate 8 all_goals try first|apply spl<;>intro h|simp (disch:=first|assumption|omega|simp) [*]
     exact⟨by show n<=n+1+1;omega,fun b hb=>HG.out b hb⟩
  ·have hr:ret=false:=HB.out (by unfold a0h;rw[decide_eq_false he,g5b,g4g,g4g])
   iterate 8 all_goals try first|apply spl<;>intro h|simp (disch:=first|assumption|omega|simp) [*]
   exact⟨by show n<=n+1+1;omega,fun b hb=>HG.out b hb⟩
 ·have hltI:¬(k:Int)<(S.length:Int):=by omega
  have hk2:k=S.length:=by omega
  have hall:((List.range S.length).all fun j=>a0h q S j (S.getD j []))=true:=by
   rw[Ec];intro j hj;exact HPRE.out j (by rw[hk2];simpa using hj)
  have hfin:ret=decide (q<=(S.length:Int)):=by rw[HRET.out];unfold b0z;rw[hall,g5c]
  clear hgm hall
  iterate 8 all_goals try first|apply spl<;>intro h|simp (disch:=first|assumption|omega|simp) [*]
  all_goals first|exact fun b hb=>HG.out b hb|exact⟨by show n<=n+1+1;omega,fun b hb=>HG.out b hb⟩|(show n<=n+1+1;omega)
end Go.Ai
end
section
namespace Go.Ai
open Go.Proofs Go.Proofs.Tryz
set_option maxRecDepth 10000
set_option maxHeartbeats 40000000
def b2x (S E:Wq) : Int:=if S.length > 64\/E.length > 256\/longM S+1+longM E > 256 then 3 else 0
theorem g0h (q c1 c4 c5:Int) (c6:AV) (h6:oneC c6=true) (S E:Wq) (hl:S.length<=1000000) (hw:∀ w∈S,w.length<=1000000) (hl2:E.length<=1000000) (hw2:∀ w∈E,w.length<=1000000) (g:Gb) (n:Nat) (sv se:AV) (svs ses:List AV) (hsv:Af g n sv S.length svs) (hr:RowsW g n S svs) (hse:Af g n se E.length ses) (hre:RowsW g n E ses) :
  WC 0 prog 90 [.agg [.li q,.li c1,sv,se,.li c4,.li c5,c6]] ⟨.fn g,n⟩ fun r=>r=.ret (.li (b2x S E)) ⟨.fn g,n⟩:=by
 refine WC.drop1 rfl ?_;have hlen:=@Am prog _ _ _ _ _ hsv;have hlen2:=@Am prog _ _ _ _ _ hse;have h1s:=hsv.one;have h1e:=hse.one;have hone:allOne [.li q,.li c1,sv,se,.li c4,.li c5,c6]=true:=by simp[h1s,h1e,h6]
 have HL1:=fun g' (hg' : ∀ b,b<n->g' b=g b)=>c1m S hl hw g' (n+1) sv svs (Af.mono (by omega) (fun a ha=>hg' a ha) hsv) (hr.ext (by omega) fun a x ha hx=>(hg' a ha).trans hx);have HL2:=fun g' (hg' : ∀ b,b<n->g' b=g b)=>c1m E hl2 hw2 g' (n+1) se ses (Af.mono (by omega) (fun a ha=>hg' a ha) hse) (hre.ext (by omega) fun a x ha hx=>(hg' a ha).trans hx);have HA:=Aa.mk HL1;have HB:=Aa.mk HL2;have hmx:longM S<=1000000:=b6t hw;have hmx2:longM E<=1000000:=b6t hw2;clear hsv hr hse hre hw hw2 HL1 HL2;obtain⟨ret,hret⟩ : ∃ b,b=b2x S E:=⟨_,rfl⟩;rw[<- hret];unfold b2x at hret;generalize hS:longM S=ls at *;generalize hE:longM E=le at *;by_cases t1:S.length > 64
 ·have t1I:64<(S.length:Int):=by omega
  have hr:ret=3:=by rw[hret,if_pos (.inl t1)]
  clear hret;refine ent pl90 func90 rfl (by decide +kernel) (by kernel_rfl) ?_
  iterate 8 all_goals try first|apply spl<;>intro h|simp (disch:=first|assumption|omega|simp) [*]
  all_goals exact⟨Dx n,fun b hb=>Ad hb⟩
 have t1I:¬64<(S.length:Int):=by omega
 by_cases t2:E.length > 256
 ·have t2I:256<(E.length:Int):=by omega
  have hr:ret=3:=by rw[hret,if_pos (.inr (.inl t2))]
  clear hret;refine ent pl90 func90 rfl (by decide +kernel) (by kernel_rfl) ?_
  iterate 8 all_goals try first|apply spl<;>intro h|simp (disch:=first|assumption|omega|simp) [*]
  all_goals exact⟨Dx n,fun b hb=>Ad hb⟩
 have t2I:¬256<(E.length:Int):=by omega
 by_cases t3:ls+1+le > 256
 ·have t3I:256<(ls:Int)+1+(le:Int):=by omega
  have hr:ret=3:=by rw[hret,if_pos (.inr (.inr t3))]
  clear hret;refine ent pl90 func90 rfl (by decide +kernel) (by kernel_rfl) ?_
  iterate 8 all_goals try first|apply spl<;>intro h|simp (disch:=first|assumption|omega|simp) [*]
  refine WC.mono (HA.out _ fun b hb=>Ad hb) ?_;rintro _ rfl
  iterate 8 all_goals try first|apply spl<;>intro h|simp (disch:=first|assumption|omega|simp) [*]
  refine WC.mono (HB.out _ fun b hb=>Ad hb) ?_;rintro _ rfl
  iterate 8 all_goals try first|apply spl<;>intro h|simp (disch:=first|assumption|omega|simp) [*]
  all_goals exact⟨Dx n,fun b hb=>Ad hb⟩
 have t3I:¬256<(ls:Int)+1+(le:Int):=by omega
 have hr:ret=0:=by rw[hret,if_neg (by omega)]
 clear hret;refine ent pl90 func90 rfl (by decide +kernel) (by kernel_rfl) ?_
 iterate 8 all_goals try first|apply spl<;>intro h|simp (disch:=first|assumption|omega|simp) [*]
 refine WC.mono (HA.out _ fun b hb=>Ad hb) ?_;rintro _ rfl
 iterate 8 all_goals try first|apply spl<;>intro h|simp (disch:=first|assumption|omega|simp) [*]
 refine WC.mono (HB.out _ fun b hb=>Ad hb) ?_;rintro _ rfl
 iterate 8 all_goals try first|apply spl<;>intro h|simp (disch:=first|assumption|omega|simp) [*]
 all_goals exact⟨Dx n,fun b hb=>Ad hb⟩
end Go.Ai
end
section
namespace Go.Ai
open Go.Proofs Go.Proofs.Tryz
set_option maxRecDepth 10000
set_option maxHeartbeats 40000000
def b4t (q O:Int) (S E:Wq) (I2 O2:Int) (T:Tq) : Int :=
 if q > 16\/O > 16\/S.length > 64\/E.length > 256\/longM S > 256\/longM E > 256 then 3
 else if q<1\/O<1\/b0y q S=false\/b0z q E=false then 1
 else if b2x S E≠0 then b2x S E
 else if a7b I2 O2 T≠0 then a7b I2 O2 T
 else if I2≠q\/O2≠O then 5 else 0
structure b4u (g:Gb) (n:Nat) (l:Wq) (sv:AV) : Prop where
 len:l.length<=1000000
 words:∀ w∈l,w.length<=1000000
 ex:∃ svs,Af g n sv l.length svs/\RowsW g n l svs/\∀ q∈svs,Bm q
structure c1o (g:Gb) (n:Nat) (T:Tq) (sv:AV) : Prop where
 len:T.length<=1000000
 rows:∀ r∈T,r.length<=1000000
 ex:∃ svs,Af g n sv T.length svs/\RowsK g n T svs
theorem b4u.mono {g g': Gb} {n n': Nat} {l:Wq} {sv:AV} (h:b4u g n l sv) (hn:n<=n') (hg:∀ a,a<n->g' a=g a) : b4u g' n' l sv :=
 ⟨h.len,h.words,let ⟨svs,h1,h2,h3⟩:=h.ex;⟨svs,h1.mono hn hg,h2.ext hn fun a x ha hx=>(hg a ha).trans hx,h3⟩⟩
theorem c1o.mono {g g': Gb} {n n': Nat} {l:Tq} {sv:AV} (h:c1o g n l sv) (hn:n<=n') (hg:∀ a,a<n->g' a=g a) : c1o g' n' l sv :=
 ⟨h.len,h.rows,let ⟨svs,h1,h2⟩:=h.ex;⟨svs,h1.mono hn hg,h2.ext hn fun a x ha hx=>(hg a ha).trans hx⟩⟩
theorem g0i (q O I2 O2:Int) (S E:Wq) (T:Tq) (g:Gb) (n:Nat) (sv se st:AV) (hS:b4u g n S sv) (hE:b4u g n E se) (hT:c1o g n T st) :
  WC 0 prog 37 [.agg [.li q,.li O,sv,se,.li I2,.li O2,st]] ⟨.fn g,n⟩ fun r=>r=.ret (.li (b4t q O S E I2 O2 T)) ⟨.fn g,n⟩:=by
 refine WC.drop1 rfl ?_;obtain⟨svs,hsv,hrs,hcs⟩:=hS.ex;obtain⟨ses,hse,hre,hce⟩:=hE.ex;obtain⟨sts,hst,hrt⟩:=hT.ex;have hlen:=@Am prog _ _ _ _ _ hsv;have hlen2:=@Am prog _ _ _ _ _ hse;have h1s:=hsv.one;have h1e:=hse.one;have h1t:=hst.one;have hone:allOne [.li q,.li O,sv,se,.li I2,.li O2,st]=true:=by simp[h1s,h1e,h1t]
 have HG:=fun (g' : Gb) (hg' : ∀ b,b<n->g' b=g b) (a:Nat) (x:Blk) (ha:a<n) (hx:g a=some x)=>(hg' a ha).trans hx;have HA:=Aa.mk fun g' (hg' : ∀ b,b<n->g' b=g b)=>c1m S hS.len hS.words g' (n+1) sv svs (hsv.mono (by omega) hg') (hrs.ext (by omega) (HG g' hg'));have HB:=Aa.mk fun g' (hg' : ∀ b,b<n->g' b=g b)=>c1m E hE.len hE.words g' (n+1) se ses (hse.mono (by omega) hg') (hre.ext (by omega) (HG g' hg'));have HC:=Aa.mk fun g' (hg' : ∀ b,b<n->g' b=g b)=>g0f q O I2 O2 se st h1e h1t S hS.len hS.words g' (n+1) sv svs (hsv.mono (by omega) hg') (hrs.ext (by omega) (HG g' hg')) hcs;have HD:=Aa.mk fun g' (hg' : ∀ b,b<n->g' b=g b)=>g0g q O I2 O2 sv st h1s h1t E hE.len hE.words g' (n+1) se ses (hse.mono (by omega) hg') (hre.ext (by omega) (HG g' hg'));have HE:=Aa.mk fun g' (hg' : ∀ b,b<n->g' b=g b)=>g0h q O I2 O2 st h1t S E hS.len hS.words hE.len hE.words g' (n+1) sv se svs ses (hsv.mono (by omega) hg') (hrs.ext (by omega) (HG g' hg')) (hse.mono (by omega) hg') (hre.ext (by omega) (HG g' hg'));have HF:=Aa.mk fun g' (hg' : ∀ b,b<n->g' b=g b)=>g0c I2 O2 T hT.len hT.rows g' (n+1) st sts (hst.mono (by omega) hg') (hrt.ext (by omega) (HG g' hg'));have hmx:longM S<=1000000:=b6t hS.words;have hmx2:longM E<=1000000:=b6t hE.words;clear hsv hrs hcs hse hre hce hst hrt hS hE hT HG;obtain⟨ret,hret⟩ : ∃ b,b=b4t q O S E I2 O2 T:=⟨_,rfl⟩;rw[<- hret];unfold b4t at hret;generalize longM S=ls at *;generalize longM E=le at *;generalize b0y q S=ba at *;generalize b0z q E=bs at *;generalize b2x S E=li at *;generalize a7b I2 O2 T=te at *;by_cases t1:q > 16
 ·have hr:ret=3:=by rw[hret,if_pos (.inl t1)]
  clear hret;refine ent [] func37 rfl (by decide +kernel) (by kernel_rfl) ?_
  iterate 8 all_goals try first|apply spl<;>intro h|simp (disch:=first|assumption|omega|simp) [*]
  all_goals exact⟨Dx n,fun b hb=>Ad hb⟩
 by_cases t2:O > 16
 ·have hr:ret=3:=by rw[hret,if_pos (.inr (.inl t2))]
  clear hret;refine ent [] func37 rfl (by decide +kernel) (by kernel_rfl) ?_
  iterate 8 all_goals try first|apply spl<;>intro h|simp (disch:=first|assumption|omega|simp) [*]
  all_goals exact⟨Dx n,fun b hb=>Ad hb⟩
 by_cases t3:S.length > 64
 ·have hr:ret=3:=by rw[hret,if_pos (.inr (.inr (.inl t3)))]
  have t3I:64<(S.length:Int):=by omega
  clear hret;refine ent [] func37 rfl (by decide +kernel) (by kernel_rfl) ?_
  iterate 8 all_goals try first|apply spl<;>intro h|simp (disch:=first|assumption|omega|simp) [*]
  all_goals exact⟨Dx n,fun b hb=>Ad hb⟩
 have t3I:¬64<(S.length:Int):=by omega
 by_cases t4:E.length > 256
 ·have hr:ret=3:=by rw[hret,if_pos (.inr (.inr (.inr (.inl t4))))]
  have t4I:256<(E.length:Int):=by omega
  clear hret;refine ent [] func37 rfl (by decide +kernel) (by kernel_rfl) ?_
  iterate 8 all_goals try first|apply spl<;>intro h|simp (disch:=first|assumption|omega|simp) [*]
  all_goals exact⟨Dx n,fun b hb=>Ad hb⟩
 have t4I:¬256<(E.length:Int):=by omega
 by_cases t5:ls > 256
 ·have hr:ret=3:=by rw[hret,if_pos (.inr (.inr (.inr (.inr (.inl t5)))))]
  have t5I:256<(ls:Int):=by omega
  clear hret;refine ent [] func37 rfl (by decide +kernel) (by kernel_rfl) ?_
  iterate 8 all_goals try first|apply spl<;>intro h|simp (disch:=first|assumption|omega|simp) [*]
  refine WC.mono (HA.out _ fun b hb=>Ad hb) ?_;rintro _ rfl
  iterate 8 all_goals try first|apply spl<;>intro h|simp (disch:=first|assumption|omega|simp) [*]
  all_goals exact⟨Dx n,fun b hb=>Ad hb⟩
 have t5I:¬256<(ls:Int):=by omega
 by_cases t6:le > 256
 ·have hr:ret=3:=by rw[hret,if_pos (.inr (.inr (.inr (.inr (.inr t6)))))]
  have t6I:256<(le:Int):=by omega
  clear hret;refine ent [] func37 rfl (by decide +kernel) (by kernel_rfl) ?_
  iterate 8 all_goals try first|apply spl<;>intro h|simp (disch:=first|assumption|omega|simp) [*]
  refine WC.mono (HA.out _ fun b hb=>Ad hb) ?_;rintro _ rfl
  iterate 8 all_goals try first|apply spl<;>intro h|simp (disch:=first|assumption|omega|simp) [*]
  refine WC.mono (HB.out _ fun b hb=>Ad hb) ?_;rintro _ rfl
  iterate 8 all_goals try first|apply spl<;>intro h|simp (disch:=first|assumption|omega|simp) [*]
  all_goals exact⟨Dx n,fun b hb=>Ad hb⟩
 have t6I:¬256<(le:Int):=by omega
 rw[if_neg (by omega)] at hret;by_cases t7:q<1
 ·have hr:ret=1:=by rw[hret,if_pos (.inl t7)]
  clear hret;refine ent [] func37 rfl (by decide +kernel) (by kernel_rfl) ?_
  iterate 8 all_goals try first|apply spl<;>intro h|simp (disch:=first|assumption|omega|simp) [*]
  refine WC.mono (HA.out _ fun b hb=>Ad hb) ?_;rintro _ rfl
  iterate 8 all_goals try first|apply spl<;>intro h|simp (disch:=first|assumption|omega|simp) [*]
  refine WC.mono (HB.out _ fun b hb=>Ad hb) ?_;rintro _ rfl
  iterate 8 all_goals try first|apply spl<;>intro h|simp (disch:=first|assumption|omega|simp) [*]
  all_goals exact⟨Dx n,fun b hb=>Ad hb⟩
 by_cases t8:O<1
 ·have hr:ret=1:=by rw[hret,if_pos (.inr (.inl t8))]
  clear hret;refine ent [] func37 rfl (by decide +kernel) (by kernel_rfl) ?_
  iterate 8 all_goals try first|apply spl<;>intro h|simp (disch:=first|assumption|omega|simp) [*]
  refine WC.mono (HA.out _ fun b hb=>Ad hb) ?_;rintro _ rfl
  iterate 8 all_goals try first|apply spl<;>intro h|simp (disch:=first|assumption|omega|simp) [*]
  refine WC.mono (HB.out _ fun b hb=>Ad hb) ?_;rintro _ rfl
  iterate 8 all_goals try first|apply spl<;>intro h|simp (disch:=first|assumption|omega|simp) [*]
  all_goals exact⟨Dx n,fun b hb=>Ad hb⟩
 by_cases t9:ba=false
 ·have hr:ret=1:=by rw[hret,if_pos (.inr (.inr (.inl t9)))]
  subst t9;clear hret;refine ent [] func37 rfl (by decide +kernel) (by kernel_rfl) ?_
  iterate 8 all_goals try first|apply spl<;>intro h|simp (disch:=first|assumption|omega|simp) [*]
  refine WC.mono (HA.out _ fun b hb=>Ad hb) ?_;rintro _ rfl
  iterate 8 all_goals try first|apply spl<;>intro h|simp (disch:=first|assumption|omega|simp) [*]
  refine WC.mono (HB.out _ fun b hb=>Ad hb) ?_;rintro _ rfl
  iterate 8 all_goals try first|apply spl<;>intro h|simp (disch:=first|assumption|omega|simp) [*]
  refine WC.mono (HC.out _ fun b hb=>Ad hb) ?_;rintro _ rfl
  iterate 8 all_goals try first|apply spl<;>intro h|simp (disch:=first|assumption|omega|simp) [*]
  all_goals exact⟨Dx n,fun b hb=>Ad hb⟩
 have t9b:ba=true:=by simpa using t9
 subst t9b;clear t9;by_cases t10:bs=false
 ·have hr:ret=1:=by rw[hret,if_pos (.inr (.inr (.inr t10)))]
  subst t10;clear hret;refine ent [] func37 rfl (by decide +kernel) (by kernel_rfl) ?_
  iterate 8 all_goals try first|apply spl<;>intro h|simp (disch:=first|assumption|omega|simp) [*]
  refine WC.mono (HA.out _ fun b hb=>Ad hb) ?_;rintro _ rfl
  iterate 8 all_goals try first|apply spl<;>intro h|simp (disch:=first|assumption|omega|simp) [*]
  refine WC.mono (HB.out _ fun b hb=>Ad hb) ?_;rintro _ rfl
  iterate 8 all_goals try first|apply spl<;>intro h|simp (disch:=first|assumption|omega|simp) [*]
  refine WC.mono (HC.out _ fun b hb=>Ad hb) ?_;rintro _ rfl
  iterate 8 all_goals try first|apply spl<;>intro h|simp (disch:=first|assumption|omega|simp) [*]
  refine WC.mono (HD.out _ fun b hb=>Ad hb) ?_;rintro _ rfl
  iterate 8 all_goals try first|apply spl<;>intro h|simp (disch:=first|assumption|omega|simp) [*]
  all_goals exact⟨Dx n,fun b hb=>Ad hb⟩
 have t10b:bs=true:=by simpa using t10
 subst t10b;clear t10;rw[if_neg (by simp;omega)] at hret;by_cases t11:li=0
 ·have hr:ret=if te≠0 then te else if I2≠q\/O2≠O then 5 else 0:=by rw[hret,if_neg (by omega)]
  subst t11;clear hret;by_cases t12:te=0
  ·subst t12;rw[if_neg (by omega)] at hr;by_cases t13:I2=q
   ·subst t13;by_cases t14:O2=O
    ·subst t14;have hr2:ret=0:=by rw[hr,if_neg (by omega)]
     clear hr;refine ent [] func37 rfl (by decide +kernel) (by kernel_rfl) ?_
     iterate 8 all_goals try first|apply spl<;>intro h|simp (disch:=first|assumption|omega|simp) [*]
     refine WC.mono (HA.out _ fun b hb=>Ad hb) ?_;rintro _ rfl
     iterate 8 all_goals try first|apply spl<;>intro h|simp (disch:=first|assumption|omega|simp) [*]
     refine WC.mono (HB.out _ fun b hb=>Ad hb) ?_;rintro _ rfl
     iterate 8 all_goals try first|apply spl<;>intro h|simp (disch:=first|assumption|omega|simp) [*]
     refine WC.mono (HC.out _ fun b hb=>Ad hb) ?_;rintro _ rfl
     iterate 8 all_goals try first|apply spl<;>intro h|simp (disch:=first|assumption|omega|simp) [*]
     refine WC.mono (HD.out _ fun b hb=>Ad hb) ?_;rintro _ rfl
     iterate 8 all_goals try first|apply spl<;>intro h|simp (disch:=first|assumption|omega|simp) [*]
     refine WC.mono (HE.out _ fun b hb=>Ad hb) ?_;rintro _ rfl
     iterate 8 all_goals try first|apply spl<;>intro h|simp (disch:=first|assumption|omega|simp) [*]
     refine WC.mono (HF.out _ fun b hb=>Ad hb) ?_;rintro _ rfl
     iterate 8 all_goals try first|apply spl<;>intro h|simp (disch:=first|assumption|omega|simp) [*]
     all_goals exact⟨Dx n,fun b hb=>Ad hb⟩
    ·have hr2:ret=5:=by rw[hr,if_pos (.inr t14)]
     clear hr;refine ent [] func37 rfl (by decide +kernel) (by kernel_rfl) ?_
     iterate 8 all_goals try first|apply spl<;>intro h|simp (disch:=first|assumption|omega|simp) [*]
     refine WC.mono (HA.out _ fun b hb=>Ad hb) ?_;rintro _ rfl
     iterate 8 all_goals try first|apply spl<;>intro h|simp (disch:=first|assumption|omega|simp) [*]
     refine WC.mono (HB.out _ fun b hb=>Ad hb) ?_;rintro _ rfl
     iterate 8 all_goals try first|apply spl<;>intro h|simp (disch:=first|assumption|omega|simp) [*]
     refine WC.mono (HC.out _ fun b hb=>Ad hb) ?_;rintro _ rfl
     iterate 8 all_goals try first|apply spl<;>intro h|simp (disch:=first|assumption|omega|simp) [*]
     refine WC.mono (HD.out _ fun b hb=>Ad hb) ?_;rintro _ rfl
     iterate 8 all_goals try first|apply spl<;>intro h|simp (disch:=first|assumption|omega|simp) [*]
     refine WC.mono (HE.out _ fun b hb=>Ad hb) ?_;rintro _ rfl
     iterate 8 all_goals try first|apply spl<;>intro h|simp (disch:=first|assumption|omega|simp) [*]
     refine WC.mono (HF.out _ fun b hb=>Ad hb) ?_;rintro _ rfl
     iterate 8 all_goals try first|apply spl<;>intro h|simp (disch:=first|assumption|omega|simp) [*]
     all_goals exact⟨Dx n,fun b hb=>Ad hb⟩
   ·have hr2:ret=5:=by rw[hr,if_pos (.inl t13)]
    clear hr;refine ent [] func37 rfl (by decide +kernel) (by kernel_rfl) ?_
    iterate 8 all_goals try first|apply spl<;>intro h|simp (disch:=first|assumption|omega|simp) [*]
    refine WC.mono (HA.out _ fun b hb=>Ad hb) ?_;rintro _ rfl
    iterate 8 all_goals try first|apply spl<;>intro h|simp (disch:=first|assumption|omega|simp) [*]
    refine WC.mono (HB.out _ fun b hb=>Ad hb) ?_;rintro _ rfl
    iterate 8 all_goals try first|apply spl<;>intro h|simp (disch:=first|assumption|omega|simp) [*]
    refine WC.mono (HC.out _ fun b hb=>Ad hb) ?_;rintro _ rfl
    iterate 8 all_goals try first|apply spl<;>intro h|simp (disch:=first|assumption|omega|simp) [*]
    refine WC.mono (HD.out _ fun b hb=>Ad hb) ?_;rintro _ rfl
    iterate 8 all_goals try first|apply spl<;>intro h|simp (disch:=first|assumption|omega|simp) [*]
    refine WC.mono (HE.out _ fun b hb=>Ad hb) ?_;rintro _ rfl
    iterate 8 all_goals try first|apply spl<;>intro h|simp (disch:=first|assumption|omega|simp) [*]
    refine WC.mono (HF.out _ fun b hb=>Ad hb) ?_;rintro _ rfl
    iterate 8 all_goals try first|apply spl<;>intro h|simp (disch:=first|assumption|omega|simp) [*]
    all_goals exact⟨Dx n,fun b hb=>Ad hb⟩
  ·have hr2:ret=te:=by rw[hr,if_pos t12]
   clear hr;refine ent [] func37 rfl (by decide +kernel) (by kernel_rfl) ?_
   iterate 8 all_goals try first|apply spl<;>intro h|simp (disch:=first|assumption|omega|simp) [*]
   refine WC.mono (HA.out _ fun b hb=>Ad hb) ?_;rintro _ rfl
   iterate 8 all_goals try first|apply spl<;>intro h|simp (disch:=first|assumption|omega|simp) [*]
   refine WC.mono (HB.out _ fun b hb=>Ad hb) ?_;rintro _ rfl
   iterate 8 all_goals try first|apply spl<;>intro h|simp (disch:=first|assumption|omega|simp) [*]
   refine WC.mono (HC.out _ fun b hb=>Ad hb) ?_;rintro _ rfl
   iterate 8 all_goals try first|apply spl<;>intro h|simp (disch:=first|assumption|omega|simp) [*]
   refine WC.mono (HD.out _ fun b hb=>Ad hb) ?_;rintro _ rfl
   iterate 8 all_goals try first|apply spl<;>intro h|simp (disch:=first|assumption|omega|simp) [*]
   refine WC.mono (HE.out _ fun b hb=>Ad hb) ?_;rintro _ rfl
   iterate 8 all_goals try first|apply spl<;>intro h|simp (disch:=first|assumption|omega|simp) [*]
   refine WC.mono (HF.out _ fun b hb=>Ad hb) ?_;rintro _ rfl
   iterate 8 all_goals try first|apply spl<;>intro h|simp (disch:=first|assumption|omega|simp) [*]
   all_goals exact⟨Dx n,fun b hb=>Ad hb⟩
 ·have hr:ret=li:=by rw[hret,if_pos t11]
  clear hret;refine ent [] func37 rfl (by decide +kernel) (by kernel_rfl) ?_
  iterate 8 all_goals try first|apply spl<;>intro h|simp (disch:=first|assumption|omega|simp) [*]
  refine WC.mono (HA.out _ fun b hb=>Ad hb) ?_;rintro _ rfl
  iterate 8 all_goals try first|apply spl<;>intro h|simp (disch:=first|assumption|omega|simp) [*]
  refine WC.mono (HB.out _ fun b hb=>Ad hb) ?_;rintro _ rfl
  iterate 8 all_goals try first|apply spl<;>intro h|simp (disch:=first|assumption|omega|simp) [*]
  refine WC.mono (HC.out _ fun b hb=>Ad hb) ?_;rintro _ rfl
  iterate 8 all_goals try first|apply spl<;>intro h|simp (disch:=first|assumption|omega|simp) [*]
  refine WC.mono (HD.out _ fun b hb=>Ad hb) ?_;rintro _ rfl
  iterate 8 all_goals try first|apply spl<;>intro h|simp (disch:=first|assumption|omega|simp) [*]
  refine WC.mono (HE.out _ fun b hb=>Ad hb) ?_;rintro _ rfl
  iterate 8 all_goals try first|apply spl<;>intro h|simp (disch:=first|assumption|omega|simp) [*]
  all_goals exact⟨Dx n,fun b hb=>Ad hb⟩
end Go.Ai
end
section
namespace Go.Ai
open Go.Proofs Go.Proofs.Tryz
set_option maxRecDepth 10000
set_option maxHeartbeats 40000000
variable {q:Int} {w:Wd} {S:Wq} {m:Nat}
theorem keyB_inj:∀ {w v:Wd},(∀ i∈w,0≤i∧i < 16)→(∀ i∈v,0≤i∧i < 16)→a1z w=a1z v→w=v
 | [],[],_,_,_=>rfl
 | [],_ :: _,_,_,h=>by grind [a1z]
 | _ :: _,[],_,_,h=>by grind [a1z]
 | x :: w,y :: v,hw,hv,h=>by
  have h2:UInt8.ofNat (x+1).toNat :: a1z w=UInt8.ofNat (y+1).toNat :: a1z v:=h;injection h2 with h3 h4;have hx:=hw x (by simp);have hy:=hv y (by simp);have h5:(UInt8.ofNat (x+1).toNat).toNat=(UInt8.ofNat (y+1).toNat).toNat:=by rw [h3]
  rw [UInt8.toNat_ofNat',UInt8.toNat_ofNat',g6b (by omega),g6b (by omega)] at h5;have:x=y:=by omega
  rw [this,keyB_inj (fun i hi=>hw i (by simp [hi])) (fun i hi=>hv i (by simp [hi])) h4]
theorem g0j {v:Wd} (hw:∀ i∈w,0<=i/\i<16) (hv:∀ i∈v,0<=i/\i<16) (h:Bu w=Bu v) : w=v:=by
 grind[keyB_inj,Bu]
theorem d6o {l:Wq} (hl:∀ v∈l,∀ i∈v,0<=i/\i<16) (hw:∀ i∈w,0<=i/\i<16) : (a0a l).contains (Bu w)=decide (w∈l):=by
 haveI:=ba_lawful
 by_cases h:w∈l
 ·rw[decide_eq_true h,List.contains_iff_mem];exact Eg.2 ⟨w,h,rfl⟩
 ·rw[decide_eq_false h]
  cases hc:(a0a l).contains (Bu w) with
  | false=>rfl
  | true =>
   obtain⟨v,hv,he⟩:=Eg.1 (List.contains_iff_mem.1 hc);exact absurd (g0j (hl v hv) hw he ▸ hv) h
theorem c1p (h1:¬q > 16) (h2:¬q<1) (h3:w.length<=256) : Dk w q=0↔inW w q=true:=by
 simp_all[Dk,if_neg]
def b1a (q:Int) (S:Wq) (k:Nat) (w:Wd) : Bool :=
 decide (w.length≠0) && inW w q && !(decide (w∈S.take k)) && decide (w.take (w.length-1)∈S.take k)
def c1q (q:Int) (S:Wq) : Bool:=decide (0<S.length) && decide ((S.getD 0 []).length=0) && ((List.range S.length).all fun j=>decide (j=0) || b1a q S j (S.getD j []))
def a8x (q:Int) (E:Wq) (k:Nat) (w:Wd) : Bool :=
 decide (w.length≠0) && inW w q && !(decide (w∈E.take k)) && (decide (q<=(k:Int)) || decide (w=[(k:Int)]))
def c1r (q:Int) (E:Wq) : Bool:=decide (q<=(E.length:Int)) && ((List.range E.length).all fun j=>a8x q E j (E.getD j []))
theorem g3p (h:inW w q=true) : inW (w.take m) q=true :=
 Ec.2 fun i hi=>Ec.1 h i (g4d hi)
theorem c7b (h1:¬q > 16) (h:inW w q=true) : ∀ i∈w,0<=i/\i<16:=fun i hi=>by
 have h2:0<=i/\i<q:=by simpa using Ec.1 h i hi
 omega
theorem d6p (h1:¬q > 16) (h2:¬q<1) (h3:∀ w∈S,w.length<=256) (hp:∀ j,j<m->j<S.length->Dk (S.getD j []) q=0) : ∀ v∈S.take m,∀ i∈v,0<=i/\i<16:=fun v hv=>by
 obtain⟨j,hj,rfl⟩:=g3y.1 hv;have hj2:j<m/\j<S.length:=by grind
 have h4:=hp j hj2.1 hj2.2;rw[g3s,Dy hj2.2] at h4;rw[g4s];exact c7b h1 ((c1p h1 h2 (h3 _ (Ds hj2.2))).1 h4)
theorem g0k {k:Nat} (h:Di q S k w=true) : Dk w q=0:=by
 simp_all[Di]
theorem g0l {k:Nat} (h:a0h q S k w=true) : Dk w q=0:=by
 simp_all[a0h]
theorem g0m (h1:¬q > 16) (h2:¬q<1) (h3:∀ w∈S,w.length<=256) (hm:m<S.length) (hp:∀ j,j<m->j<S.length->Dk (S.getD j []) q=0) :
  Di q S m (S.getD m [])=if m=0 then decide ((S.getD 0 []).length=0) else b1a q S m (S.getD m []):=by
 have hw:(S.getD m []).length<=256:=by
  grind
 have ht:=d6p h1 h2 h3 hp;by_cases h0:m=0
 ·subst h0;rw[if_pos rfl];generalize S.getD 0 []=w at *;unfold Di;by_cases hl:w.length=0
  ·have hnil:w=[]:=g3r.1 hl;subst hnil;have:Dk [] q=0:=(c1p h1 h2 (by simp)).2 rfl;grind[a0a]
  grind
 ·rw[if_neg h0];generalize S.getD m []=w at *;unfold Di b1a;rw[decide_eq_false h0,g5p];by_cases hl:w.length=0
  ·grind
  ·rw[show decide (m=0↔w.length=0)=true from decide_eq_true (by omega),decide_eq_true hl,g5c,g5c];grind[c7b,d6o,c1p]
theorem g0n (h1:¬q > 16) (h2:¬q<1) (h3:∀ w∈S,w.length<=256) (hm:m<S.length) (hp:∀ j,j<m->j<S.length->Dk (S.getD j []) q=0) :
  a0h q S m (S.getD m [])=a8x q S m (S.getD m []):=by
 have hw:(S.getD m []).length<=256:=by
  grind
 have ht:=d6p h1 h2 h3 hp;grind[a8x,a0h,c7b,d6o,c1p]
theorem d6q {n:Nat} {f g:Nat->Bool} (h:∀ m,m<n->(∀ j,j<m->f j=true)->f m=g m) (h2:∀ m,m<n->(∀ j,j<m->g j=true)->f m=g m) : (List.range n).all f=(List.range n).all g:=by
 grind
theorem g0o (h1:¬q > 16) (h2:¬q<1) (h3:¬longM S > 256) : b0y q S=c1q q S:=by
 have hw:∀ w∈S,w.length<=256:=fun w hw=>by have:=le_longM hw;omega
 have hstep:∀ m,m<S.length->(∀ j,j<m->Di q S j (S.getD j [])=true)->Di q S m (S.getD m [])=if m=0 then decide ((S.getD 0 []).length=0) else b1a q S m (S.getD m []):=fun m hm hp=>g0m h1 h2 hw hm fun j hj _=>g0k (hp j hj);have hall:((List.range S.length).all fun j=>Di q S j (S.getD j []))=(List.range S.length).all fun j=>if j=0 then decide ((S.getD 0 []).length=0) else b1a q S j (S.getD j []):=by
  refine d6q hstep fun m hm hp=>?_;have:∀ k,k<=m->∀ j,j<k->Di q S j (S.getD j [])=true:=fun k=>by
   induction k with
   | zero=>grind
   | succ k ih =>
    grind
  grind
 unfold b0y c1q;grind
theorem g0p (h1:¬q > 16) (h2:¬q<1) (h3:¬longM S > 256) : b0z q S=c1r q S:=by
 have hw:∀ w∈S,w.length<=256:=fun w hw=>by have:=le_longM hw;omega
 have hstep:∀ m,m<S.length->(∀ j,j<m->a0h q S j (S.getD j [])=true)->a0h q S m (S.getD m [])=a8x q S m (S.getD m []):=fun m hm hp=>g0n h1 h2 hw hm fun j hj _=>g0l (hp j hj);have hall:((List.range S.length).all fun j=>a0h q S j (S.getD j []))=(List.range S.length).all fun j=>a8x q S j (S.getD j []):=by
  refine d6q hstep fun m hm hp=>?_;have:∀ k,k<=m->∀ j,j<k->a0h q S j (S.getD j [])=true:=fun k=>by
   induction k with
   | zero=>grind
   | succ k ih =>
    grind
  grind
 grind[c1r,b0z]
end Go.Ai
end
section
namespace Go.Ai
set_option maxRecDepth 10000
variable {q d m k:Nat} {l S E:Wq}
def a1l (l:Wq) (w:Wd) : Wq:=if w∈l then l else l++[w]
def qS (q:Nat) : List Nat->Wq->Wq
 | [],S=>S
 | b :: bs,S=>qS q bs (a1l S (S.getD (b / 8 % S.length) []++[((b % q:Nat) : Int)]))
def qE:Wq->Wq->Wq
 | [],E=>E
 | w :: ws,E=>qE ws (if w.length=0 then E else a1l E w)
theorem g0q {x:Wd} (h:k<l.length) : (l++[x]).getD k []=l.getD k []:=by
 grind
theorem g3q {x:Wd} : (l++[x]).getD l.length []=x:=by
 grind
theorem g0r (h:k<l.length) : l.getD k []∈l:=by
 grind
theorem c7c : ∀ {l:Wq},(∀ w∈l,w.length<=k)->longM l<=k
 | [],_=>Dt _
 | w :: l,h=>by
  have h1:=c7c (l:=l) fun x hx=>h x (by grind);grind[longM]
structure SOK (q d:Nat) (S:Wq) : Prop where
 pos:0<S.length
 hd:S.getD 0 []=[]
 len:S.length<=d+1
 wl:∀ w∈S,w.length<=d/\inW w q=true
 ref:∀ k,k<S.length->k≠0->b1a q S k (S.getD k [])=true
theorem SOK.step (h:SOK q d S) {p i:Nat} (hp:p<S.length) (hi:i<q) : SOK q (d+1) (a1l S (S.getD p []++[(i:Int)])):=by
 have hpm:=g0r hp;have hlen:=h.len;have hpos:=h.pos;unfold a1l;split
 ·exact⟨h.pos,h.hd,by omega,fun w hw=>⟨g5d (h.wl w hw).1,(h.wl w hw).2⟩,h.ref⟩
 ·rename_i hn;generalize hx:S.getD p []=x at *;have hwx:=h.wl x hpm;have hin:inW (x++[(i:Int)]) q=true:=by
   simp_all[inW]
  refine⟨by simp,by rw[g0q hpos];exact h.hd,by grind,fun w hw=>?_,fun k hk h0=>?_⟩
  ·rcases Ed.1 hw with h1|h1
   ·exact⟨g5d (h.wl w h1).1,(h.wl w h1).2⟩
   grind
  ·rw[Dr,Ef] at hk;by_cases hlt:k<S.length
   ·have h1:=h.ref k hlt h0;grind[b1a]
   (simp_all[b1a];grind)
theorem d6r (hq:1<=q) : ∀ (bs:List Nat) {d:Nat} {S:Wq},SOK q d S->SOK q (d+bs.length) (qS q bs S)
 | [],_,_,h=>h
 | b :: bs,d,S,h=>by
  have:=d6r hq bs (h.step (p:=b / 8 % S.length) (i:=b % q) (Eo _ h.pos) (Eo _ hq));rw[Ej,g5m bs.length,<- g5k];exact this
theorem SOK.base : SOK q 0 [[]]:=⟨by simp,rfl,by simp,fun w hw=>by rw[Ek.1 hw];exact⟨Dm _,rfl⟩,fun k hk h0=>by grind⟩
theorem SOK.acc (h:SOK q d S) : c1q q S=true:=by
 unfold c1q;rw[h.hd,decide_eq_true h.pos,Dq];refine⟨rfl,Ec.2 fun j hj=>?_⟩;have hj2:j<S.length:=by grind
 by_cases h0:j=0
 ·grind
 ·rw[h.ref j hj2 h0,g6h]
structure EOK (q d m:Nat) (E:Wq) : Prop where
 low:q<=E.length
 len:E.length<=q+d
 wl:∀ w∈E,0<w.length/\w.length<=m/\inW w q=true
 ref:∀ k,k<E.length->a8x q E k (E.getD k [])=true
theorem EOK.step (h:EOK q d m E) {w:Wd} (hw:w.length<=m) (hin:inW w q=true) : EOK q (d+1) m (if w.length=0 then E else a1l E w):=by
 have hlen:=h.len;have hlow:=h.low;have hsame:EOK q (d+1) m E:=⟨h.low,by omega,h.wl,h.ref⟩;split
 ·grind
 ·rename_i h0;unfold a1l;split
  ·grind
  ·rename_i hn;refine⟨by grind,by grind,fun x hx=>?_,fun k hk=>?_⟩
   ·rcases Ed.1 hx with h1|h1
    ·exact h.wl x h1
    grind
   ·rw[Dr,Ef] at hk;by_cases hlt:k<E.length
    ·have h1:=h.ref k hlt;grind[a8x]
    (simp_all[a8x];grind)
theorem d6s : ∀ (ws:Wq) {d:Nat} {E:Wq},EOK q d m E->(∀ w∈ws,w.length<=m/\inW w q=true)->EOK q (d+ws.length) m (qE ws E)
 | [],_,_,h,_=>h
 | w :: ws,d,E,h,hw=>by
  have h1:=hw w (by simp);have:=d6s ws (h.step h1.1 h1.2) fun x hx=>hw x (by simp[hx]);rw[Ej,g5m ws.length,<- g5k];exact this
def qE0 (q:Nat) : Wq:=(List.range q).map fun i:Nat=>[(i:Int)]
theorem g0s (h:k<q) : (qE0 q).getD k []=[(k:Int)]:=by
 grind[qE0]
theorem EOK.base {q m:Nat} (hm:1<=m) : EOK q 0 m (qE0 q):=by
 have hl:(qE0 q).length=q:=by simp[qE0]
 refine⟨by omega,by omega,fun w hw=>?_,fun k hk=>?_⟩
 ·obtain⟨i,hi,rfl⟩:=List.mem_map.1 hw;grind[inW]
 ·rw[hl] at hk;rw[g0s hk];have hin:inW [(k:Int)] q=true:=by grind[inW]
  have hn:[(k:Int)] ∉ (qE0 q).take k:=by
   grind[List.mem_iff_getElem,qE0]
  grind[a8x]
theorem EOK.suf (h:EOK q d m E) : c1r q E=true:=by
 have hlow:=h.low;unfold c1r;rw[Dq];exact⟨decide_eq_true (by omega),Ec.2 fun j hj=>h.ref j (by grind)⟩
theorem g0t {d2:Nat} {O:Int} {T:Tq} (hq:1<=q) (hq2:q<=16) (hO:1<=O) (hO2:O<=16) (hS:SOK q d S) (hE:EOK q d2 m E) (hd:d<=20) (hd2:d2<=20) (hm:m<=20) (hT:a7b q O T=0) : b4t q O S E q O T=0:=by
 have h1:=hS.len;have h2:=hE.len;have h3:longM S<=d:=c7c fun w hw=>(hS.wl w hw).1;have h4:longM E<=m:=c7c fun w hw=>(hE.wl w hw).2.1;unfold b4t b2x;rw[if_neg (by omega),g0o (by omega) (by omega) (by omega),g0p (by omega) (by omega) (by omega),hS.acc,hE.suf,if_neg (by grind),if_neg (by grind),hT,if_neg (by simp),if_neg (by simp)]
end Go.Ai
end
section
namespace Go.Ai
set_option maxRecDepth 10000
theorem d6t {V:Wd->Option Int} {ws:Wq} {I:Nat} {O:Int} (hN:Nod V ws) (hV:∀ x o,V x=some o->o ≠ -1->0<=o/\o<O) : ∀ (m n:Nat) (os:Wq),ws.length<=n+m->Bfs V ws I O n os->n<=os.length->∃ os',Bfs V ws I O os'.length os'
 | m,n,os,hm,h,hn=>by
  by_cases he:n=os.length
  ·subst he;exact⟨os,h⟩
  ·have hlt:n<os.length:=by omega
   have hle:=h.len
   cases m with
   | zero=>omega
   | succ m =>
    have h2:=(h.step hN hV hlt).1;exact d6t hN hV m (n+1) _ (by omega) h2 (by rw[Dr];omega)
theorem g0u {I:Nat} {O:Int} {ts:Lq} (hv:∀ t∈ts,a1a I O t=true) (hc:a5l ts) : goT I O (a0g I ts) 0 1=some (a0g I ts).length:=by
 have hN:=g0d hv hc;have h0:Bfs (valT ts) (Ck ts) I O 0 [[]]:=Bfs.zero ((hN.mem []).2 (.inl rfl));obtain⟨os,h⟩:=d6t hN (fun x o h1 h2=>f9m hv h1 h2) (Ck ts).length 0 _ (by omega) h0 (by simp);exact(f9n hv hc hN h).2.2
def a8y (M:Bg) (ts:Lq) : Prop:=∀ t∈ts,t.2=Dh M 0 t.1/\inW t.1 M.inp=true
theorem a8y.valid {M:Bg} (hM:M.ok) {ts:Lq} (h:a8y M ts) : ∀ t∈ts,a1a M.inp M.out t=true:=fun t ht=>by
 have hl:=hM.2.2.2.2.1;obtain⟨h1,h2⟩:=h t ht;refine f9b (by grind[b7r]) h2 ?_;rw[h1];exact d5n hM _ 0 false (.inr ⟨0,rfl,by omega⟩) (fun h=>by cases h) h2
theorem a8y.cons {M:Bg} {ts:Lq} (h:a8y M ts) : a5l ts :=
 (f9k fun t ht=>by rw[(h t ht).1];grind[b7r]).1 (d5r (fun u hu=>(h u hu).1) _ _ fun u hu=>(h u hu).1)
theorem a8y.go {M:Bg} (hM:M.ok) {I:Nat} (hI:M.inp=I) {ts:Lq} (h:a8y M ts) : goT I M.out (a0g I ts) 0 1=some (a0g I ts).length :=
 g0u (by rw[<- hI];exact h.valid hM) h.cons
theorem a8y.err {M:Bg} (hM:M.ok) {I:Nat} (hI:M.inp=I) {ts:Lq} (h:a8y M ts) (hl:(a0g I ts).length<=65537) : a7b I M.out (a0g I ts)=0:=by
 have h0:0<(a0g I ts).length:=by
  have e:(a0g I ts).length=(Ck ts).length:=b4l;rw[e];exact g4m ((b4p (h.valid hM) h.cons []).2 (.inl rfl))
 have h1:=hM.1;have h2:=hM.2.1;have h3:=hM.2.2.1;have h4:=hM.2.2.2.1;rw[hI] at h1 h2;unfold a7b;rw[if_neg (by omega),if_neg (by omega),if_pos (h.go hM hI)]
end Go.Ai
end
section
namespace Go.Ai
set_option maxRecDepth 10000
theorem d6u {x:Wd} : ∀ {l:Wq},(Bv x l).length<=l.length+1
 | []=>Dm _
 | y :: l=>by
  have ih:=@d6u x l;unfold Bv;split
  ·simp
  ·split
   ·simp
   ·simp only[Ej];omega
theorem nodW_lenK:∀ (w r:Wd) (L:Wq) (p:Wd),(nodW L p w r).length<=L.length+w.length
 | [],r,L,p=>by cases r<;>exact Dm _
 | _ :: _,[],L,p=>g5f _ _
 | i :: w,o :: r,L,p=>by
  have h1:=nodW_lenK w r (Bv (p++[i]) L) (p++[i]);have h2:=@d6u (p++[i]) L;unfold nodW;rw[Ej];split<;>omega
theorem g0v {k:Nat} {ts:Lq} (h:∀ t∈ts,t.1.length<=k) : (Ck ts).length<=1+k*ts.length:=by
 have key:∀ (us:Lq) (out:Wq),(∀ t∈us,t.1.length<=k)->(us.foldl (fun out t=>nodW out [] t.1 t.2) out).length<=out.length+k*us.length:=by
  intro us
  induction us with
  | nil=>intro out _;simp
  | cons t us ih =>
   intro out hu;have h1:=ih (nodW out [] t.1 t.2) fun t ht=>hu t (by simp[ht]);have h2:=nodW_lenK t.1 t.2 out [];have h3:=hu t (by simp);rw[List.foldl_cons,Ej,Nat.mul_add];omega
 exact key ts [[]] h
theorem b1b {T:Tq} : ∀ (w:Wd) (a:Int) (r:Wd),Bf T a w=some r->r.length=w.length
 | [],a,r,h=>by
  rw[Bf] at h;cases h;rfl
 | i :: w,a,r,h=>by
  rw[Bf] at h;split at h
  ·split at h
   ·cases h;simp
   ·cases h
  ·cases hr:Bf T ((T.getD a.toNat []).getD i.toNat (-1,-1)).1 w with
   | none=>rw[hr] at h;cases h
   | some x =>
    rw[hr] at h;cases h;rw[Ej,Ej,b1b w _ x hr]
def Bk (T:Tq) (w:Wd) : Wq->Option (Wd)
 | []=>some []
 | e :: E=>match Bf T 0 (w++e) with
  | none=>none
  | some r=>(Bk T w E).map (r.drop w.length ++ ·)
theorem d6v {T:Tq} {w:Wd} {E:Wq} {k:Nat} (h:k<E.length) : Bk T w (E.drop k)=match Bf T 0 (w++E[k]) with
  | none=>none
  | some r=>(Bk T w (E.drop (k+1))).map (r.drop w.length ++ ·):=by
 rw[El h];rfl
def a1m (q:Nat) (S:Wq) : Wq:=S.flatMap fun s=>(List.range q).map fun i:Nat=>s++[(i:Int)]
def Ak (q:Nat) (S:Wq) : Wq:=S++a1m q S
end Go.Ai
end
section
namespace Go.Ai
set_option maxRecDepth 10000
def qSx (M:Bg) (sb:List Nat) : Wq:=qS M.inp.toNat (sb.take 5) [[]]
def qEx (M:Bg) (ew:List (List Nat)) : Wq:=qE ((ew.take 3).map fun x=>Da x M.inp.toNat 4) (qE0 M.inp.toNat)
def a5n (W E:Wq) : Wq:=W.flatMap fun w=>E.map fun e=>w++e
def runT (M:Bg) (u:Wd) : List Int×Wd:=(u,Dh M 0 u)
def qLx (M:Bg) (ws:List (List Nat)) (full:Bool) (S E:Wq) : Lq:=a1k M ws++if full=true then (a5n (Ak M.inp.toNat S) E).map (runT M) else []
theorem c1s {q:Nat} : ∀ {S:Wq},(a1m q S).length=S.length*q
 | []=>by simp[a1m]
 | s :: S=>by
  have:=@c1s q S;unfold a1m at this |-;rw[g5e,Dr,this,Ej,g4y];simp;omega
theorem d6w {E:Wq} : ∀ {W:Wq},(a5n W E).length=W.length*E.length
 | []=>by simp[a5n]
 | w :: W=>by
  have:=@d6w E W;unfold a5n at this |-;rw[g5e,Dr,this,Ej,g4y];simp;omega
theorem b1c {a b:Wd} {q:Int} (h1:inW a q=true) (h2:inW b q=true) : inW (a++b) q=true:=by
 grind[inW]
structure QOK (M:Bg) (S E:Wq) (L:Lq) : Prop where
 s:SOK M.inp.toNat 5 S
 e:EOK M.inp.toNat 3 4 E
 runs:a8y M L
 wl:∀ t∈L,t.1.length<=10
 len:L.length<=156
 nod:(Ck L).length<=1561
theorem d6x {q d:Nat} {S:Wq} (h:SOK q d S) : ∀ w∈Ak q S,w.length<=d+1/\inW w q=true:=fun w hw=>by
 rcases Ed.1 hw with h1|h1
 ·exact⟨g5d (h.wl w h1).1,(h.wl w h1).2⟩
 ·obtain⟨s,hs,h2⟩:=g4i.1 h1;obtain⟨i,hi,rfl⟩:=Eg.1 h2;have hi2:i<q:=by grind
  refine⟨by have:=(h.wl s hs).1;grind,b1c (h.wl s hs).2 ?_⟩;grind[inW]
theorem d6y {M:Bg} (hM:M.ok) (h3:M.inp<=3) (ws:List (List Nat)) (sb:List Nat) (ew:List (List Nat)) (full:Bool) : QOK M (qSx M sb) (qEx M ew) (qLx M ws full (qSx M sb) (qEx M ew)):=by
 have h1:=hM.1;obtain⟨q,hq⟩ : ∃ q:Nat,M.inp=q:=⟨M.inp.toNat,by omega⟩;have hqt:M.inp.toNat=q:=by grind
 have hq1:1<=q:=by omega
 have hs:SOK M.inp.toNat 5 (qSx M sb):=by
  have h4:=d6r (q:=M.inp.toNat) (by omega) (sb.take 5) SOK.base;have h5:(sb.take 5).length<=5:=by grind
  exact⟨h4.pos,h4.hd,by have:=h4.len;grind[qSx],fun w hw=>⟨by have:=(h4.wl w hw).1;omega,(h4.wl w hw).2⟩,h4.ref⟩
 have he:EOK M.inp.toNat 3 4 (qEx M ew):=by
  have h4:=d6s (q:=M.inp.toNat) (m:=4) ((ew.take 3).map fun x=>Da x M.inp.toNat 4) (EOK.base (by omega)) fun w hw=>by
   obtain⟨x,_,rfl⟩:=Eg.1 hw;grind[c1e,c1d]
  have h5:((ew.take 3).map fun x=>Da x M.inp.toNat 4).length<=3:=by grind
  exact⟨h4.low,by have:=h4.len;grind[qEx],h4.wl,h4.ref⟩
 have hall:∀ t∈qLx M ws full (qSx M sb) (qEx M ew),t.2=Dh M 0 t.1/\inW t.1 M.inp=true/\t.1.length<=10:=fun t ht=>by
  rcases Ed.1 ht with h4|h4
  ·unfold a1k at h4;obtain⟨b,_,rfl⟩:=Eg.1 h4;exact⟨rfl,c1d h1,c1e⟩
  ·split at h4
   ·obtain⟨u,hu,rfl⟩:=Eg.1 h4;obtain⟨w,hw,hu2⟩:=g4i.1 hu;obtain⟨e,hee,rfl⟩:=Eg.1 hu2;have h5:=d6x hs w hw;have h6:=he.wl e hee;refine⟨rfl,?_,by show (w++e).length<=10;grind⟩;show inW (w++e) M.inp=true;grind[b1c]
   grind
 have hlen:(qLx M ws full (qSx M sb) (qEx M ew)).length<=156:=by
  have h4:(a1k M ws).length<=12:=by grind[a1k]
  have h5:=hs.len;have h6:=he.len;unfold qLx;rw[Dr];split
  ·rw[Ei,d6w];unfold Ak;rw[Dr,c1s];rw[hqt] at h6 |-;have h7:(qSx M sb).length+(qSx M sb).length*q<=24:=by
    have:(qSx M sb).length*q<=6*3:=g3w (by omega) (by omega);omega
   have h8:((qSx M sb).length+(qSx M sb).length*q)*(qEx M ew).length<=24*6:=g3w h7 (by omega);omega
  grind
 refine⟨hs,he,fun t ht=>⟨(hall t ht).1,(hall t ht).2.1⟩,fun t ht=>(hall t ht).2.2,hlen,?_⟩;have:=g0v (k:=10) fun t ht=>(hall t ht).2.2;omega
end Go.Ai
end
section
namespace Go.Ai
open Go.Proofs Go.Proofs.Tryz
set_option maxRecDepth 10000
set_option maxHeartbeats 40000000
theorem Aj.of {g:Gb} {n B:Nat} {w:Wd} {own:Bool} {z:Nat} (h:g B=some (.cells (wdC w) own z)) (hB:B<n) {c:Nat} : Aj g n w (.sl B 0 w.length c):=b3x h hB
end Go.Ai
end
section
namespace Go.Ai
open Go.Proofs Go.Proofs.Tryz
set_option maxRecDepth 10000
set_option maxHeartbeats 40000000
variable {g:Gb} {x y z a:Nat}
theorem RowsW.len {n:Nat} {l:Wq} {svs:List AV} (h:RowsW g n l svs) : svs.length=l.length:=h.1
theorem RowsW.allOne {n:Nat} {l:Wq} {svs:List AV} (h:RowsW g n l svs) : allOne svs=true:=by
 have key:∀ (xs:List AV),(∀ (k:Nat) (hk:k<xs.length),oneC xs[k]=true)->Go.Ai.allOne xs=true:=by
  intro xs
  induction xs with
  | nil=>intro _;rfl
  | cons x xs ih =>
   intro hx;have h0:=hx 0 (by simp);have h1:=ih fun k hk=>hx (k+1) (by simpa using hk);show (match oneC x with|true=>Go.Ai.allOne xs|false=>false)=true;have h0' : oneC x=true:=h0;rw[h0'];exact h1
 refine key svs fun k hk=>?_;obtain⟨sv,h1,h2⟩:=h.2 k (by rw[<- h.1];exact hk);have:svs[k]=sv:=by rw[Dy hk] at h1;exact Option.some.inj h1
 rw[this];exact h2.one
def b2y (s:Wd) (i:Nat) : Wq:=(List.range i).map fun j:Nat=>s++[(j:Int)]
theorem g0w (s:Wd) (i:Nat) : b2y s (i+1)=b2y s i++[s++[(i:Int)]]:=by unfold b2y;rw[g6v,g3z];rfl
theorem g0x {q:Nat} {S:Wq} {k:Nat} (h:k<S.length) : a1m q (S.take (k+1))=a1m q (S.take k)++b2y S[k] q:=by
 unfold a1m b2y;rw[a2l h,List.flatMap_append];simp
def Bs (x y z:Nat) (g:Gb) : Gb:=fun a=>if a<=x\/a=y\/a=z then none else g a
theorem b1d {u:Blk} (h:Bs x y z g a=some u) : g a=some u:=by
 unfold Bs at h;split at h
 ·cases h
 ·exact h
theorem a4b (h1:x<a) (h2:a≠y) (h3:a≠z) : Bs x y z g a=g a:=if_neg (by omega)
theorem b2z {u:Blk} (h:Bs x y z g a=some u) : x<a/\a≠y/\a≠z:=by
 unfold Bs at h;split at h
 ·cases h
 ·omega
theorem c7d {g': Gb} (h:x<a->a≠y->a≠z->g' a=g a) : Bs x y z g' a=Bs x y z g a:=by
 unfold Bs;split
 ·rfl
 ·exact h (by omega) (by omega) (by omega)
theorem c7e {q:Option (Bool×Nat)} {o:Nat} {v:AV} (h:Be q (Bs x y z g a) o=some v) : x<a/\a≠y/\a≠z/\Be q (g a) o=some v:=by
 by_cases hh:a<=x\/a=y\/a=z
 ·rw[show Bs x y z g a=none from if_pos hh] at h
  cases q with
  | none=>cases h
  | some q=>obtain⟨q1,q2⟩:=q;cases q1<;>cases h
 ·rw[a4b (by omega) (by omega) (by omega)] at h;exact⟨by omega,by omega,by omega,h⟩
theorem g0y {f:Option Blk->Option Blk} {b:Option Blk} (hf:∀ u,f b=some u->b=some u) {q:Option (Bool×Nat)} {o:Nat} {v:AV} (h:Be q (f b) o=some v) : Be q b o=some v:=by
 cases hb:f b with
 | none =>
  rw[hb] at h
  cases q with
  | none=>cases h
  | some q=>obtain⟨q1,q2⟩:=q;cases q1<;>cases h
 | some u=>rw[hb] at h;rw[hf u hb];exact h
theorem d6z (hd:(Gb)->Gb) {I:Nat} (hI:I<=16) {S:Wq} (hSl:S.length<=100) (hS0:0<S.length) (hwl:∀ w∈S,w.length<=300) (c1 c3 c4 c5 c6:AV) (h1c:oneC c1=true) (h3c:oneC c3=true) (h4c:oneC c4=true) (h5c:oneC c5=true) (h6c:oneC c6=true) (g:Gb) (n:Nat) (hp1:∀ g a u,hd g a=some u->g a=some u) (hp2:∀ g a,n<=a->hd g a=g a) (hp3:∀ g g' a u,hd g a=some u->g' a=g a->hd g' a=some u) (sv:AV) (hS:Bj (hd g) n S sv) :
  WC 0 prog 43 [.agg [.li I,c1,sv,c3,c4,c5,c6]] ⟨.fn g,n⟩ fun r=>∃ ov g' n',r=.ret ov ⟨.fn g',n'⟩/\n<=n'/\(∀ b,b<n->g' b=g b)/\∃ B cs,Bc g' n n' B ov (Ak I S).length 1 cs/\RowsW (hd g') n' (Ak I S) cs:=by
 have hlen:=@Am prog _ _ _ _ _ hS.choose_spec.1;have h1s:=hS.choose_spec.1.one;have hone:allOne [.li I,c1,sv,c3,c4,c5,c6]=true:=by simp[h1s,h1c,h3c,h4c,h5c,h6c]
 have HP1:=Aa.mk hp1;have HP2:=Aa.mk hp2;have HP3:=Aa.mk hp3;have HS:=Aa.mk hS;have HWL:=Aa.mk hwl;obtain⟨svs,hs1,hs2⟩:=hS;have hsl:svs.length=S.length*1:=by rw[hs2.1];omega
 have hal:=hs2.allOne;obtain⟨a9,blk,ha9,hga9,hap⟩:=Af.apn (P:=prog) (sz:=1) (Af.ext (Dm _) (fun a u _ hu=>hp1 _ _ _ hu) hs1) hS0 (by omega) hsl;have HR:=Aa.mk hs2;have HB:=Aa.mk fun (s:Wd) (hs:s∈S) (j:Nat) (gX:Gb) (n2:Nat) (qv bv:AV) (hq:Aj gX n2 s qv) (hb:Aj gX n2 [(j:Int)] bv)=>c1k (a:=s) (b:=[(j:Int)]) (by have:=hwl s hs;omega) (by simp) (by simp) gX n2 qv bv hq hb;clear hs1 hs2 hwl hp1 hp2 hp3;refine ent [] func43 rfl (by decide +kernel) (by kernel_rfl) ?_
 iterate 8 all_goals try first|apply spl<;>intro h|simp (disch:=first|assumption|omega|simp) [*]
 refine LX.ind (fun m gf H'=>∃ (k n2 B:Nat) (gL:Gb) (cs:List AV) (l:Wq),k<=S.length/\m=S.length-k/\H'=⟨.fn gL,n2⟩/\n+1<=n2/\l.length<=100+k*16/\0<l.length/\Aa (∀ b,b<n->gL b=g b)/\gL n=some (.cells [.li I,c1,sv,c3,c4,c5,c6] true 0)/\n+1<=B/\B<n2/\gL B=some (.cells cs true 1)/\cs.length=l.length*1/\Aa (l=S++a1m I (S.take k))/\Aa (RowsW (a1v B (hd gL)) n2 l cs) /\
  gf 1=some (.ptr n 0)/\gf 3=some (.slq B 0 l.length 0)/\gf 4=some (.li k)) (m0:=S.length) ?_ ?_
 ·refine⟨0,n+1+1,n+1,_,svs,S,Dt _,rfl,rfl,by omega,by omega,hS0,⟨fun b hb=>?_⟩,?_,Dm _,by omega,Ag,hsl,⟨by simp[a1m]⟩,⟨?_⟩,by simp[*]⟩
  ·simp (disch:=omega) only[Ad]
  ·simp (disch:=omega) only[Ad,Ag]
  ·refine HR.out.ext (by omega) fun a x ha hx=>?_;rw[a3l (by omega)];exact HP3.out _ _ _ _ hx (by simp (disch:=omega) only[Ad])
 rintro m gf H' ⟨k,n2,B,gL,cs,l,hk,rfl,rfl,hn2,hll,hl0,HG,hgn,hB1,hB2,hgB,hcl,HL,HRW,w1,w3,w4⟩ ih;refine rnd [] (by decide +kernel) ?_;by_cases hlt:k<S.length
 ·have hltI:(k:Int)<(S.length:Int):=by omega
  obtain⟨a2,o2,qv,ha2,hia2,hc2,hq⟩:=HS.out.at hlt;replace hc2:=g0y (f:=fun _=>hd g a2) (fun u hu=>HP1.out _ _ _ hu) hc2;have hmem:=Ds hlt;have HQ:=Aa.mk hq;have HBS:=Aa.mk fun (j:Nat)=>HB.out S[k] hmem j;have HLK:=Aa.mk (g0x (q:=I) hlt);clear hq hmem;generalize S[k]=s at *
  iterate 8 all_goals try first|apply spl<;>intro h|simp (disch:=first|assumption|omega|simp) [*]
  refine LX.ind (fun m gf H'=>∃ (i n2 B:Nat) (gL:Gb) (cs:List AV) (l:Wq),i<=I/\m=I-i/\H'=⟨.fn gL,n2⟩/\n+1<=n2/\l.length<=100+k*16+i/\0<l.length/\Aa (∀ b,b<n->gL b=g b)/\gL n=some (.cells [.li I,c1,sv,c3,c4,c5,c6] true 0)/\n+1<=B/\B<n2/\gL B=some (.cells cs true 1)/\cs.length=l.length*1/\Aa (l=S++a1m I (S.take k)++b2y s i)/\Aa (RowsW (a1v B (hd gL)) n2 l cs) /\
   gf 1=some (.ptr n 0)/\gf 3=some (.slq B 0 l.length 0)/\gf 4=some (.li k)/\gf 5=some (.li i)) (m0:=I) ?_ ?_
  ·exact⟨0,n2,B,gL,cs,l,Dt _,rfl,rfl,hn2,by omega,hl0,HG,hgn,hB1,hB2,hgB,hcl,⟨by rw[HL.out];simp[b2y]⟩,HRW,by simp[*]⟩
  clear hgB hcl HL HRW w1 w3 w4 hgn HG hll hl0;rintro m2 gf2 H2 ⟨i,n3,B2,g3,cs,l,hi,rfl,rfl,hn3,hll,hl0,HG,hgn,hB1,hB2,hgB,hcl,HL,HRW,w1,w3,w4,w5⟩ ih2;refine rnd [] (by decide +kernel) ?_;by_cases hii:i<I
  ·have hiiI:(i:Int)<(I:Int):=by omega
   have hc3:=hc2;rw[<- HG.out a2 ha2] at hc3
   iterate 8 all_goals try first|apply spl<;>intro h|simp (disch:=first|assumption|omega|simp) [*]
   refine WC.mono (HBS.out i _ _ _ _ (Af.mono (by omega) (fun b hb=>?_) (Af.ext (Dm _) (fun a u _ hu=>HP1.out _ _ _ hu) HQ.out)) (Aj.of (own:=true) (z:=0) Ag (by omega))) ?_
   ·simp (disch:=omega) only[Ad];exact HG.out b hb
   rintro _ ⟨uv,g4,n4,rfl,hn4,hg4,hfu⟩;have hgn4:g4 n=some (.cells [.li I,c1,sv,c3,c4,c5,c6] true 0):=by rw[hg4 n (by omega)];simp (disch:=omega) only[Ad];exact hgn
   have hgB4:g4 B2=some (.cells cs true 1):=by rw[hg4 B2 (by omega)];simp (disch:=omega) only[Ad];exact hgB
   have h1u:=hfu.rep.one;have h2u:allOne [uv]=true:=by simp[h1u]
   have hcu:cellsOf uv=[uv]:=hfu.rep.cell;have HG4:Aa (∀ b,b<n3->g4 b=g3 b):=⟨fun b hb=>by rw[hg4 b (by omega)];simp (disch:=omega) only[Ad]⟩;have HF:=Aa.mk hfu;clear hg4 hfu
   iterate 8 all_goals try first|apply spl<;>intro h|simp (disch:=first|assumption|omega|simp) [*]
   refine ih2.out (I-(i+1)) _ _ (by omega) ⟨i+1,n4+1+1,n4+1,_,cs++[uv],l++[s++[(i:Int)]],by omega,rfl,rfl,by omega,by simp;omega,by simp,⟨fun b hb=>?_⟩,?_,by omega,by omega,Ag,by simp;omega,⟨by rw[HL.out,g0w];simp⟩,⟨?_⟩,by simp[*]⟩
   ·simp (disch:=omega) only[Ad,Ae];exact(HG4.out b (by omega)).trans (HG.out b hb)
   ·simp (disch:=omega) only[Ad,Ae];exact hgn4
   ·refine RowsW.snoc (HRW.out.ext (by omega) fun a x ha hx=>?_) (Af.ext (Dm _) (fun a x _ hx=>?_) (HF.out.keep (g':=a1v (n4+1) (hd (Ap (Ap (Ap g4 n4 (some (.cells [uv] true 0))) B2 none) (n4+1) (some (.cells (cs++[uv]) true 1))))) (lo':=0) (n':=n4+1+1) (by omega) (by omega) fun a h1 h2=>?_).rep)
    ·rw[a3l (by omega)];by_cases hab:a=B2
     ·subst hab;exact absurd hx (by unfold a1v;simp)
     ·rw[a3l hab] at hx;refine HP3.out _ _ _ _ hx ?_;simp (disch:=omega) only[Ad,Ae];exact HG4.out a ha
    ·exact hx
    ·rw[a3l (by omega),HP2.out _ _ (by omega)];simp (disch:=omega) only[Ad,Ae]
  ·have hiiI:¬(i:Int)<(I:Int):=by omega
   have hie:i=I:=by omega
   subst hie
   iterate 8 all_goals try first|apply spl<;>intro h|simp (disch:=first|assumption|omega|simp) [*]
   exact ih.out (S.length-(k+1)) _ _ (by omega) ⟨k+1,n3,B2,g3,cs,l,by omega,rfl,rfl,hn3,by omega,hl0,HG,hgn,hB1,hB2,hgB,hcl,⟨by rw[HL.out,HLK.out];simp⟩,HRW,by simp[*]⟩
 ·have hltI:¬(k:Int)<(S.length:Int):=by omega
  have hke:k=S.length:=by omega
  have HLE:Aa (l=Ak I S):=⟨by rw[HL.out,Ee (by omega)];rfl⟩
  iterate 8 all_goals try first|apply spl<;>intro h|simp (disch:=first|assumption|omega|simp) [*]
  refine⟨_,_,_,⟨rfl,rfl,rfl⟩,by omega,HG.out,B,cs,?_,?_⟩
  ·rw[<- HLE.out];exact .inr ⟨hl0,rfl,by omega,by omega,hgB,hcl⟩
  ·rw[<- HLE.out];exact HRW.out.ext (Dm _) fun a x _ hx=>a8m hx
theorem g0z (x y z:Nat) {I:Nat} (hI:I<=16) {S:Wq} (hSl:S.length<=100) (hS0:0<S.length) (hwl:∀ w∈S,w.length<=300) (c1 c3 c4 c5 c6:AV) (h1c:oneC c1=true) (h3c:oneC c3=true) (h4c:oneC c4=true) (h5c:oneC c5=true) (h6c:oneC c6=true) (g:Gb) (n:Nat) (hx:x<n) (hy:y<n) (hz:z<n) (sv:AV) (hS:Bj (Bs x y z g) n S sv) :
  WC 0 prog 43 [.agg [.li I,c1,sv,c3,c4,c5,c6]] ⟨.fn g,n⟩ fun r=>∃ ov g' n',r=.ret ov ⟨.fn g',n'⟩/\n<=n'/\(∀ b,b<n->g' b=g b)/\∃ B cs,Bc g' n n' B ov (Ak I S).length 1 cs/\RowsW (Bs x y z g') n' (Ak I S) cs :=
 d6z (Bs x y z) hI hSl hS0 hwl c1 c3 c4 c5 c6 h1c h3c h4c h5c h6c g n (fun _ _ _ h=>b1d h) (fun _ _ h=>a4b (by omega) (by omega) (by omega)) (fun g g' a u h e=>(c7d fun _ _ _=>e).trans h) sv hS
theorem d7a {I:Nat} (hI:I<=16) {S:Wq} (hSl:S.length<=100) (hS0:0<S.length) (hwl:∀ w∈S,w.length<=300) (c1 c3 c4 c5 c6:AV) (h1c:oneC c1=true) (h3c:oneC c3=true) (h4c:oneC c4=true) (h5c:oneC c5=true) (h6c:oneC c6=true) (g:Gb) (n:Nat) (sv:AV) (hS:Bj g n S sv) :
  WC 0 prog 43 [.agg [.li I,c1,sv,c3,c4,c5,c6]] ⟨.fn g,n⟩ fun r=>∃ ov g' n',r=.ret ov ⟨.fn g',n'⟩/\n<=n'/\(∀ b,b<n->g' b=g b)/\∃ B cs,Bc g' n n' B ov (Ak I S).length 1 cs/\RowsW g' n' (Ak I S) cs :=
 d6z id hI hSl hS0 hwl c1 c3 c4 c5 c6 h1c h3c h4c h5c h6c g n (fun _ _ _ h=>h) (fun _ _ _=>rfl) (fun g g' a u h e=>e.trans h) sv hS
end Go.Ai
end

