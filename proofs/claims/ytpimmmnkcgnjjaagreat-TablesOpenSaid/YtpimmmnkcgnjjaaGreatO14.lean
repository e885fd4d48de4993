/- A small verified interpreter over names, its proofs, and what was proved with it. No condition. -/
import Derived.Shelf.SlSortCmp.WholeK
import Derived.Test.YtpimmmnkcgnjjaaGreatProg
import Derived.Shelf.SlSortCmp.Whole1
import Derived.Test.YtpimmmnkcgnjjaaGreatRows
import Derived.Test.YtpimmmnkcgnjjaaGreatO13
import Derived.Test.YtpimmmnkcgnjjaaGreatO09
import Derived.Test.YtpimmmnkcgnjjaaGreatO07
import Derived.Test.YtpimmmnkcgnjjaaGreatO12
import Derived.Test.YtpimmmnkcgnjjaaGreatO06
set_option linter.all false
set_option linter.deprecated false
section
namespace Go.Ai
open Go.Proofs Go.Proofs.Tryz
set_option maxRecDepth 10000
set_option maxHeartbeats 40000000
theorem d7k (c0 c1 c2 c3 c4 c5 c6:AV) (hc:allOne [c0,c1,c2,c3,c4,c5,c6]=true) (g:Gb) (n:Nat) :
  WC 0 prog 108 [.agg [c0,c1,c2,c3,c4,c5,c6]] ⟨.fn g,n⟩ fun r=>r=.ret (.func (.func 136) [] [.ptr n 0]) ⟨.fn (Ap g n (some (.cells [c0,c1,c2,c3,c4,c5,c6] true 0))),n+1⟩:=by
 refine ent [] func108 rfl (by decide +kernel) (by kernel_rfl) ?_
 iterate 8 all_goals try first|apply spl<;>intro h|simp (disch:=first|assumption|omega|simp) [*]
def Db (T:Tq) (E:Wq) (w:Wd) : Wq:=(E.map (w ++ ·)).filter fun x=>(Bf T 0 x).isNone
def Bb (T:Tq) (E:Wq) (ws:Wq) : Wq:=ws.flatMap (Db T E)
theorem d7l {T:Tq} {E:Wq} {w:Wd} {k:Nat} (h:k<E.length) : Db T (E.take (k+1)) w=Db T (E.take k) w++(if (Bf T 0 (w++E[k])).isNone then [w++E[k]] else []):=by
 unfold Db;rw[g4c h,g3z,List.filter_append];congr 1;by_cases h2:(Bf T 0 (w++E[k])).isNone=true<;>simp[h2]
theorem d7m {T:Tq} {E:Wq} {ws:Wq} {k:Nat} {w:Wd} (h:ws[k]?=some w) : Bb T E (ws.take (k+1))=Bb T E (ws.take k)++Db T E w:=by
 unfold Bb;obtain⟨hk,rfl⟩:=Eb.1 h;rw[g4c hk,List.flatMap_append];simp
end Go.Ai
end
section
namespace Go.Ai
open Go.Proofs Go.Proofs.Tryz
set_option maxRecDepth 10000
set_option maxHeartbeats 40000000
variable {g gL:Gb} {X:Nat→Prop} {n2:Nat} {l:Wq}
def a2n (g:Gb) (lo B:Nat) : Gb:=fun a=>if lo<=a/\a≠B then g a else none
theorem a8z {lo B a:Nat} {z:Blk} (h:a2n g lo B a=some z) : lo<=a/\a≠B/\g a=some z:=by
 unfold a2n at h;split at h
 ·rename_i h1;exact⟨h1.1,h1.2,h⟩
 ·cases h
theorem c1w {lo B a:Nat} (h1:lo<=a) (h2:a≠B) : a2n g lo B a=g a:=if_pos ⟨h1,h2⟩
def a6h (X:Nat->Prop) (gL:Gb) (lo n2:Nat) (l:Wq) (ov:AV) : Prop :=
 (l=[]/\ov=.nl)\/(0<l.length/\∃ B cs,ov=.slq B 0 l.length 0/\lo<=B/\B<n2/\X B/\gL B=some (.cells cs true 1)/\cs.length=l.length/\RowsW (a2n gL lo B) n2 l cs/\∀ q∈cs,Bm q)
theorem a6h.keep {Y:Nat->Prop} {g': Gb} {lo n': Nat} {ov:AV} (h:a6h X gL lo n2 l ov) (hX:∀ b,lo<=b->b<n2->X b->Y b) (hn:n2<=n') (hg:∀ b,lo<=b->b<n2->g' b=gL b) : a6h Y g' lo n' l ov:=by
 rcases h with h|⟨h0,B,cs,h1,h2,h3,h9,h4,h5,h7,h8⟩
 ·exact .inl h
 ·refine .inr ⟨h0,B,cs,h1,h2,by omega,hX _ h2 h3 h9,(hg B h2 h3).trans h4,h5,h7.ext hn fun a z ha hz=>?_,h8⟩;obtain⟨e1,e2,e3⟩:=a8z hz;rw[c1w e1 e2,hg a e1 ha];exact e3
theorem a6h.push {gN:Gb} {lo n5:Nat} {x:Wd} {cs:List AV} {uv:AV} (B:Nat) (hrows:RowsW (a2n gL lo B) n2 l cs) (hcap:∀ q∈cs,Bm q) (hn:n2<=n5) (hlo:lo<=n2) (hg:∀ b,lo<=b->b<n2->b≠B->gN b=gL b) (hfr:a1b gN n2 n5 x uv) (hcu:Bm uv) (hnew:gN (n5+1)=some (.cells (cs++[uv]) true 1)) (hX:X (n5+1)) : a6h X gN lo (n5+1+1) (l++[x]) (.slq (n5+1) 0 (l.length+1) 0):=by
 refine .inr ⟨by simp,n5+1,cs++[uv],by simp,by omega,by omega,hX,hnew,by simp[hrows.1],RowsW.snoc (hrows.ext (by omega) fun a z ha hz=>?_) ?_,fun q hq=>?_⟩
 ·obtain⟨e1,e2,e3⟩:=a8z hz;rw[c1w e1 (by omega),hg a e1 ha e2];exact e3
 ·obtain⟨gk,h1,h2⟩:=hfr;refine Af.ext (by omega) (fun a z _ hz=>?_) h2;obtain⟨e1,e2,e3⟩:=h1 a z hz;rw[c1w (by omega) (by omega)];exact e1
 ·rcases Ed.1 hq with h|h
  ·exact hcap q h
  ·rw[Ek.1 h];exact hcu
def a7h (X:Nat->Prop) (g:Gb) (n:Nat) (tc:List AV) (l:Wq) (gL:Gb) (n2:Nat) : Prop :=
 (∀ b,b<n->gL b=g b)/\n+3<=n2/\gL n=some (.cells tc true 0)/\gL (n+2)=some (.cells tc true 0)/\∃ ov,gL (n+1)=some (.cells [ov] true 0)/\a6h X gL (n+3) n2 l ov
theorem a7h.keep {Y:Nat->Prop} {g': Gb} {n n': Nat} {tc:List AV} (h:a7h X g n tc l gL n2) (hX:∀ b,n+3<=b->b<n2->X b->Y b) (hn:n2<=n') (hg:∀ b,b<n2->g' b=gL b) : a7h Y g n tc l g' n':=by
 obtain⟨h1,h2,h3,h4,ov,h5,h6⟩:=h;exact⟨fun b hb=>(hg b (by omega)).trans (h1 b hb),by omega,(hg _ (by omega)).trans h3,(hg _ (by omega)).trans h4,ov,(hg _ (by omega)).trans h5,h6.keep hX hn fun b _ hb=>hg b hb⟩
theorem c7i {w:Wd} {I i:Nat} (h:inW w I=true) (hi:i<I) : inW (w++[(i:Int)]) I=true:=b1c h (by simp[inW];omega)
theorem b4x {I:Nat} {S:Wq} (hSw:∀ w∈S,w.length<=300/\inW w I=true) {k:Nat} {w:Wd} (h:(Ak I S)[k]?=some w) : w.length<=301/\inW w I=true:=by
 have hm:=En h;rcases Ed.1 hm with h1|h1
 ·have:=hSw w h1;exact⟨by omega,this.2⟩
 ·obtain⟨s,hs,h2⟩:=g4i.1 h1;obtain⟨i,hi,rfl⟩:=Eg.1 h2;have:=hSw s hs;exact⟨by rw[Dr,Ef];omega,c7i this.2 (g6r.1 hi)⟩
theorem c7j {T:Tq} {E:Wq} {w:Wd} : (Db T E w).length<=E.length:=by
 unfold Db;exact Dw (List.length_filter_le _ _) (by simp)
theorem c1x {T:Tq} {E:Wq} : ∀ {ws:Wq},(Bb T E ws).length<=ws.length*E.length
 | []=>by simp[Bb]
 | w :: ws=>by
  have h1:=c1x (T:=T) (E:=E) (ws:=ws);have h2:=c7j (T:=T) (E:=E) (w:=w);unfold Bb at h1 |-;rw[g5e,Dr,Ej,g4y];omega
end Go.Ai
end
section
namespace Go.Ai
open Go.Proofs Go.Proofs.Tryz
set_option maxRecDepth 10000
set_option maxHeartbeats 40000000
def cI (x y:Int) : Int:=if x<y then -1 else if y<x then 1 else 0
theorem d7n (x:Int) (g:Gb) (n:Nat) : WC 0 prog 158 [.li x] ⟨.fn g,n⟩ fun r=>r=.ret (.lit (.bool false)) ⟨.fn g,n⟩:=by
 refine ent [] func158 rfl (by decide +kernel) (by kernel_rfl) ?_
 iterate 8 all_goals try first|apply spl<;>intro h|simp (disch:=first|assumption|omega|simp) [*]
theorem d7o (x y:Int) (g:Gb) (n:Nat) : WC 0 prog 140 [.li x,.li y] ⟨.fn g,n⟩ fun r=>r=.ret (.li (cI x y)) ⟨.fn g,n⟩:=by
 obtain⟨ret,hret⟩ : ∃ c,c=cI x y:=⟨_,rfl⟩;rw[<- hret];unfold cI at hret;have H1:=Aa.mk (d7n x g n);have H2:=Aa.mk (d7n y g n);rcases g6a x y with h|h|h
 ·rw[if_pos h] at hret;refine ent [] func140 rfl (by decide +kernel) (by kernel_rfl) ?_
  iterate 8 all_goals try first|apply spl<;>intro h|simp (disch:=first|assumption|omega|simp) [*]
  refine WC.mono H1.out ?_;rintro _ rfl
  iterate 8 all_goals try first|apply spl<;>intro h|simp (disch:=first|assumption|omega|simp) [*]
  refine WC.mono H2.out ?_;rintro _ rfl
  iterate 8 all_goals try first|apply spl<;>intro h|simp (disch:=first|assumption|omega|simp) [*]
 ·subst h;rw[if_neg (by omega),if_neg (by omega)] at hret;refine ent [] func140 rfl (by decide +kernel) (by kernel_rfl) ?_
  iterate 8 all_goals try first|apply spl<;>intro h|simp (disch:=first|assumption|omega|simp) [*]
  refine WC.mono H1.out ?_;rintro _ rfl
  iterate 8 all_goals try first|apply spl<;>intro h|simp (disch:=first|assumption|omega|simp) [*]
  refine WC.mono H2.out ?_;rintro _ rfl
  iterate 8 all_goals try first|apply spl<;>intro h|simp (disch:=first|assumption|omega|simp) [*]
 ·have h3:¬x<y:=by omega
  rw[if_neg h3,if_pos h] at hret;refine ent [] func140 rfl (by decide +kernel) (by kernel_rfl) ?_
  iterate 8 all_goals try first|apply spl<;>intro h|simp (disch:=first|assumption|omega|simp) [*]
  refine WC.mono H1.out ?_;rintro _ rfl
  iterate 8 all_goals try first|apply spl<;>intro h|simp (disch:=first|assumption|omega|simp) [*]
  refine WC.mono H2.out ?_;rintro _ rfl
  iterate 8 all_goals try first|apply spl<;>intro h|simp (disch:=first|assumption|omega|simp) [*]
theorem g1p (x y:Int) (g:Gb) (n B:Nat) (hB:g B=some (.cells [.li x,.li y] true 0)) (hBn:B<n) : WC 0 prog 139 [.sl B 0 2 2] ⟨.fn g,n⟩ fun r=>r=.ret (.li (if x=0 then y else x)) ⟨.fn g,n⟩:=by
 obtain⟨ret,hret⟩ : ∃ c,c=if x=0 then y else x:=⟨_,rfl⟩;rw[<- hret];have HRT:=Aa.mk hret;clear hret;refine ent [] func139 rfl (by decide +kernel) (by kernel_rfl) ?_
 iterate 8 all_goals try first|apply spl<;>intro h|simp (disch:=first|assumption|omega|simp) [*]
 refine LX.ind (fun m gf H'=>∃ k:Nat,k<=2/\m=2-k/\H'=⟨.fn g,n⟩/\(k=1->x=0)/\(k=2->x=0/\y=0)/\gf 3=some (.li 0)/\gf 6=some (.sl B 0 2 2)/\gf 7=some (.li 2)/\gf 8=some (.li k)) (m0:=2) ?_ ?_
 ·exact⟨0,by omega,rfl,rfl,fun h=>by omega,fun h=>by omega,by simp[*]⟩
 rintro m gf H' ⟨k,hk,rfl,rfl,h1,h2,w3,w6,w7,w8⟩ ih;have HX:=Aa.mk (And.intro h1 h2);clear h1 h2;refine rnd [] (by decide +kernel) ?_;rcases (by omega:k=0\/k=1\/k=2) with rfl|rfl|rfl
 ·have w8' : gf 8=some (.li 0):=w8;clear w8 hk;by_cases hx:x=0
  ·have HX0:=Aa.mk hx;subst hx
   iterate 8 all_goals try first|apply spl<;>intro h|simp (disch:=first|assumption|omega|simp) [*]
   exact ih.out 1 _ _ (by omega) ⟨1,by omega,rfl,rfl,fun _=>rfl,fun h=>by omega,by simp[*]⟩
  ·have hr:ret=x:=by rw[HRT.out,if_neg hx]
   subst hr
   iterate 8 all_goals try first|apply spl<;>intro h|simp (disch:=first|assumption|omega|simp) [*]
 ·have w8' : gf 8=some (.li 1):=w8;have hx:=HX.out.1 rfl;clear w8 hk;subst hx;have hr:ret=y:=by rw[HRT.out,if_pos rfl]
  clear HRT HX;by_cases hy:y=0
  ·subst hy
   iterate 8 all_goals try first|apply spl<;>intro h|simp (disch:=first|assumption|omega|simp) [*]
   exact ih.out 0 _ _ (by omega) ⟨2,by omega,rfl,rfl,fun h=>by omega,fun _=>⟨rfl,rfl⟩,by simp[*]⟩
  ·subst hr
   iterate 8 all_goals try first|apply spl<;>intro h|simp (disch:=first|assumption|omega|simp) [*]
 ·have w8' : gf 8=some (.li 2):=w8;obtain⟨hx,hy⟩:=HX.out.2 rfl;clear w8 hk;have hr:ret=0:=by rw[HRT.out,hx,hy];rfl
  subst hr
  iterate 8 all_goals try first|apply spl<;>intro h|simp (disch:=first|assumption|omega|simp) [*]
def slcM:Wd->Wd->Int
 | [],[]=>0
 | [],_ :: _=>-1
 | _ :: _,[]=>1
 | x :: a,y :: b=>if cI x y=0 then slcM a b else cI x y
theorem slcM_lex:∀ (a b:Wd),a.length=b.length->slcM a b=lexC a b
 | [],[],_=>rfl
 | [],_ :: _,h=>by cases h
 | _ :: _,[],h=>by cases h
 | x :: a,y :: b,h=>by
  show (if cI x y=0 then slcM a b else cI x y)=if x<y then -1 else if y<x then 1 else lexC a b;rw[slcM_lex a b (by simpa using h)];unfold cI;by_cases h1:x<y
  ·simp[h1]
  ·by_cases h2:y<x
   ·simp[h1,h2]
   ·simp[h1,h2]
theorem g1q (a b:Wd) (hal:a.length<=1000000) (hbl:b.length<=1000000) (g:Gb) (n:Nat) (sa sb:AV) (ha:Aj g n a sa) (hb:Aj g n b sb) :
  WC 0 prog 141 [sa,sb] ⟨.fn g,n⟩ fun r=>r=.ret (.li (slcM a b)) ⟨.fn g,n⟩:=by
 have hla:=@Am prog _ _ _ _ _ ha;have hlb:=@Am prog _ _ _ _ _ hb;have HA:=Aa.mk ha;have HB:=Aa.mk hb;clear ha hb;obtain⟨ret,hret⟩ : ∃ c,c=slcM a b:=⟨_,rfl⟩;rw[<- hret];have HRET:=Aa.mk hret;clear hret;refine ent [] func141 rfl (by decide +kernel) (by kernel_rfl) ?_
 iterate 8 all_goals try first|apply spl<;>intro h|simp (disch:=first|assumption|omega|simp) [*]
 refine LX.ind (fun m gf H'=>∃ k:Nat,k<=a.length/\k<=b.length/\m=a.length-k/\H'=⟨.fn g,n⟩/\Aa (ret=slcM (a.drop k) (b.drop k))/\gf 0=some sa/\gf 1=some sb/\gf 9=some sa/\gf 10=some (.li a.length)/\gf 11=some (.li k)) (m0:=a.length) ?_ ?_
 ·exact⟨0,Dt _,Dt _,rfl,rfl,⟨HRET.out⟩,by simp[*]⟩
 clear HRET;rintro m gf H' ⟨k,hk,hk2,rfl,rfl,HR,w0,w1,w9,w10,w11⟩ ih;refine rnd [] (by decide +kernel) ?_;by_cases hlt:k<a.length
 ·have hltI:(k:Int)<(a.length:Int):=by omega
  obtain⟨a1,o1,ha1,hia1,hc1⟩:=Aj.at HA.out hlt;have HDA:Aa (a.drop k=a[k] :: a.drop (k+1)):=⟨El hlt⟩;by_cases hlt2:k<b.length
  ·have hlt2I:¬(b.length:Int)<=(k:Int):=by omega
   obtain⟨a2,o2,ha2,hia2,hc2⟩:=Aj.at HB.out hlt2;have HST:Aa (ret=if cI a[k] b[k]=0 then slcM (a.drop (k+1)) (b.drop (k+1)) else cI a[k] b[k]):=⟨by
    rw[HR.out,HDA.out,El hlt2];rfl⟩
   have HC:=Aa.mk (d7o a[k] b[k] g n);clear HR HDA;generalize cI a[k] b[k]=c at *;generalize a[k]=x at *;generalize b[k]=y at *
   iterate 8 all_goals try first|apply spl<;>intro h|simp (disch:=first|assumption|omega|simp) [*]
   refine WC.mono HC.out ?_;rintro _ rfl;by_cases hc:c=0
   ·rw[if_pos hc] at HST;subst hc
    iterate 8 all_goals try first|apply spl<;>intro h|simp (disch:=first|assumption|omega|simp) [*]
    exact ih.out (a.length-(k+1)) _ _ (by omega) ⟨k+1,by omega,by omega,rfl,rfl,HST,by simp[*]⟩
   ·rw[if_neg hc] at HST;have hr:=HST.out;subst hr
    iterate 8 all_goals try first|apply spl<;>intro h|simp (disch:=first|assumption|omega|simp) [*]
  ·have hlt2I:(b.length:Int)<=(k:Int):=by omega
   have hr:ret=1:=by rw[HR.out,HDA.out,g3u (by omega:b.length<=k)];rfl
   subst hr
   iterate 8 all_goals try first|apply spl<;>intro h|simp (disch:=first|assumption|omega|simp) [*]
 ·have hltI:¬(k:Int)<(a.length:Int):=by omega
  have hka:k=a.length:=by omega
  by_cases hlt2:k<b.length
  ·have hlt2I:(a.length:Int)<(b.length:Int):=by omega
   have hr:ret = -1:=by rw[HR.out,g3u (by omega:a.length<=k),El hlt2];rfl
   subst hr
   iterate 8 all_goals try first|apply spl<;>intro h|simp (disch:=first|assumption|omega|simp) [*]
  ·have hlt2I:¬(a.length:Int)<(b.length:Int):=by omega
   have hr:ret=0:=by rw[HR.out,g3u (by omega:a.length<=k),g3u (by omega:b.length<=k)];rfl
   subst hr
   iterate 8 all_goals try first|apply spl<;>intro h|simp (disch:=first|assumption|omega|simp) [*]
theorem g1r (a b:Wd) : (if cI (a.length:Int) (b.length:Int)=0 then slcM a b else cI (a.length:Int) (b.length:Int))=Bh a b:=by
 unfold Bh;rcases Nat.lt_trichotomy a.length b.length with h|h|h
 ·have:cI (a.length:Int) (b.length:Int) = -1:=by unfold cI;rw[if_pos (by omega)]
  rw[this,if_neg (by decide),if_pos h]
 ·have:cI (a.length:Int) (b.length:Int)=0:=by unfold cI;rw[if_neg (by omega),if_neg (by omega)]
  rw[this,if_pos rfl,slcM_lex a b h,if_neg (by omega),if_neg (by omega)]
 ·have:cI (a.length:Int) (b.length:Int)=1:=by unfold cI;rw[if_neg (by omega),if_pos (by omega)]
  rw[this,if_neg (by decide),if_neg (by omega),if_pos h]
theorem g1s (a b:Wd) (hal:a.length<=1000000) (hbl:b.length<=1000000) (g:Gb) (n:Nat) (sa sb:AV) (ha:Aj g n a sa) (hb:Aj g n b sb) :
  WC 0 prog 110 [sa,sb] ⟨.fn g,n⟩ fun r=>r=.ret (.li (Bh a b)) ⟨.fn g,n⟩:=by
 refine WC.drop1 rfl ?_;have hla:=@Am prog _ _ _ _ _ ha;have hlb:=@Am prog _ _ _ _ _ hb;have HC:=Aa.mk (g1q a b hal hbl g n sa sb ha hb);have HL:=Aa.mk (d7o a.length b.length g n);have HOR:=Aa.mk (g1r a b);clear ha hb;generalize Bh a b=ret at *;generalize slcM a b=c2 at *;generalize cI (a.length:Int) (b.length:Int)=c1 at *;refine ent [] func110 rfl (by decide +kernel) (by kernel_rfl) ?_
 iterate 8 all_goals try first|apply spl<;>intro h|simp (disch:=first|assumption|omega|simp) [*]
 refine WC.mono HL.out ?_;rintro _ rfl
 iterate 8 all_goals try first|apply spl<;>intro h|simp (disch:=first|assumption|omega|simp) [*]
 refine WC.mono HC.out ?_;rintro _ rfl
 iterate 8 all_goals try first|apply spl<;>intro h|simp (disch:=first|assumption|omega|simp) [*]
 refine WC.mono (g1p c1 c2 _ _ n Ag (by omega)) ?_;rintro _ rfl;rw[HOR.out]
 iterate 8 all_goals try first|apply spl<;>intro h|simp (disch:=first|assumption|omega|simp) [*]
 exact⟨Dx n,fun b hb=>Ad hb⟩
end Go.Ai
end
section
namespace Go.Ai
open Go.Proofs Go.Proofs.Tryz
set_option maxRecDepth 10000
set_option maxHeartbeats 40000000
end Go.Ai
end
section
namespace Go.Proofs
open Go.Shelf
end Go.Proofs
end
section
namespace Go.Ai
open Go.Proofs Go.Proofs.Tryz Go.RowKit Go.Shelf
set_option maxRecDepth 10000
set_option maxHeartbeats 40000000
theorem a1j.froz {g:Gb} {lo n B:Nat} {w:Wd} {sv:AV} (h:a1j g lo n B w sv) : Aj (froz B g) n w sv:=by
 obtain⟨gk,h1,h2⟩:=h;rcases h2 with h2|⟨a,off,h3,h4,l,own,z,e1,e2,e3⟩
 ·exact .inl h2
 ·obtain⟨q1,_,_,q2⟩:=h1 a _ e1;exact .inr ⟨a,off,h3,h4,l,false,z,d4x q2 q1,e2,e3⟩
theorem g1t (key:Nat->Wd) : Go.Sort.SWO (ltOf fun i j=>Bh (key i) (key j)):=by
 have hl:∀ i j,ltOf (fun i j=>Bh (key i) (key j)) i j=decide (Bh (key i) (key j)<0):=fun i j=>rfl;refine⟨fun x=>?_,fun x y z h1 h2=>?_,fun x y z h1 h2=>?_⟩
 ·rw[hl,decide_eq_false];intro h;exact SL.irrefl (a3w.1 h)
 ·rw[hl,decide_eq_true_eq] at h1 h2 |-;exact a3w.2 ((a3w.1 h1).trans (a3w.1 h2))
 ·rw[hl,decide_eq_false_iff_not] at h1 h2 |-;intro h3;have h3:=a3w.1 h3;rcases g6a (Bh (key x) (key y)) 0 with h|h|h
  ·exact h1 h
  ·rw[b4o h] at h3;exact h2 (a3w.2 h3)
  ·exact h2 (a3w.2 ((c6u h).trans h3))
end Go.Ai
end
section
namespace Go.Proofs
open Go.Shelf
def Tryz.sortW_ren:Go.Shelf.Ren:=⟨fun|6=>109|15=>138|14=>137|28=>156|29=>157|20=>148|21=>149|22=>150|23=>151|24=>152|25=>153|26=>154|27=>155|46=>167|47=>168|48=>169|49=>170|50=>171|57=>175|n=>n,fun|22=>22|24=>65|25=>110|3=>3|39=>172|0=>0|53=>189|55=>191|4=>4|46=>183|45=>182|50=>120|5=>5|9=>9|66=>197|70=>201|76=>205|77=>206|n=>n,fun|n=>n⟩
theorem Tryz.sortW:Go.Proofs.SlLaysF.n6 prog Tryz.sortW_ren:={
 mixed:=by kernel_rfl
 f6:=⟨f109.name,by decide,func109.trans (congrArg some (by kernel_rfl))⟩
 f14:=⟨f137.name,by decide,func137.trans (congrArg some (by kernel_rfl))⟩
 f15:=func138.trans (congrArg some (by kernel_rfl))
 f20:=⟨f148.name,by decide,func148.trans (congrArg some (by kernel_rfl))⟩
 f21:=⟨f149.name,by decide,func149.trans (congrArg some (by kernel_rfl))⟩
 f22:=⟨f150.name,by decide,func150.trans (congrArg some (by kernel_rfl))⟩
 f23:=⟨f151.name,by decide,func151.trans (congrArg some (by kernel_rfl))⟩
 f24:=⟨f152.name,by decide,func152.trans (congrArg some (by kernel_rfl))⟩
 f25:=⟨f153.name,by decide,func153.trans (congrArg some (by kernel_rfl))⟩
 f26:=⟨f154.name,by decide,func154.trans (congrArg some (by kernel_rfl))⟩
 f27:=⟨f155.name,by decide,func155.trans (congrArg some (by kernel_rfl))⟩
 f28:=func156.trans (congrArg some (by kernel_rfl))
 f29:=func157.trans (congrArg some (by kernel_rfl))
 f46:=⟨f167.name,by decide,func167.trans (congrArg some (by kernel_rfl))⟩
 f47:=func168.trans (congrArg some (by kernel_rfl))
 f48:=func169.trans (congrArg some (by kernel_rfl))
 f49:=⟨f170.name,by decide,func170.trans (congrArg some (by kernel_rfl))⟩
 f50:=⟨f171.name,by decide,func171.trans (congrArg some (by kernel_rfl))⟩
 f57:=⟨f175.name,by decide,func175.trans (congrArg some (by kernel_rfl))⟩
 t0:=underlying0
 a0:=isAgg0
 z0:=sizeOf0
 v0:=zeroValue0
 t3:=underlying3
 a3:=isAgg3
 z3:=sizeOf3
 v3:=zeroValue3
 t4:=underlying4
 a4:=isAgg4
 z4:=sizeOf4
 v4:=zeroValue4
 t5:=underlying5
 a5:=isAgg5
 z5:=sizeOf5
 v5:=zeroValue5
 t9:=underlying9
 a9:=isAgg9
 z9:=sizeOf9
 v9:=zeroValue9
 t22:=underlying22
 a22:=isAgg22
 z22:=sizeOf22
 v22:=zeroValue22
 a24:=isAgg65
 z24:=sizeOf65
 t25:=underlying110
 a25:=isAgg110
 z25:=sizeOf110
 v25:=zeroValue110
 t39:=underlying172
 a39:=isAgg172
 z39:=sizeOf172
 v39:=zeroValue172
 t45:=underlying182
 a45:=isAgg182
 z45:=sizeOf182
 v45:=zeroValue182
 t46:=underlying183
 a46:=isAgg183
 z46:=sizeOf183
 v46:=zeroValue183
 t50:=underlying120
 a50:=isAgg120
 z50:=sizeOf120
 v50:=zeroValue120
 t53:=underlying189
 a53:=isAgg189
 z53:=sizeOf189
 v53:=zeroValue189
 t55:=underlying191
 a55:=isAgg191
 z55:=sizeOf191
 v55:=zeroValue191
 t66:=underlying197
 a66:=isAgg197
 z66:=sizeOf197
 v66:=zeroValue197
 t70:=underlying201
 a70:=isAgg201
 z70:=sizeOf201
 v70:=zeroValue201
 t76:=underlying205
 a76:=isAgg205
 z76:=sizeOf205
 v76:=zeroValue205
 t77:=underlying206
 a77:=isAgg206
 z77:=sizeOf206
 v77:=zeroValue206 }
end Go.Proofs
end
section
namespace Go.Ai
open Go.Proofs Go.Proofs.Tryz Go.RowKit Go.Shelf
set_option maxRecDepth 10000
set_option maxHeartbeats 40000000
theorem Aj.froz {g:Gb} {lo n B:Nat} {w:Wd} {sv:AV} (h:Aj (a2n g lo B) n w sv) : Aj (froz B g) n w sv:=by
 rcases h with h2|⟨a,off,h3,h4,l,own,z,e1,e2,e3⟩
 ·exact .inl h2
 ·obtain⟨_,q2,q1⟩:=a8z e1;exact .inr ⟨a,off,h3,h4,l,false,z,d4x q2 q1,e2,e3⟩
theorem g1u {l:Wq} {cs:List AV} {g:Gb} {lo n B:Nat} (hrf:RowsW (a2n g lo B) n l cs) (hgB:g B=some (.cells cs true 1)) (hpos:0<l.length) (hlen:l.length<=100000) (hw:∀ w∈l,w.length<=1000000) :
  WC 0 prog 109 [.slq B 0 l.length 0,.lit (.func (.func 110) #[] #[])] ⟨.fn g,n⟩ fun r=>∃ (l' : Wq) (cs' : List AV),l'.Perm l/\(∀ (i j:Nat) (_:i<j) (hj:j<l'.length),¬ Bh l'[j] (l'[i]'(by omega))<0)/\r=.ret (.tup []) ⟨.fn (Ap g B (some (.cells cs' true 1))),n⟩/\RowsW (a2n (Ap g B (some (.cells cs' true 1))) lo B) n l' cs'/\∀ v∈cs',v∈cs:=by
 have hit:∀ (k:Nat) (h:k<cs.length),Aj (a2n g lo B) n (l[k]'(by have:=hrf.1;omega)) cs[k]:=by
  intro k h;obtain⟨sv,e1,e2⟩:=hrf.2 k (by have:=hrf.1;omega);rw[Dy h] at e1;cases e1;exact e2
 have hl:=hrf.1;have h:=WC.sort1 (G:=0) sortW 110 (enters_of func110 (by kernel_rfl) rfl) (its:=cs) hrf.allOne (fun i j=>Bh (l.getD i []) (l.getD j [])) (g1t fun i=>l.getD i []) (g:=g) (n:=n) (Bn:=B) (z:=1) hgB (sv:=.slq B 0 l.length 0) (.inr ⟨0,by rw[hl]⟩) (by omega) (by omega) (fun i j hi hj=>by
   rw[(b4k (d:=[]) (show i<l.length by omega)).2,(b4k (d:=[]) (show j<l.length by omega)).2];exact WC.mono (g1s _ _ (hw _ (Ds _)) (hw _ (Ds _)) _ n _ _ (hit i hi).froz (hit j hj).froz) fun r hr=>⟨_,_,hr⟩)
 refine WC.mono h ?_;rintro _ ⟨is,hp,hs,rfl⟩;have hil:is.length=l.length:=by rw[hp.length_eq,List.length_range,hl]
 have hlt:∀ i∈is,i<l.length:=fun i hi=>by have:=g6r.1 (hp.mem_iff.1 hi);omega
 refine⟨is.map fun i=>l.getD i [],_,?_,fun i j hij hj=>?_,rfl,⟨by simp,fun k hk=>?_⟩,fun v hv=>?_⟩
 ·have:=hp.map fun i=>l.getD i [];refine this.trans (List.Perm.of_eq ?_);apply List.ext_getElem
  ·simp[hl]
  ·intro k h1 h2;rw[g4v,List.getElem_range,(b4k (by omega)).2]
 ·rw[g4v,g4v];rw[Ei] at hj;exact hs i j hij hj
 ·rw[Ei] at hk;have hik:=hlt _ (Ds hk);refine⟨cs[is[k]]'(by omega),?_,?_⟩
  ·rw[g4l,Dy hk,g6s,g3s,Dy (by omega)];rfl
  ·rw[g4v,(b4k (by omega)).2];refine Af.ext (Dm _) (fun a z _ hz=>?_) (hit is[k] (by omega));obtain⟨e1,e2,e3⟩:=a8z hz;rw[c1w e1 e2,Ae e2];exact e3
 ·obtain⟨i,hi,rfl⟩:=Eg.1 hv;have:=hlt i hi;rw[g3s,Dy (by omega)];exact Ds _
end Go.Ai
end
section
namespace Go.Ai
open Go.Proofs Go.Proofs.Tryz
set_option maxRecDepth 10000
set_option maxHeartbeats 40000000
theorem RowK.low {g:Gb} {lo lo' n:Nat} {r:Option (Wd)} {rv:AV} (h:RowK g lo n r rv) (hl:lo'<=lo) : RowK g lo' n r rv:=by
 cases r with
 | none=>exact h
 | some r=>exact⟨h.1.keep hl (Dm _) fun _ _ _=>rfl,h.2⟩
end Go.Ai
end
section
namespace Go.Ai
open Go.Proofs Go.Proofs.Tryz
set_option maxRecDepth 10000
set_option maxHeartbeats 40000000
theorem d7p {a b:Wd} (hal:a.length<=100000) (hbl:b.length<=100000) (g:Gb) (n:Nat) (av bv:AV) (ha:Aj g n a av) (hb:Aj g n b bv) :
  WC 0 prog 112 [av,bv] ⟨.fn g,n⟩ fun r=>r=.ret (.lit (.bool (decide (a=b)))) ⟨.fn g,n⟩:=by
 have hlena:=@Am prog _ _ _ _ _ ha;have hlenb:=@Am prog _ _ _ _ _ hb;have HA:=Aa.mk ha;have HB:=Aa.mk hb;clear ha hb;obtain⟨ret,hret⟩ : ∃ x,x=decide (a=b):=⟨_,rfl⟩;rw[<- hret];have HRET:=Aa.mk hret;clear hret;by_cases hl:a.length=b.length
 ·have hlI:(a.length:Int)=(b.length:Int):=by omega
  refine ent pl112 func112 rfl (by decide +kernel) (by kernel_rfl) ?_
  iterate 8 all_goals try first|apply spl<;>intro h|simp (disch:=first|assumption|omega|simp) [*]
  refine LX.ind (fun m gf H'=>∃ k:Nat,k<=b.length/\m=b.length-k/\H'=⟨.fn g,n⟩/\Aa (a.take k=b.take k)/\gf 0=some av/\gf 1=some bv/\gf 12=some (.li b.length)/\gf 13=some (.li k)) (m0:=b.length) ?_ ?_
  ·exact⟨0,Dt _,rfl,rfl,⟨by simp⟩,by simp[*]⟩
  rintro m gf H' ⟨k,hk,rfl,rfl,HT,w0,w1,w12,w13⟩ ih;refine rnd pl112 (by decide +kernel) ?_;by_cases hlt:k<b.length
  ·have hltI:(k:Int)<(b.length:Int):=by omega
   have hlta:k<a.length:=by omega
   obtain⟨a2,o2,ha2,hia2,hc2⟩:=Aj.at HA.out hlta;obtain⟨a3,o3,ha3,hia3,hc3⟩:=Aj.at HB.out hlt;have HTA:=Aa.mk (a2l hlta);have HTB:=Aa.mk (a2l hlt);generalize a[k]=x at *;generalize b[k]=y at *;by_cases hxy:x=y
   ·subst hxy
    iterate 8 all_goals try first|apply spl<;>intro h|simp (disch:=first|assumption|omega|simp) [*]
    exact ih.out (b.length-(k+1)) _ _ (by omega) ⟨k+1,by omega,rfl,rfl,⟨by rw[HTA.out,HTB.out,HT.out]⟩,by simp[*]⟩
   ·have hr:ret=false:=by
     rw[HRET.out];refine decide_eq_false fun h=>hxy ?_;have h1:=HTA.out;rw[h,HTB.out,<- h,HT.out] at h1;have:=List.append_cancel_left h1;simpa using this.symm
    subst hr
    iterate 8 all_goals try first|apply spl<;>intro h|simp (disch:=first|assumption|omega|simp) [*]
  ·have hltI:¬(k:Int)<(b.length:Int):=by omega
   have hr:ret=true:=by
    rw[HRET.out];refine decide_eq_true ?_;have:=HT.out
    rwa [Ee (by omega),Ee (by omega)] at this
   subst hr
   iterate 8 all_goals try first|apply spl<;>intro h|simp (disch:=first|assumption|omega|simp) [*]
 ·have hlI:¬(a.length:Int)=(b.length:Int):=by omega
  have hr:ret=false:=by rw[HRET.out];exact decide_eq_false fun h=>hl (by rw[h])
  subst hr;refine ent pl112 func112 rfl (by decide +kernel) (by kernel_rfl) ?_
  iterate 8 all_goals try first|apply spl<;>intro h|simp (disch:=first|assumption|omega|simp) [*]
end Go.Ai
end
section
namespace Go.Ai
open Go.Proofs Go.Proofs.Tryz
set_option maxRecDepth 10000
set_option maxHeartbeats 40000000
end Go.Ai
end
section
namespace Go.Ai
open Go.Proofs Go.Proofs.Tryz
set_option maxRecDepth 100000
def vI (k:IntKind) (n:Nat) : AV:=.lit (.int k (Int.ofNat n))
def vM (k:IntKind) (n:Nat) : AV:=.lit (.int k (Int.negSucc n))
def bl0:List AV:=[vM .i64 0,vM .i64 0,vM .i64 0,vM .i64 0]
def bl1:List AV:=[.sl 20 0 2 2]
def bl2:List AV:=[vI .i64 1]
def bl3:List AV:=[vI .i64 0]
def bl4:List AV:=[.sl 5 0 1 1,.sl 6 0 1 1]
def bl5:List AV:=[]
def bl6:List AV:=[.sl 1 0 0 0]
def bl7:List AV:=[vI .i64 5,vI .i64 0,vI .i64 6,vI .i64 0]
def bl8:List AV:=[vI .i64 3,vI .i64 1,vI .i64 4,vI .i64 0]
def bl9:List AV:=[vI .i64 1,vI .i64 0,vI .i64 2,vI .i64 0]
def bl10:List AV:=[.sl 495 0 2 2,.sl 502 0 2 2,.sl 509 0 2 2,.sl 516 0 2 2,.sl 521 0 2 2,.sl 526 0 2 2,.sl 531 0 2 2]
def bl11:List AV:=[.sl 546 0 1 1,.sl 548 0 1 1]
def bl12:List AV:=[.sl 544 0 0 0]
def bl13:List AV:=[.sl 724 0 2 2,.sl 726 0 2 2,.sl 728 0 2 2,.sl 730 0 2 2,.sl 732 0 2 2,.sl 734 0 2 2,.sl 736 0 2 2]
def bl14:List AV:=[.sl 720 0 1 1,.sl 722 0 1 1]
def bl15:List AV:=[.sl 718 0 0 0,.sl 739 0 1 1]
def bl16:List AV:=[vI .i64 9,vI .i64 1,vI .i64 10,vI .i64 0]
def bl17:List AV:=[vI .i64 7,vI .i64 0,vI .i64 8,vI .i64 0]
def bl18:List AV:=[.sl 1530 0 2 2,.sl 1537 0 2 2,.sl 1544 0 2 2,.sl 1551 0 2 2,.sl 1558 0 2 2,.sl 1565 0 2 2,.sl 1570 0 2 2,.sl 1575 0 2 2,.sl 1580 0 2 2,.sl 1585 0 2 2,.sl 1590 0 2 2]
def bl19:List AV:=[.sl 1607 0 1 1,.sl 1609 0 1 1]
def bl20:List AV:=[.sl 1603 0 0 0,.sl 1605 0 1 1]
def bl21:List AV:=[vM .i64 0,vM .i64 0]
def bl22:List AV:=[.sl 2881 0 1 1]
def bl23:List AV:=[.sl 2867 0 1 1]
def bl24:List AV:=[.sl 2863 0 0 0]
def bl25:List AV:=[vI .i64 2,vI .i64 0]
def bl26:List AV:=[vI .i64 1,vI .i64 0]
def bl27:List AV:=[.sl 2952 0 1 1,.sl 2957 0 1 1,.sl 2962 0 1 1]
def bl28:List AV:=[.sl 2976 0 1 1]
def bl29:List AV:=[.sl 2974 0 0 0]
def bl30:List AV:=[vI .i64 3,vI .i64 1]
def bl31:List AV:=[.sl 3415 0 1 1,.sl 3420 0 1 1,.sl 3425 0 1 1,.sl 3430 0 1 1]
def bl32:List AV:=[.sl 3444 0 1 1]
def bl33:List AV:=[.sl 3442 0 0 0]
def bl34:List AV:=[vI .i64 0,vI .i64 1,vI .i64 1,vI .i64 0]
def bl35:List AV:=[vI .i64 1,vI .i64 0,vI .i64 0,vI .i64 0]
def bl36:List AV:=[.sl 117 0 2 2,.sl 118 0 2 2]
def bl37:List AV:=[vI .i64 0,vI .i64 0,vI .i64 0]
def bl38:List AV:=[vI .i64 0,vI .i64 1,vI .i64 1]
def bl39:List AV:=[vI .i64 0,vI .i64 0,vI .i64 1]
def bl40:List AV:=[vI .i64 0,vI .i64 1,vI .i64 0]
def bl41:List AV:=[.sl 1110 0 3 3,.sl 1102 0 3 3,.sl 1142 0 3 3,.sl 1134 0 3 3,.sl 1174 0 3 3,.sl 1166 0 3 3,.sl 1206 0 3 3,.sl 1198 0 3 3]
def bl42:List AV:=[.sl 896 0 2 2,.sl 897 0 2 2]
def bl43:List AV:=[vI .i64 0,vI .i64 0]
def glob0:List (Nat×List AV):=[]
noncomputable def H0:Mem:=⟨.tr (baseT glob0 e4),0⟩
theorem hG0:0=prog.globals.size:=by kernel_rfl
def bs0:List (Nat×List AV):=glob0++[(20,bl0),(18,bl1),(6,bl2),(5,bl3),(3,bl4),(1,bl5),(2,bl6)]
def bs1:List (Nat×List AV):=glob0++[(531,bl0),(526,bl0),(521,bl0),(516,bl0),(509,bl7),(502,bl8),(495,bl9),(493,bl10),(548,bl2),(546,bl3),(541,bl11),(544,bl5),(539,bl12)]
def bs2:List (Nat×List AV):=glob0++[(736,bl0),(734,bl0),(732,bl0),(730,bl0),(728,bl7),(726,bl8),(724,bl9),(717,bl13),(722,bl2),(720,bl3),(715,bl14),(739,bl3),(718,bl5),(741,bl15)]
def bs3:List (Nat×List AV):=glob0++[(1590,bl0),(1585,bl0),(1580,bl0),(1575,bl0),(1570,bl0),(1565,bl0),(1558,bl16),(1551,bl17),(1544,bl7),(1537,bl8),(1530,bl9),(1528,bl18),(1609,bl2),(1607,bl3),(1600,bl19),(1605,bl3),(1603,bl5),(1598,bl20)]
def bs4:List (Nat×List AV):=glob0++[(2881,bl21),(2879,bl22),(2867,bl3),(2865,bl23),(2863,bl5),(2864,bl24)]
def bs5:List (Nat×List AV):=glob0++[(2962,bl21),(2957,bl25),(2952,bl26),(2950,bl27),(2976,bl3),(2971,bl28),(2974,bl5),(2969,bl29)]
def bs6:List (Nat×List AV):=glob0++[(3430,bl21),(3425,bl30),(3420,bl25),(3415,bl26),(3413,bl31),(3444,bl3),(3439,bl32),(3442,bl5),(3437,bl33)]
def bs7:List (Nat×List AV):=glob0++[(118,bl34),(117,bl35),(119,bl36),(20,bl0),(18,bl1),(6,bl2),(5,bl3),(3,bl4),(1,bl5),(2,bl6)]
def bs8:List (Nat×List AV):=glob0++[(1198,bl37),(1206,bl38),(1166,bl39),(1174,bl40),(1134,bl40),(1142,bl39),(1102,bl40),(1110,bl37),(1068,bl41),(736,bl0),(734,bl0),(732,bl0),(730,bl0),(728,bl7),(726,bl8),(724,bl9),(717,bl13),(722,bl2),(720,bl3),(715,bl14),(739,bl3),(718,bl5),(741,bl15)]
def bs9:List (Nat×List AV):=glob0++[(897,bl34),(896,bl35),(898,bl42),(736,bl0),(734,bl0),(732,bl0),(730,bl0),(728,bl7),(726,bl8),(724,bl9),(717,bl13),(722,bl2),(720,bl3),(715,bl14),(739,bl3),(718,bl5),(741,bl15)]
def bs10:List (Nat×List AV):=glob0++[(2379,bl43),(2378,bl26),(1590,bl0),(1585,bl0),(1580,bl0),(1575,bl0),(1570,bl0),(1565,bl0),(1558,bl16),(1551,bl17),(1544,bl7),(1537,bl8),(1530,bl9),(1528,bl18),(1609,bl2),(1607,bl3),(1600,bl19),(1605,bl3),(1603,bl5),(1598,bl20)]
end Go.Ai
end

