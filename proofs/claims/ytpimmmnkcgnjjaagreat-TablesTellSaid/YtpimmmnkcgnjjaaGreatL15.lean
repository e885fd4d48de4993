/- A small verified interpreter over names, its proofs, and what was proved with it. No condition. -/
import Derived.Test.YtpimmmnkcgnjjaaGreatRows
import Derived.Test.YtpimmmnkcgnjjaaGreatL13
import Derived.Test.YtpimmmnkcgnjjaaGreatL14
import Derived.Test.YtpimmmnkcgnjjaaGreatL12
import Derived.Test.YtpimmmnkcgnjjaaGreatL06
import Derived.Test.YtpimmmnkcgnjjaaGreatL05
import Derived.Test.YtpimmmnkcgnjjaaGreatL07
set_option linter.all false
set_option linter.deprecated false
section
namespace Go.Ai
open Go.Proofs Go.Proofs.Tryz
set_option maxRecDepth 10000
set_option maxHeartbeats 40000000
theorem okT_of {I O:Int} {T:Tq} (h:goT I O T 0 1=some T.length) : ∀ r∈T,(r.length:Int)=I/\∀ e∈r,e.1 = -1\/(0<=e.1/\e.1<T.length):=by
 intro r hr;obtain⟨h1,h2⟩:=b3t h (Dp _) (Dp _) r hr;refine⟨h1,fun e he=>?_⟩;have h3:=h2 e he;unfold okE at h3;rw[g3w,decide_eq_true_eq,decide_eq_true_eq] at h3;omega
structure b7c (I:Nat) (O:Int) (S E:Wq) (T:Tq) : Prop where
 i1:1<=I
 i2:I<=3
 o1:1<=O
 o2:O<=16
 sl:S.length<=20
 s0:0<S.length
 sw:∀ w∈S,w.length<=300/\inW w I=true
 e0:0<E.length
 el:E.length<=20
 ew:∀ e∈E,0<e.length/\e.length<=300/\inW e I=true
 t0:0<T.length
 tl:T.length<=65537
 go:goT I O T 0 1=some T.length
 ok:∀ r∈T,r.length=I/\∀ e∈r,e.1 = -1\/(0<=e.1/\e.1<T.length)
 err:b4f I O S E I O T=0
structure a2a (g:Gb) (n:Nat) (S E:Wq) (T:Tq) (sv ev tv:AV) : Prop where
 s:Br g n S sv
 e:Br g n E ev
 t:De g n T tv
theorem a2a.mono {g g': Gb} {n n': Nat} {S E:Wq} {T:Tq} {sv ev tv:AV} (h:a2a g n S E T sv ev tv) (hn:n<=n') (hg:∀ a,a<n->g' a=g a) : a2a g' n' S E T sv ev tv :=
 ⟨h.s.ext hn fun a x ha hx=>(hg a ha).trans hx,h.e.ext hn fun a x ha hx=>(hg a ha).trans hx,h.t.mono hn hg⟩
theorem Br.listT {g:Gb} {n:Nat} {l:Wq} {sv:AV} (h:Br g n l sv) (h1:l.length<=1000000) (h2:∀ w∈l,w.length<=1000000) : b4g g n l sv:=⟨h1,h2,h⟩
theorem b7c.check {I:Nat} {O:Int} {S E:Wq} {T:Tq} (hp:b7c I O S E T) {g:Gb} {n:Nat} {sv ev tv:AV} (h:a2a g n S E T sv ev tv) :
  WC 0 prog 37 [.agg [.li I,.li O,sv,ev,.li I,.li O,tv]] ⟨.fn g,n⟩ fun r=>r=.ret (.li 0) ⟨.fn g,n⟩:=by
 have h1:=f9k I O I O S E T g n sv ev tv (h.s.listT (by have:=hp.sl;omega) fun w hw=>by have:=(hp.sw w hw).1;omega) (h.e.listT (by have:=hp.el;omega) fun w hw=>by have:=(hp.ew w hw).2.1;omega) ⟨by have:=hp.tl;omega,fun r hr=>by have:=(hp.ok r hr).1;have:=hp.i2;omega,h.t⟩;rw[hp.err] at h1;exact h1
theorem QOK.tab {M:Bc} (hM:M.ok) {I:Nat} {O:Int} (hI:M.inp=I) (hO:M.out=O) (hI3:I<=3) {S E:Wq} {L:Lq} (h:QOK M S E L) : b7c I O S E (Al I L):=by
 have hIt:M.inp.toNat=I:=by rw[hI];rfl
 have hs:=h.s;have he:=h.e;rw[hIt] at hs he;have h1:=hM.1;have h2:=hM.2.2.1;have h3:=hM.2.2.2.1;have hsl:=hs.len;have hel:=he.len;have hgo:=h.runs.go hM hI;rw[hO] at hgo;have htl:(Al I L).length<=1561:=by have:=h.nod;rw[b2l];exact this
 have ht0:0<(Al I L).length:=by
  rw[b2l];exact g3s ((b0m (h.runs.valid hM) h.runs.cons []).2 (.inl rfl))
 have hte:a1q I O (Al I L)=0:=by have:=h.runs.err hM hI (by omega);rw[hO] at this;exact this
 refine⟨by omega,hI3,by omega,by omega,by omega,hs.pos,fun w hw=>⟨by have:=(hs.wl w hw).1;omega,(hs.wl w hw).2⟩,by have:=he.low;omega,by omega,fun e hw=>⟨(he.wl e hw).1,by have:=(he.wl e hw).2.1;omega,(he.wl e hw).2.2⟩,ht0,by omega,hgo,fun r hr=>?_,?_⟩
 ·have hr2:=okT_of hgo r hr;exact⟨by have:=hr2.1;omega,hr2.2⟩
 ·exact f9v (by omega) (by omega) (by omega) (by omega) hs he (by omega) (by omega) (by omega) hte
end Go.Ai
end
section
namespace Go.Ai
open Go.Proofs Go.Proofs.Tryz
set_option maxRecDepth 10000
set_option maxHeartbeats 40000000
theorem RowK.low {g:Gb} {lo lo' n:Nat} {r:Option (Wd)} {rv:AV} (h:RowK g lo n r rv) (hl:lo'<=lo) : RowK g lo' n r rv:=by
 cases r with
 | none=>exact h
 | some r=>exact⟨h.1.keep hl (Dp _) fun _ _ _=>rfl,h.2⟩
end Go.Ai
end
section
namespace Go.Ai
open Go.Proofs Go.Proofs.Tryz
set_option maxRecDepth 100000
def vI (k:IntKind) (n:Nat) : AV:=.lit (.int k (Int.ofNat n))
def vM (k:IntKind) (n:Nat) : AV:=.lit (.int k (Int.negSucc n))
def bl0:List AV:=[vM .i64 0,vM .i64 0,vM .i64 0,vM .i64 0]
def bl1:List AV:=[.sl 20 0 2 2]
def bl2:List AV:=[vI .i64 1]
def bl3:List AV:=[vI .i64 0]
def bl4:List AV:=[.sl 5 0 1 1,.sl 6 0 1 1]
def bl5:List AV:=[]
def bl6:List AV:=[.sl 1 0 0 0]
def bl7:List AV:=[vI .i64 5,vI .i64 0,vI .i64 6,vI .i64 0]
def bl8:List AV:=[vI .i64 3,vI .i64 1,vI .i64 4,vI .i64 0]
def bl9:List AV:=[vI .i64 1,vI .i64 0,vI .i64 2,vI .i64 0]
def bl10:List AV:=[.sl 495 0 2 2,.sl 502 0 2 2,.sl 509 0 2 2,.sl 516 0 2 2,.sl 521 0 2 2,.sl 526 0 2 2,.sl 531 0 2 2]
def bl11:List AV:=[.sl 546 0 1 1,.sl 548 0 1 1]
def bl12:List AV:=[.sl 544 0 0 0]
def bl13:List AV:=[.sl 724 0 2 2,.sl 726 0 2 2,.sl 728 0 2 2,.sl 730 0 2 2,.sl 732 0 2 2,.sl 734 0 2 2,.sl 736 0 2 2]
def bl14:List AV:=[.sl 720 0 1 1,.sl 722 0 1 1]
def bl15:List AV:=[.sl 718 0 0 0,.sl 739 0 1 1]
def bl16:List AV:=[vI .i64 9,vI .i64 1,vI .i64 10,vI .i64 0]
def bl17:List AV:=[vI .i64 7,vI .i64 0,vI .i64 8,vI .i64 0]
def bl18:List AV:=[.sl 1530 0 2 2,.sl 1537 0 2 2,.sl 1544 0 2 2,.sl 1551 0 2 2,.sl 1558 0 2 2,.sl 1565 0 2 2,.sl 1570 0 2 2,.sl 1575 0 2 2,.sl 1580 0 2 2,.sl 1585 0 2 2,.sl 1590 0 2 2]
def bl19:List AV:=[.sl 1607 0 1 1,.sl 1609 0 1 1]
def bl20:List AV:=[.sl 1603 0 0 0,.sl 1605 0 1 1]
def bl21:List AV:=[vM .i64 0,vM .i64 0]
def bl22:List AV:=[.sl 2881 0 1 1]
def bl23:List AV:=[.sl 2867 0 1 1]
def bl24:List AV:=[.sl 2863 0 0 0]
def bl25:List AV:=[vI .i64 2,vI .i64 0]
def bl26:List AV:=[vI .i64 1,vI .i64 0]
def bl27:List AV:=[.sl 2952 0 1 1,.sl 2957 0 1 1,.sl 2962 0 1 1]
def bl28:List AV:=[.sl 2976 0 1 1]
def bl29:List AV:=[.sl 2974 0 0 0]
def bl30:List AV:=[vI .i64 3,vI .i64 1]
def bl31:List AV:=[.sl 3415 0 1 1,.sl 3420 0 1 1,.sl 3425 0 1 1,.sl 3430 0 1 1]
def bl32:List AV:=[.sl 3444 0 1 1]
def bl33:List AV:=[.sl 3442 0 0 0]
def bl34:List AV:=[vI .i64 0,vI .i64 1,vI .i64 1,vI .i64 0]
def bl35:List AV:=[vI .i64 1,vI .i64 0,vI .i64 0,vI .i64 0]
def bl36:List AV:=[.sl 117 0 2 2,.sl 118 0 2 2]
def bl37:List AV:=[vI .i64 0,vI .i64 0,vI .i64 0]
def bl38:List AV:=[vI .i64 0,vI .i64 1,vI .i64 1]
def bl39:List AV:=[vI .i64 0,vI .i64 0,vI .i64 1]
def bl40:List AV:=[vI .i64 0,vI .i64 1,vI .i64 0]
def bl41:List AV:=[.sl 1110 0 3 3,.sl 1102 0 3 3,.sl 1142 0 3 3,.sl 1134 0 3 3,.sl 1174 0 3 3,.sl 1166 0 3 3,.sl 1206 0 3 3,.sl 1198 0 3 3]
def bl42:List AV:=[.sl 896 0 2 2,.sl 897 0 2 2]
def bl43:List AV:=[vI .i64 0,vI .i64 0]
def glob0:List (Nat×List AV):=[]
noncomputable def H0:Mem:=⟨.tr (baseT glob0 e4),0⟩
theorem hG0:0=prog.globals.size:=by kernel_rfl
def bs0:List (Nat×List AV):=glob0++[(20,bl0),(18,bl1),(6,bl2),(5,bl3),(3,bl4),(1,bl5),(2,bl6)]
def bs1:List (Nat×List AV):=glob0++[(531,bl0),(526,bl0),(521,bl0),(516,bl0),(509,bl7),(502,bl8),(495,bl9),(493,bl10),(548,bl2),(546,bl3),(541,bl11),(544,bl5),(539,bl12)]
def bs2:List (Nat×List AV):=glob0++[(736,bl0),(734,bl0),(732,bl0),(730,bl0),(728,bl7),(726,bl8),(724,bl9),(717,bl13),(722,bl2),(720,bl3),(715,bl14),(739,bl3),(718,bl5),(741,bl15)]
def bs3:List (Nat×List AV):=glob0++[(1590,bl0),(1585,bl0),(1580,bl0),(1575,bl0),(1570,bl0),(1565,bl0),(1558,bl16),(1551,bl17),(1544,bl7),(1537,bl8),(1530,bl9),(1528,bl18),(1609,bl2),(1607,bl3),(1600,bl19),(1605,bl3),(1603,bl5),(1598,bl20)]
def bs4:List (Nat×List AV):=glob0++[(2881,bl21),(2879,bl22),(2867,bl3),(2865,bl23),(2863,bl5),(2864,bl24)]
def bs5:List (Nat×List AV):=glob0++[(2962,bl21),(2957,bl25),(2952,bl26),(2950,bl27),(2976,bl3),(2971,bl28),(2974,bl5),(2969,bl29)]
def bs6:List (Nat×List AV):=glob0++[(3430,bl21),(3425,bl30),(3420,bl25),(3415,bl26),(3413,bl31),(3444,bl3),(3439,bl32),(3442,bl5),(3437,bl33)]
def bs7:List (Nat×List AV):=glob0++[(118,bl34),(117,bl35),(119,bl36),(20,bl0),(18,bl1),(6,bl2),(5,bl3),(3,bl4),(1,bl5),(2,bl6)]
def bs8:List (Nat×List AV):=glob0++[(1198,bl37),(1206,bl38),(1166,bl39),(1174,bl40),(1134,bl40),(1142,bl39),(1102,bl40),(1110,bl37),(1068,bl41),(736,bl0),(734,bl0),(732,bl0),(730,bl0),(728,bl7),(726,bl8),(724,bl9),(717,bl13),(722,bl2),(720,bl3),(715,bl14),(739,bl3),(718,bl5),(741,bl15)]
def bs9:List (Nat×List AV):=glob0++[(897,bl34),(896,bl35),(898,bl42),(736,bl0),(734,bl0),(732,bl0),(730,bl0),(728,bl7),(726,bl8),(724,bl9),(717,bl13),(722,bl2),(720,bl3),(715,bl14),(739,bl3),(718,bl5),(741,bl15)]
def bs10:List (Nat×List AV):=glob0++[(2379,bl43),(2378,bl26),(1590,bl0),(1585,bl0),(1580,bl0),(1575,bl0),(1570,bl0),(1565,bl0),(1558,bl16),(1551,bl17),(1544,bl7),(1537,bl8),(1530,bl9),(1528,bl18),(1609,bl2),(1607,bl3),(1600,bl19),(1605,bl3),(1603,bl5),(1598,bl20)]
end Go.Ai
end

