/- A small verified interpreter over names, its proofs, and what was proved with it. No condition. -/
import Derived.Test.YtpimmmnkcgnjjaaGreatO10
import Derived.Test.YtpimmmnkcgnjjaaGreatO05
import Derived.Test.YtpimmmnkcgnjjaaGreatO09
import Derived.Test.YtpimmmnkcgnjjaaGreatO08
set_option linter.all false
set_option linter.deprecated false
section
namespace Go.Ai
open Go.Proofs Go.Proofs.Tryz
set_option maxRecDepth 10000
set_option maxHeartbeats 40000000
theorem apZ65:c0p prog 65 3=some (1,8,[.li 0]):=by kernel_rfl
theorem g1a {k:Nat} (hk0:0<k) (hk:k<=100000) (g:Gb) (n:Nat) :
  WC 0 prog 144 [.nl,.li (k:Int)] ⟨.fn g,n⟩ fun r=>r=.ret (.slq n 0 0 0) ⟨.fn (Ap g n (some (.cells (rep [.li 0] k) true 1))),n+1⟩:=by
 have hap:=fun {H:Mem} {ev:Ev} {d:Option Tmp} {ty:TypeId} {p:String} {af:Array Edge} {gd:Option (Nat×Bool)} {x y:Operand} {hx:ev x=some (.nl)} {hy:ev y=some (.li (k:Int))}=>f5c (P:=prog) (H:=H) (ev:=ev) (d:=d) (ty:=ty) (p:=p) (af:=af) (g:=gd) (x:=x) (y:=y) (hx:=hx) (hy:=hy) 1 8 apZ65 hk0 (by omega) (by omega) (by omega) rfl;have hsn:=fun {H:Mem} {ev:Ev} {d:Option Tmp} {ty:TypeId} {p:String} {af:Array Edge} {gd:Option (Nat×Bool)} {x hi:Operand} {hx:ev x=some (.nl)} {hh:ev hi=some (.li 0)}=>d3m (P:=prog) (H:=H) (ev:=ev) (d:=d) (ty:=ty) (p:=p) (af:=af) (g:=gd) (x:=x) (hi:=hi) (hx:=hx) (hh:=hh) (t:=65) (by kernel_rfl);have hkI:(0:Int)<(k:Int):=by omega
 have hkI2:¬(k:Int)<0:=by omega
 refine ent [] func144 rfl (by decide +kernel) (by kernel_rfl) ?_
 iterate 8 all_goals try first|apply spl<;>intro h|simp (disch:=first|assumption|omega|simp) [*]
theorem g1b {l new:List AV} (h:new.length<=l.length) : Br l 0 new=new++l.drop new.length:=by simp[Br]
theorem g1c {a b:Wd} (hal:a.length<=10000) (hbl:b.length<=10000) (hb0:0<b.length) (g:Gb) (n A:Nat) (hA:A<n) (av bv:AV) (own:Bool) (z:Nat) (hg:g A=some (.cells [av,bv] own z)) (ha:Aj g n a av) (hb:Aj g n b bv) :
  WC 0 prog 126 [.sl A 0 2 2] ⟨.fn g,n⟩ fun r=>∃ g' n',r=.ret (.slq n 0 (a.length+b.length) 0) ⟨.fn g',n'⟩/\n<n'/\(∀ x,x<n->g' x=g x)/\g' n=some (.cells (wdC (a++b)) true 1):=by
 have h1a:=ha.one;have h1b:=hb.one;have hlena:=@Am prog _ _ _ _ _ ha;have hlenb:=@Am prog _ _ _ _ _ hb;have HSG:=Aa.mk (g1a (k:=a.length+b.length) (by omega) (by omega) g n);have hwb:(wdC b).length=b.length*1:=by rw[Bl,Ea]
 have hwa:(wdC a).length=a.length*1:=by rw[Bl,Ea]
 obtain⟨a9,blk9,ha9,hga9,hapb⟩:=Af.aps (P:=prog) (sz:=1) hb hb0 hwb;have hk0:¬((a.length:Int)+(b.length:Int)<0):=by omega
 have hi1:(a.length:Int)<=10000:=by omega
 have hi2:(b.length:Int)<=10000:=by omega
 have hi3:¬((a.length:Int)<0):=by omega
 clear hb;have HA:=Aa.mk ha;clear ha;refine ent [] func126 rfl (by decide +kernel) (by kernel_rfl) ?_
 iterate 8 all_goals try first|apply spl<;>intro h|simp (disch:=first|assumption|omega|simp) [*]
 refine rnd [] (by decide +kernel) ?_
 iterate 8 all_goals try first|apply spl<;>intro h|simp (disch:=first|assumption|omega|simp) [*]
 refine rnd [] (by decide +kernel) ?_
 iterate 8 all_goals try first|apply spl<;>intro h|simp (disch:=first|assumption|omega|simp) [*]
 refine rnd [] (by decide +kernel) ?_
 iterate 8 all_goals try first|apply spl<;>intro h|simp (disch:=first|assumption|omega|simp) [*]
 refine WC.mono HSG.out ?_;rintro _ rfl;have hg2:Ap g n (some (.cells (rep [.li 0] (a.length+b.length)) true 1)) A=some (.cells [av,bv] own z):=(Ad hA).trans hg
 iterate 8 all_goals try first|apply spl<;>intro h|simp (disch:=first|assumption|omega|simp) [*]
 refine rnd [] (by decide +kernel) ?_;by_cases ha0:a.length=0
 ·have hav:Af g n av 0 (wdC a):=by have:=HA.out;rw[<- ha0];exact this
  have hap:=fun {H:Mem} {ev:Ev} {d:Option Tmp} {ty:TypeId} {p:String} {af:Array Edge} {gd:Option (Nat×Bool)} {x y:Operand} {s t:TypeId} {q off k c:Nat} {hx:ev x=some (.slq q off k c)} {hy:ev y=some av} (hp:(apI prog s t).isSome=true)=>Af.apq0 (P:=prog) hav (H:=H) (ev:=ev) (d:=d) (ty:=ty) (p:=p) (af:=af) (gd:=gd) (x:=x) (y:=y) (a:=q) (off:=off) (k:=k) (c:=c) (hx:=hx) (hy:=hy) hp;have HAE:Aa (a=[]):=⟨g3r.1 ha0⟩;have hrl:(rep [AV.li 0] b.length).length=b.length:=by rw[a8l];simp
  have hrl2:(0+b.length)*1<=(rep [AV.li 0] b.length).length:=by omega
  have hob:=wdC_one b;clear hav
  iterate 8 all_goals try first|apply spl<;>intro h|simp (disch:=first|assumption|omega|simp) [*]
  refine rnd [] (by decide +kernel) ?_
  iterate 8 all_goals try first|apply spl<;>intro h|simp (disch:=first|assumption|omega|simp) [*]
  refine rnd [] (by decide +kernel) ?_
  iterate 8 all_goals try first|apply spl<;>intro h|simp (disch:=first|assumption|omega|simp) [*]
  refine⟨_,_,⟨rfl,rfl⟩,by omega,fun x hx=>Ad hx,Ag.trans ?_⟩;rw[HAE.out,g6q,g1b (by omega),g3u (by omega),g4z]
 ·have hav:Af g n av a.length (wdC a):=HA.out;obtain⟨a8,blk8,ha8,hga8,hapa⟩:=Af.aps (P:=prog) (sz:=1) hav (by omega) hwa;have hrl:(rep [AV.li 0] (a.length+b.length)).length=a.length+b.length:=by rw[a8l];simp
  have hrl2:(0+a.length)*1<=(rep [AV.li 0] (a.length+b.length)).length:=by omega
  have hrl3:(a.length+b.length)*1<=(Br (rep [AV.li 0] (a.length+b.length)) 0 (wdC a)).length:=by rw[a8k (by omega)];omega
  have hob:=wdC_one b;have hoa:=wdC_one a;clear hav
  iterate 8 all_goals try first|apply spl<;>intro h|simp (disch:=first|assumption|omega|simp) [*]
  refine rnd [] (by decide +kernel) ?_
  iterate 8 all_goals try first|apply spl<;>intro h|simp (disch:=first|assumption|omega|simp) [*]
  refine rnd [] (by decide +kernel) ?_
  iterate 8 all_goals try first|apply spl<;>intro h|simp (disch:=first|assumption|omega|simp) [*]
  refine⟨_,_,⟨rfl,rfl⟩,by omega,fun x hx=>Ad hx,Ag.trans ?_⟩;have e1:(Br (rep [AV.li 0] (a.length+b.length)) 0 (wdC a)).take a.length=wdC a:=by
   have:=b2e (l:=rep [AV.li 0] (a.length+b.length)) (new:=wdC a) (off:=0) (by omega);rw[hwa,g4w,Ea] at this;simpa using this
  have e2:(Br (rep [AV.li 0] (a.length+b.length)) 0 (wdC a)).drop (a.length+(wdC b).length)=[]:=g3u (by rw[a8k (by omega)];omega);have e3:Br (Br (rep [AV.li 0] (a.length+b.length)) 0 (wdC a)) a.length (wdC b)=wdC (a++b):=by
   rw[Br,e1,e2];simp[wdC]
  rw[e3]
theorem g1d {k:Nat} (hk0:0<k) (hk:k<=100000) (g:Gb) (n B:Nat) :
  WC 0 prog 93 [.slq B 0 k 0] ⟨.fn g,n⟩ fun r=>r=.ret (.sl B 0 k k) ⟨.fn g,n⟩:=by
 refine ent [] func93 rfl (by decide +kernel) (by kernel_rfl) ?_
 iterate 8 all_goals try first|apply spl<;>intro h|simp (disch:=first|assumption|omega|simp) [*]
theorem c1t {a b:Wd} (hal:a.length<=10000) (hbl:b.length<=10000) (hb0:0<b.length) (g:Gb) (n:Nat) (av bv:AV) (ha:Aj g n a av) (hb:Aj g n b bv) :
  WC 0 prog 85 [av,bv] ⟨.fn g,n⟩ fun r=>∃ ov g' n',r=.ret ov ⟨.fn g',n'⟩/\n<=n'/\(∀ x,x<n->g' x=g x)/\a1b g' n n' (a++b) ov/\Bm ov:=by
 have h1a:=ha.one;have h1b:=hb.one;have hab:allOne [av,bv]=true:=by simp[h1a,h1b]
 have hca:=ha.cell;have hcb:=hb.cell;have HCC:=Aa.mk (g1c hal hbl hb0 (Ap g n (some (.cells [av,bv] true 0))) (n+1) n (by omega) av bv true 0 Ag (Af.mono (by omega) (fun x hx=>Ad hx) ha) (Af.mono (by omega) (fun x hx=>Ad hx) hb));clear ha hb;refine ent [] func85 rfl (by decide +kernel) (by kernel_rfl) ?_
 iterate 8 all_goals try first|apply spl<;>intro h|simp (disch:=first|assumption|omega|simp) [*]
 refine WC.mono HCC.out ?_;rintro _ ⟨g2,n2,rfl,hn2,hg2,hb2⟩;have HG2:=Aa.mk hg2;clear hg2
 iterate 8 all_goals try first|apply spl<;>intro h|simp (disch:=first|assumption|omega|simp) [*]
 refine WC.mono (g1d (by omega) (by omega) g2 n2 (n+1)) ?_;rintro _ rfl
 iterate 8 all_goals try first|apply spl<;>intro h|simp (disch:=first|assumption|omega|simp) [*]
 refine⟨_,_,_,⟨rfl,rfl,rfl⟩,by omega,fun x hx=>(HG2.out x (by omega)).trans (Ad hx),?_,fun _ _ _ _ e=>by cases e;exact Dm _⟩;have h5:(wdC (a++b)).length=a.length+b.length:=by rw[Bl,Dr]
 refine⟨fun x=>if x=n+1 then g2 x else none,fun x y hx=>?_,?_⟩
 ·have hx' : (if x=n+1 then g2 x else none)=some y:=hx;split at hx'
  ·exact⟨hx',by omega,by omega⟩
  ·cases hx'
 ·have h6:Aj (fun x=>if x=n+1 then g2 x else none) n2 (a++b) (.sl (n+1) 0 (a++b).length (a.length+b.length)):=Aj.of (own:=true) (z:=1) ((if_pos rfl).trans hb2) (by omega);rw[Dr] at h6;exact h6
end Go.Ai
end
section
namespace Go.Ai
open Go.Proofs Go.Proofs.Tryz
set_option maxRecDepth 10000
set_option maxHeartbeats 40000000
def b7z (g:Gb) (lo n:Nat) : Option (Wd)->AV->Prop
 | none,rv=>rv=.nl
 | some r,rv=>a1b g lo n r rv/\Bm rv
theorem d7b {g:Gb} {lo n B len sz:Nat} {sv:AV} {cs:List AV} (h:Bc g lo n B sv len sz cs) : Bm sv:=by
 intro a o k c e;rcases h with⟨_,_,h3⟩|⟨_,h3,_⟩
 ·rw[h3] at e;cases e
 ·rw[h3] at e;cases e
theorem d7c {T:Tq} {a:Nat} {i:Nat} {w:Wd} (ha:a<T.length) (hi:i<(T[a]).length) : Bf T ((a:Nat) : Int) ((i:Int) :: w)=if (T[a][i]).1 = -1 then (if (T[a][i]).2 = -2 then some (List.replicate (w.length+1) (-1)) else none) else (Bf T (T[a][i]).1 w).map ((T[a][i]).2 :: ·):=by
 have e:(T.getD ((a:Nat) : Int).toNat []).getD ((i:Nat) : Int).toNat (-1,-1)=T[a][i]:=by
  rw[g4f,g4f,g3s,g3s,Dy ha];simp[hi]
 rw[Bf,e]
def a0r (T:Tq) (x:Int) (r w:Wd) : Option (Wd):=if x = -1 then some (r++List.replicate w.length (-1)) else (Bf T x w).map (r ++ ·)
theorem c1u {I:Nat} {O:Int} {T:Tq} (h0:0<T.length) (hok:∀ r∈T,r.length=I/\∀ e∈r,e.1 = -1\/(0<=e.1/\e.1<T.length)) {w:Wd} (hwl:w.length<=1000) (hin:inW w I=true) (g:Gb) (n:Nat) (tv wv:AV) (hT:Bw g n T tv) (hw:Aj g n w wv) :
  WC 0 prog 63 [.agg [.li I,.li O,tv],wv] ⟨.fn g,n⟩ fun r=>∃ rv g' n',r=.ret (.tup [rv,.lit (.bool (Bf T 0 w).isSome)]) ⟨.fn g',n'⟩/\n<=n'/\(∀ b,b<n->g' b=g b)/\b7z g' n n' (Bf T 0 w) rv:=by
 have hlen:=@Am prog _ _ _ _ _ hw;have h1t:=hT.choose_spec.1.one;have hone:allOne [.li I,.li O,tv]=true:=by simp[h1t]
 have HT:=Aa.mk hT;have HW:=Aa.mk hw;have HOK:=Aa.mk hok;have HIN:Aa (∀ (k:Nat) (h:k<w.length),∃ j:Nat,w[k]=(j:Int)/\j<I):=⟨fun k h=>by
  have h2:0<=w[k]/\w[k] < (I:Int):=by simpa using Ec.1 hin _ (Ds h)
  exact⟨(w[k]).toNat,by omega,by omega⟩⟩
 obtain⟨RES,hRES⟩ : ∃ x,x=Bf T 0 w:=⟨_,rfl⟩;rw[<- hRES];have HRES:Aa (RES=a0r T 0 [] w):=⟨by rw[hRES];unfold a0r;rw[if_neg (by decide)];cases Bf T 0 w<;>rfl⟩;clear hT hw hok hin hRES;refine ent pl63 func63 rfl (by decide +kernel) (by kernel_rfl) ?_
 iterate 8 all_goals try first|apply spl<;>intro h|simp (disch:=first|assumption|omega|simp) [*]
 refine LX.ind (fun m gf H'=>∃ (k n2 B:Nat) (gL:Gb) (rv:AV) (r:Wd) (x:Int),k<=w.length/\m=w.length-k/\H'=⟨.fn gL,n2⟩/\n+1<=n2/\r.length<=k/\(x = -1\/(0<=x/\x<T.length))/\Aa (∀ b,b<n->gL b=g b)/\gL n=some (.cells [.li I,.li O,tv] true 0)/\Aa (Bc gL (n+1) n2 B rv r.length 1 (wdC r))/\Aa (RES=a0r T x r (w.drop k)) /\
  gf 1=some wv/\gf 2=some (.ptr n 0)/\gf 6=some rv/\gf 7=some (.li x)/\gf 8=some (.li k)) (m0:=w.length) ?_ ?_
 ·exact⟨0,n+1,0,_,_,[],0,Dt _,rfl,rfl,Dm _,Dm _,.inr ⟨by decide,by omega⟩,⟨fun b hb=>Ad hb⟩,Ag,⟨.inl ⟨rfl,rfl,rfl⟩⟩,HRES,by simp[*]⟩
 clear HRES;rintro m gf H' ⟨k,n2,B,gL,rv,r,x,hk,rfl,rfl,hn2,hrk,hx,HG,hgn,HGR,HRE,w1,w2,w6,w7,w8⟩ ih;have hrll:(wdC r).length=r.length*1:=by rw[Bl,Ea]
 have h1r:oneC rv=true:=HGR.out.one;refine rnd pl63 (by decide +kernel) ?_;by_cases hlt:k<w.length
 ·have hltI:(k:Int)<(w.length:Int):=by omega
  by_cases hxm:x = -1
  ·subst hxm;have HR2:Aa (RES=a0r T (-1) (r++[-1]) (w.drop (k+1))):=⟨by
    rw[HRE.out];unfold a0r;rw[if_pos rfl,if_pos rfl,El hlt,Ej,g6c];simp⟩
   clear HRE;rcases HGR.out with⟨h6,hc6,hs6⟩|⟨h6,hs6,hC1,hC2,hC3,hC4⟩
   ·subst hs6;have HZ:=Aa.mk (And.intro h6 hc6);clear h6 hc6
    iterate 8 all_goals try first|apply spl<;>intro h|simp (disch:=first|assumption|omega|simp) [*]
    refine ih.out (w.length-(k+1)) _ _ (by omega) ⟨k+1,n2+1+1,n2+1,_,.slq (n2+1) 0 (r.length+1) 0,r++[-1],-1,by omega,rfl,rfl,by omega,by simp;omega,by omega,⟨fun b hb=>?_⟩,?_,⟨?_⟩,HR2,by simp[*],by simp[*],by simp[HZ.out.1],by simp[*]⟩
    ·simp (disch:=omega) only[Ad,Ae];exact HG.out b hb
    ·simp (disch:=omega) only[Ad,Ae];exact hgn
    ·rw[Dr,Ef];refine .mk ?_ (by omega) (by omega) (by rw[Bl];simp);rw[a8u,HZ.out.2];simp (disch:=omega) only[Ad,Ae,Ag];rfl
   ·subst hs6
    iterate 8 all_goals try first|apply spl<;>intro h|simp (disch:=first|assumption|omega|simp) [*]
    refine ih.out (w.length-(k+1)) _ _ (by omega) ⟨k+1,n2+1+1,n2+1,_,.slq (n2+1) 0 (r.length+1) 0,r++[-1],-1,by omega,rfl,rfl,by omega,by simp;omega,by omega,⟨fun b hb=>?_⟩,?_,⟨?_⟩,HR2,by simp[*]⟩
    ·simp (disch:=omega) only[Ad,Ae];exact HG.out b hb
    ·simp (disch:=omega) only[Ad,Ae];exact hgn
    ·rw[Dr,Ef];refine .mk ?_ (by omega) (by omega) (by rw[Bl];simp);rw[a8u];simp (disch:=omega) only[Ad,Ae,Ag]
  ·obtain⟨a,rfl⟩ : ∃ a:Nat,x=a:=⟨x.toNat,by omega⟩;have hat:a<T.length:=by omega
   have hxn:¬(a:Int)<0:=by omega
   obtain⟨j,hj,hjI⟩:=HIN.out k hlt;obtain⟨a2,o2,ha2,hia2,hc2⟩:=Aj.at HW.out hlt;rw[<- HG.out a2 ha2,hj] at hc2;obtain⟨a3,o3,tq,ha3,hia3,hc3,htq⟩:=HT.out.at hat;have hrow:=HOK.out _ (Ds hat);have hjt:j<(T[a]).length:=by omega
   have HE1:=Aa.mk (hrow.2 _ (Ds hjt));obtain⟨a4,o4,ha4,hia4,hc4⟩:=c1j htq hjt;rw[<- HG.out a3 ha3] at hc3;rw[<- HG.out a4 ha4] at hc4;have HST:=Aa.mk (show RES=(if (T[a][j]).1 = -1 then (if (T[a][j]).2 = -2 then some (List.replicate ((w.drop (k+1)).length+1) (-1)) else none) else (Bf T (T[a][j]).1 (w.drop (k+1))).map ((T[a][j]).2 :: ·)).map (r ++ ·) from by
    rw[HRE.out];unfold a0r;rw[if_neg (by omega),El hlt,hj,d7c hat hjt])
   clear hj hrow htq HRE hx;generalize T[a][j]=e at *;obtain⟨to,eo⟩:=e;dsimp only at HST HE1 hc4
   iterate 1 all_goals try first|apply spl<;>intro h|simp (disch:=first|assumption|omega|simp) [*]
   refine Ab (fun ht=>?_) (fun ht=>?_)
   ·subst ht;rw[if_pos rfl] at HST;by_cases ho:eo = -2
    ·have HR2:Aa (RES=a0r T (-1) (r++[-1]) (w.drop (k+1))):=⟨by
      rw[HST.out,if_pos ho];unfold a0r;rw[if_pos rfl,g6c];simp⟩
     clear HST HE1;rcases HGR.out with⟨h6,hc6,hs6⟩|⟨h6,hs6,hC1,hC2,hC3,hC4⟩
     ·subst hs6;have HZ:=Aa.mk (And.intro h6 hc6);clear h6 hc6
      iterate 8 all_goals try first|apply spl<;>intro h|simp (disch:=first|assumption|omega|simp) [*]
      refine ih.out (w.length-(k+1)) _ _ (by omega) ⟨k+1,n2+1+1+1,n2+1+1,_,.slq (n2+1+1) 0 (r.length+1) 0,r++[-1],-1,by omega,rfl,rfl,by omega,by simp;omega,by omega,⟨fun b hb=>?_⟩,?_,⟨?_⟩,HR2,by simp[*],by simp[*],by simp[HZ.out.1],by simp[*]⟩
      ·simp (disch:=omega) only[Ad,Ae];exact HG.out b hb
      ·simp (disch:=omega) only[Ad,Ae];exact hgn
      ·rw[Dr,Ef];refine .mk ?_ (by omega) (by omega) (by rw[Bl];simp);rw[a8u,HZ.out.2];simp (disch:=omega) only[Ad,Ae,Ag];rfl
     ·subst hs6
      iterate 8 all_goals try first|apply spl<;>intro h|simp (disch:=first|assumption|omega|simp) [*]
      refine ih.out (w.length-(k+1)) _ _ (by omega) ⟨k+1,n2+1+1+1,n2+1+1,_,.slq (n2+1+1) 0 (r.length+1) 0,r++[-1],-1,by omega,rfl,rfl,by omega,by simp;omega,by omega,⟨fun b hb=>?_⟩,?_,⟨?_⟩,HR2,by simp[*]⟩
      ·simp (disch:=omega) only[Ad,Ae];exact HG.out b hb
      ·simp (disch:=omega) only[Ad,Ae];exact hgn
      ·rw[Dr,Ef];refine .mk ?_ (by omega) (by omega) (by rw[Bl];simp);rw[a8u];simp (disch:=omega) only[Ad,Ae,Ag]
    ·have hR:RES=none:=by rw[HST.out,if_neg ho];rfl
     clear HST HE1;subst hR
     iterate 8 all_goals try first|apply spl<;>intro h|simp (disch:=first|assumption|omega|simp) [*]
     exact⟨_,_,_,⟨rfl,rfl,rfl⟩,by omega,fun b hb=>(Ad (by omega)).trans (HG.out b hb),rfl⟩
   ·rw[if_neg ht] at HST;have HR2:Aa (RES=a0r T to (r++[eo]) (w.drop (k+1))):=⟨by
     rw[HST.out];unfold a0r;rw[if_neg ht];cases Bf T to (w.drop (k+1))<;>simp⟩
    have hto:0<=to/\to<T.length:=HE1.out.resolve_left ht;clear HST HE1;rcases HGR.out with⟨h6,hc6,hs6⟩|⟨h6,hs6,hC1,hC2,hC3,hC4⟩
    ·subst hs6;have HZ:=Aa.mk (And.intro h6 hc6);clear h6 hc6
     iterate 8 all_goals try first|apply spl<;>intro h|simp (disch:=first|assumption|omega|simp) [*]
     refine ih.out (w.length-(k+1)) _ _ (by omega) ⟨k+1,n2+1+1+1,n2+1+1,_,.slq (n2+1+1) 0 (r.length+1) 0,r++[eo],to,by omega,rfl,rfl,by omega,by simp;omega,by omega,⟨fun b hb=>?_⟩,?_,⟨?_⟩,HR2,by simp[*],by simp[*],by simp[HZ.out.1],by simp[*]⟩
     ·simp (disch:=omega) only[Ad,Ae];exact HG.out b hb
     ·simp (disch:=omega) only[Ad,Ae];exact hgn
     ·rw[Dr,Ef];refine .mk ?_ (by omega) (by omega) (by rw[Bl];simp);rw[a8u,HZ.out.2];simp (disch:=omega) only[Ad,Ae,Ag];rfl
    ·subst hs6
     iterate 8 all_goals try first|apply spl<;>intro h|simp (disch:=first|assumption|omega|simp) [*]
     refine ih.out (w.length-(k+1)) _ _ (by omega) ⟨k+1,n2+1+1+1,n2+1+1,_,.slq (n2+1+1) 0 (r.length+1) 0,r++[eo],to,by omega,rfl,rfl,by omega,by simp;omega,by omega,⟨fun b hb=>?_⟩,?_,⟨?_⟩,HR2,by simp[*]⟩
     ·simp (disch:=omega) only[Ad,Ae];exact HG.out b hb
     ·simp (disch:=omega) only[Ad,Ae];exact hgn
     ·rw[Dr,Ef];refine .mk ?_ (by omega) (by omega) (by rw[Bl];simp);rw[a8u];simp (disch:=omega) only[Ad,Ae,Ag]
 ·have hltI:¬(k:Int)<(w.length:Int):=by omega
  have hR:RES=some r:=by
   rw[HRE.out,g3u (by omega)];unfold a0r;split<;>simp[Bf]
  clear HRE;subst hR
  iterate 8 all_goals try first|apply spl<;>intro h|simp (disch:=first|assumption|omega|simp) [*]
  exact⟨_,_,_,⟨rfl,rfl,rfl⟩,by omega,HG.out,⟨(HGR.out.fresh rfl).keep (by omega) (Dm _) fun _ _ _=>rfl,d7b HGR.out⟩⟩
end Go.Ai
end
section
namespace Go.Ai
open Go.Proofs Go.Proofs.Tryz
set_option maxRecDepth 10000
set_option maxHeartbeats 40000000
theorem c1v {I:Nat} {T:Tq} (h0:0<T.length) (hok:∀ r∈T,r.length=I/\∀ e∈r,e.1 = -1\/(0<=e.1/\e.1<T.length)) {w:Wd} (hwl:w.length<=1000) (hin:inW w I=true) (c0 c1 c2 c3 c4 c5:AV) (hc:allOne [c0,c1,c2,c3,c4,c5]=true) (g:Gb) (n:Nat) (tv wv:AV) (hT:Bw g n T tv) (hw:Aj g n w wv) :
  WC 0 prog 96 [.agg [c0,c1,c2,c3,c4,c5,tv],wv] ⟨.fn g,n⟩ fun r=>∃ rv g' n',r=.ret (.tup [rv,.lit (.bool (Bf T 0 w).isSome)]) ⟨.fn g',n'⟩/\n<=n'/\(∀ b,b<n->g' b=g b)/\b7z g' n n' (Bf T 0 w) rv:=by
 have hlen:=@Am prog _ _ _ _ _ hw;have h1t:=hT.choose_spec.1.one;have hone:allOne [c0,c1,c2,c3,c4,c5,tv]=true:=by
  simp only[a3j,Dq] at hc |-;simp[hc,h1t]
 have HT:=Aa.mk hT;have HW:=Aa.mk hw;have HOK:=Aa.mk hok;have HIN:Aa (∀ (k:Nat) (h:k<w.length),∃ j:Nat,w[k]=(j:Int)/\j<I):=⟨fun k h=>by
  have h2:0<=w[k]/\w[k] < (I:Int):=by simpa using Ec.1 hin _ (Ds h)
  exact⟨(w[k]).toNat,by omega,by omega⟩⟩
 obtain⟨RES,hRES⟩ : ∃ x,x=Bf T 0 w:=⟨_,rfl⟩;rw[<- hRES];have HRES:Aa (RES=a0r T 0 [] w):=⟨by rw[hRES];unfold a0r;rw[if_neg (by decide)];cases Bf T 0 w<;>rfl⟩;clear hT hw hok hin hRES hc;have hW2:(w.length:Int)<=1048576:=by omega
 refine ent [] func96 rfl (by decide +kernel) (by kernel_rfl) ?_
 iterate 8 all_goals try first|apply spl<;>intro h|simp (disch:=first|assumption|omega|simp) [*]
 refine LX.ind (fun m gf H'=>∃ (k n2:Nat) (gL:Gb) (Lo:List AV) (r:Wd) (x:Int),k<=w.length/\m=w.length-k/\H'=⟨.fn gL,n2⟩/\n+1+1<=n2/\(x = -1\/(0<=x/\x<T.length))/\Aa (∀ b,b<n->gL b=g b)/\gL n=some (.cells [c0,c1,c2,c3,c4,c5,tv] true 0)/\gL (n+1)=some (.cells Lo true 0)/\Lo.length=w.length/\Aa (Lo.take k=wdC r)/\Aa (r.length=k)/\Aa (RES=a0r T x r (w.drop k)) /\
  gf 1=some wv/\gf 2=some (.ptr n 0)/\gf 6=some (.sl (n+1) 0 k w.length)/\gf 7=some (.li x)/\gf 14=some wv/\gf 15=some (.li w.length)/\gf 16=some (.li k)) (m0:=w.length) ?_ ?_
 ·refine⟨0,_,_,_,[],0,Dt _,rfl,rfl,Dm _,.inr ⟨by decide,by omega⟩,⟨fun b hb=>?_⟩,?_,Ag,?_,⟨rfl⟩,⟨rfl⟩,HRES,by simp[*]⟩
  ·simp (disch:=omega) only[Ad]
  ·simp (disch:=omega) only[Ad,Ag]
  ·rw[a8l];simp
 clear HRES;rintro m gf H' ⟨k,n2,gL,Lo,r,x,hk,rfl,rfl,hn2,hx,HG,hgn,hgo,hLo,HLo,HRL,HRE,w1,w2,w6,w7,w14,w15,w16⟩ ih;refine rnd [] (by decide +kernel) ?_;by_cases hlt:k<w.length
 ·have hltI:(k:Int)<(w.length:Int):=by omega
  obtain⟨j,hj,hjI⟩:=HIN.out k hlt;obtain⟨a2,o2,ha2,hia2,hc2⟩:=Aj.at HW.out hlt;rw[<- HG.out a2 ha2] at hc2;by_cases hxm:x = -1
  ·subst hxm;have HR2:Aa (RES=a0r T (-1) (r++[-1]) (w.drop (k+1))):=⟨by
    rw[HRE.out];unfold a0r;rw[if_pos rfl,if_pos rfl,El hlt,Ej,g6c];simp⟩
   have hLk:k+([.li (-1)] : List AV).length<=Lo.length:=by simp;omega
   have HPL:Aa ((Br Lo k [.li (-1)]).length=w.length/\(Br Lo k [.li (-1)]).take (k+1)=wdC (r++[-1])):=⟨by
    refine⟨by rw[a8k hLk];exact hLo,?_⟩;have h1:=b2e hLk;rw[HLo.out] at h1;exact h1.trans (by simp[wdC])⟩
   clear HRE
   iterate 8 all_goals try first|apply spl<;>intro h|simp (disch:=first|assumption|omega|simp) [*]
   refine ih.out (w.length-(k+1)) _ _ (by omega) ⟨k+1,_,_,Br Lo k [.li (-1)],r++[-1],-1,by omega,rfl,rfl,by omega,by omega,⟨fun b hb=>?_⟩,?_,?_,HPL.out.1,⟨HPL.out.2⟩,⟨by simp[HRL.out]⟩,HR2,by simp[*]⟩
   ·simp (disch:=omega) only[Ad,Ae];exact HG.out b hb
   ·simp (disch:=omega) only[Ad,Ae];exact hgn
   ·simp (disch:=omega) only[Ad,Ae,Ag]
  ·obtain⟨a,rfl⟩ : ∃ a:Nat,x=a:=⟨x.toNat,by omega⟩;have hat:a<T.length:=by omega
   have hxn:¬(a:Int)<0:=by omega
   rw[hj] at hc2;obtain⟨a3,o3,tq,ha3,hia3,hc3,htq⟩:=HT.out.at hat;have hrow:=HOK.out _ (Ds hat);have hjt:j<(T[a]).length:=by omega
   have HE1:=Aa.mk (hrow.2 _ (Ds hjt));obtain⟨a4,o4,ha4,hia4,hc4⟩:=c1j htq hjt;rw[<- HG.out a3 ha3] at hc3;rw[<- HG.out a4 ha4] at hc4;have HST:=Aa.mk (show RES=(if (T[a][j]).1 = -1 then (if (T[a][j]).2 = -2 then some (List.replicate ((w.drop (k+1)).length+1) (-1)) else none) else (Bf T (T[a][j]).1 (w.drop (k+1))).map ((T[a][j]).2 :: ·)).map (r ++ ·) from by
    rw[HRE.out];unfold a0r;rw[if_neg (by omega),El hlt,hj,d7c hat hjt])
   clear hj hrow htq HRE hx;generalize T[a][j]=e at *;obtain⟨to,eo⟩:=e;dsimp only at HST HE1 hc4;by_cases ht:to = -1
   ·subst ht;rw[if_pos rfl] at HST;by_cases ho:eo = -2
    ·subst ho;have HR2:Aa (RES=a0r T (-1) (r++[-1]) (w.drop (k+1))):=⟨by
      rw[HST.out,if_pos rfl];unfold a0r;rw[if_pos rfl,g6c];simp⟩
     have hLk:k+([.li (-1)] : List AV).length<=Lo.length:=by simp;omega
     have HPL:Aa ((Br Lo k [.li (-1)]).length=w.length/\(Br Lo k [.li (-1)]).take (k+1)=wdC (r++[-1])):=⟨by
      refine⟨by rw[a8k hLk];exact hLo,?_⟩;have h1:=b2e hLk;rw[HLo.out] at h1;exact h1.trans (by simp[wdC])⟩
     clear HST HE1
     iterate 8 all_goals try first|apply spl<;>intro h|simp (disch:=first|assumption|omega|simp) [*]
     refine ih.out (w.length-(k+1)) _ _ (by omega) ⟨k+1,_,_,Br Lo k [.li (-1)],r++[-1],-1,by omega,rfl,rfl,by omega,by omega,⟨fun b hb=>?_⟩,?_,?_,HPL.out.1,⟨HPL.out.2⟩,⟨by simp[HRL.out]⟩,HR2,by simp[*]⟩
     ·simp (disch:=omega) only[Ad,Ae];exact HG.out b hb
     ·simp (disch:=omega) only[Ad,Ae];exact hgn
     ·simp (disch:=omega) only[Ad,Ae,Ag]
    ·have hR:RES=none:=by rw[HST.out,if_neg ho];rfl
     clear HST HE1;subst hR;simp only[Option.isSome]
     iterate 8 all_goals try first|apply spl<;>intro h|simp (disch:=first|assumption|omega|simp) [*]
     exact⟨_,_,_,⟨rfl,rfl,rfl⟩,by omega,fun b hb=>(Ad (by omega)).trans (HG.out b hb),rfl⟩
   ·rw[if_neg ht] at HST;have HR2:Aa (RES=a0r T to (r++[eo]) (w.drop (k+1))):=⟨by
     rw[HST.out];unfold a0r;rw[if_neg ht];cases Bf T to (w.drop (k+1))<;>simp⟩
    have hto:0<=to/\to<T.length:=HE1.out.resolve_left ht;have hLk:k+([.li (eo)] : List AV).length<=Lo.length:=by simp;omega
    have HPL:Aa ((Br Lo k [.li (eo)]).length=w.length/\(Br Lo k [.li (eo)]).take (k+1)=wdC (r++[eo])):=⟨by
     refine⟨by rw[a8k hLk];exact hLo,?_⟩;have h1:=b2e hLk;rw[HLo.out] at h1;exact h1.trans (by simp[wdC])⟩
    clear HST HE1
    iterate 8 all_goals try first|apply spl<;>intro h|simp (disch:=first|assumption|omega|simp) [*]
    refine ih.out (w.length-(k+1)) _ _ (by omega) ⟨k+1,_,_,Br Lo k [.li eo],r++[eo],to,by omega,rfl,rfl,by omega,.inr hto,⟨fun b hb=>?_⟩,?_,?_,HPL.out.1,⟨HPL.out.2⟩,⟨by simp[HRL.out]⟩,HR2,by simp[*]⟩
    ·simp (disch:=omega) only[Ad,Ae];exact HG.out b hb
    ·simp (disch:=omega) only[Ad,Ae];exact hgn
    ·simp (disch:=omega) only[Ad,Ae,Ag]
 ·have hltI:¬(k:Int)<(w.length:Int):=by omega
  have hkw:k=w.length:=by omega
  have hR:RES=some r:=by
   rw[HRE.out,g3u (by omega)];unfold a0r;split<;>simp[Bf]
  clear HRE;subst hR
  iterate 8 all_goals try first|apply spl<;>intro h|simp (disch:=first|assumption|omega|simp) [*]
  have HRW:Aa (gL (n+1)=some (.cells (wdC r) true 0)):=⟨by rw[hgo,<- HLo.out,Ee (by omega)]⟩;refine⟨_,_,_,⟨rfl,rfl,rfl⟩,by omega,HG.out,⟨fun x=>if x=n+1 then gL x else none,fun x y hx=>?_,?_⟩,fun _ _ _ _ e=>by cases e;omega⟩
  ·have hx' : (if x=n+1 then gL x else none)=some y:=hx;split at hx'
   ·exact⟨hx',by omega,by omega⟩
   ·cases hx'
  ·have h6:Aj (fun x=>if x=n+1 then gL x else none) n2 r (.sl (n+1) 0 r.length w.length):=Aj.of (own:=true) (z:=0) ((if_pos rfl).trans HRW.out) (by omega);rw[HRL.out,hkw] at h6;exact h6
end Go.Ai
end
section
namespace Go.Ai
open Go.Proofs Go.Proofs.Tryz
set_option maxRecDepth 10000
set_option maxHeartbeats 40000000
theorem el65:Cd prog 65=some (none,1):=by kernel_rfl
theorem c7f {I:Nat} {O:Int} {T:Tq} (h0:0<T.length) (hok:∀ r∈T,r.length=I/\∀ e∈r,e.1 = -1\/(0<=e.1/\e.1<T.length)) {w:Wd} {E:Wq} (hwl:w.length<=300) (hEl:E.length<=100) (hin:inW w I=true) (hE:∀ e∈E,0<e.length/\e.length<=300/\inW e I=true) (c2:AV) (hc2:oneC c2=true) (g:Gb) (n:Nat) (ev tv wv:AV) (hEV:Bj g n E ev) (hT:Bw g n T tv) (hw:Aj g n w wv) :
  WC 0 prog 28 [.agg [.li I,.li O,c2,ev,.li I,.li O,tv],wv] ⟨.fn g,n⟩ fun r=>∃ rv g' n',r=.ret (.tup [rv,.lit (.bool (Bk T w E).isSome)]) ⟨.fn g',n'⟩/\n<=n'/\(∀ b,b<n->g' b=g b)/\b7z g' n n' (Bk T w E) rv:=by
 have hlen:=@Am prog _ _ _ _ _ hw;have hlenE:=@Am prog _ _ _ _ _ hEV.choose_spec.1;have h1t:=hT.choose_spec.1.one;have h1e:=hEV.choose_spec.1.one;have hone:allOne [.li I,.li O,c2,ev,.li I,.li O,tv]=true:=by simp[h1t,h1e,hc2]
 have HEV:=Aa.mk hEV;have HE:=Aa.mk hE;have HBE:=Aa.mk fun (e:Wd) (he:e∈E) (gX:Gb) (n2:Nat) (qv:AV) (hn:n<=n2) (hX:∀ b,b<n->gX b=g b) (hq:Aj gX n2 e qv)=>c1k (a:=w) (b:=e) (by omega) (by have:=(hE e he).2.1;omega) (hE e he).1 gX n2 wv qv (Af.mono hn hX hw) hq;have HKN:=Aa.mk fun (e:Wd) (he:e∈E) (gX:Gb) (n2:Nat) (uv:AV) (hn:n<=n2) (hX:∀ b,b<n->gX b=g b) (hu:Aj gX n2 (w++e) uv)=>c1u (O:=O) h0 hok (w:=w++e) (by rw[Dr];have:=(hE e he).2.1;omega) (b1c hin (hE e he).2.2) gX n2 tv uv (hT.mono hn hX) hu;obtain⟨RES,hRES⟩ : ∃ x,x=Bk T w E:=⟨_,rfl⟩;rw[<- hRES];have HRES:Aa (RES=(Bk T w (E.drop 0)).map (fun x=>[]++x)):=⟨by rw[hRES,g5l];cases Bk T w E<;>rfl⟩;clear hT hw hEV hE hin hok hRES;refine ent pl28 func28 rfl (by decide +kernel) (by kernel_rfl) ?_
 iterate 8 all_goals try first|apply spl<;>intro h|simp (disch:=first|assumption|omega|simp) [*]
 refine LX.ind (fun m gf H'=>∃ (k n2 B:Nat) (gL:Gb) (rv:AV) (r:Wd),k<=E.length/\m=E.length-k/\H'=⟨.fn gL,n2⟩/\n+1<=n2/\r.length<=300*k/\Aa (∀ b,b<n->gL b=g b)/\gL n=some (.cells [.li I,.li O,c2,ev,.li I,.li O,tv] true 0)/\Aa (Bc gL (n+1) n2 B rv r.length 1 (wdC r))/\Aa (RES=(Bk T w (E.drop k)).map (r ++ ·)) /\
  gf 1=some wv/\gf 2=some (.ptr n 0)/\gf 6=some rv/\gf 7=some (.li k)) (m0:=E.length) ?_ ?_
 ·exact⟨0,n+1,0,_,_,[],Dt _,rfl,rfl,Dm _,Dm _,⟨fun b hb=>Ad hb⟩,Ag,⟨.inl ⟨rfl,rfl,rfl⟩⟩,HRES,by simp[*]⟩
 clear HRES;rintro m gf H' ⟨k,n2,B,gL,rv,r,hk,rfl,rfl,hn2,hrk,HG,hgn,HGR,HRE,w1,w2,w6,w7⟩ ih;refine rnd pl28 (by decide +kernel) ?_;by_cases hlt:k<E.length
 ·have hltI:(k:Int)<(E.length:Int):=by omega
  obtain⟨a2,o2,qv,ha2,hia2,hc2',hq⟩:=HEV.out.at hlt;rw[<- HG.out a2 ha2] at hc2';have hem:=Ds hlt;have he3:=HE.out _ hem;have HST:=Aa.mk (HRE.out.trans (congrArg _ (d6v (T:=T) (w:=w) hlt)));have HB:=Aa.mk (HBE.out _ hem gL n2 qv (by omega) HG.out (Af.mono (by omega) HG.out hq));have HK:=Aa.mk (HKN.out _ hem);clear hq HRE hem;generalize E[k]=e at *
  iterate 8 all_goals try first|apply spl<;>intro h|simp (disch:=first|assumption|omega|simp) [*]
  refine WC.mono HB.out ?_;rintro _ ⟨uv,g3,n3,rfl,hn3,hg3,hfu⟩;have HG3:=Aa.mk hg3;have hgn3:=(hg3 n (by omega)).trans hgn;have hc3' : Be (some (false,1)) (g3 a2) (o2+k)=some qv:=by rw[hg3 a2 (by omega)];exact hc2'
  have HKW:=Aa.mk (HK.out g3 n3 uv (by omega) (fun b hb=>(hg3 b (by omega)).trans (HG.out b hb)) hfu.rep);clear hg3 hfu HB HK
  iterate 8 all_goals try first|apply spl<;>intro h|simp (disch:=first|assumption|omega|simp) [*]
  refine WC.mono HKW.out ?_;rintro _ ⟨kv,g4,n4,rfl,hn4,hg4,hak⟩;have HG4:Aa (∀ b,b<n2->g4 b=gL b):=⟨fun b hb=>(hg4 b (by omega)).trans (HG3.out b hb)⟩;have hgn4:=(HG4.out n (by omega)).trans hgn;clear hg4 HKW HG3
  cases hA:Bf T 0 (w++e) with
  | none =>
   rw[hA] at hak HST;have hkv:kv=.nl:=hak;have hR:RES=none:=HST.out;clear hak HST hA;subst hkv hR;simp only[Option.isSome]
   iterate 8 all_goals try first|apply spl<;>intro h|simp (disch:=first|assumption|omega|simp) [*]
   exact⟨_,_,_,⟨rfl,rfl,rfl⟩,by omega,fun b hb=>(HG4.out b (by omega)).trans (HG.out b hb),rfl⟩
  | some u =>
   rw[hA] at hak HST;have hul:=b1b _ _ _ hA;rw[Dr] at hul;simp only[g5a];obtain⟨hfu,hcu⟩:=hak;have hu0:0<u.length-w.length:=by omega
   obtain⟨sv2,hs2,hlo⟩:=Af.lo el65 hfu.rep hcu (k:=w.length) (by omega) (by rw[Bl,Ea]);have hwd:(wdC u).drop (w.length*1)=wdC (u.drop w.length):=by simp[wdC,List.map_drop]
   rw[hwd] at hs2;have hdl:(wdC (u.drop w.length)).length=(u.length-w.length)*1:=by rw[Bl,g4p,Ea]
   have hall:=wdC_one (u.drop w.length);have HST2:Aa (RES=(Bk T w (E.drop (k+1))).map ((r++u.drop w.length) ++ ·)):=⟨by
    rw[HST.out];dsimp only;cases Bk T w (E.drop (k+1))<;>simp⟩
   clear HST hA;rcases HGR.out with⟨h6,hc6,hs6⟩|⟨h6,hs6,hC1,hC2,hC3,hC4⟩
   ·subst hs6;have HZ:=Aa.mk (And.intro h6 hc6);clear h6 hc6;obtain⟨a9,blk,ha9,hga9,hap⟩:=Af.apn (P:=prog) (sz:=1) hs2 hu0 (by omega) hdl;clear hs2 hfu
    iterate 8 all_goals try first|apply spl<;>intro h|simp (disch:=first|assumption|omega|simp) [*]
    have e9:r++u.drop w.length=u.drop w.length:=by rw[g3r.1 HZ.out.1];rfl
    refine ih.out (E.length-(k+1)) _ _ (by omega) ⟨k+1,n4+1,n4,_,.slq n4 0 (u.length-w.length) 0,r++u.drop w.length,by omega,rfl,rfl,by omega,by rw[e9,g4p];omega,⟨fun b hb=>(Ad (by omega)).trans ((HG4.out b (by omega)).trans (HG.out b hb))⟩,(Ad (by omega)).trans hgn4,⟨?_⟩,HST2,by simp[*]⟩;rw[e9,g4p];exact .inr ⟨hu0,rfl,by omega,by omega,Ag,hdl⟩
   ·subst hs6;obtain⟨a9,blk,ha9,hga9,hap⟩:=Af.apq (P:=prog) (sz:=1) hs2 hu0 (by omega) hdl;have hB4:=(HG4.out B (by omega)).trans hC3;have hr4:r.length<=40000:=by omega
    clear hs2 hfu hC3
    iterate 8 all_goals try first|apply spl<;>intro h|simp (disch:=first|assumption|omega|simp) [*]
    refine ih.out (E.length-(k+1)) _ _ (by omega) ⟨k+1,n4+1,n4,_,.slq n4 0 (r.length+(u.length-w.length)) 0,r++u.drop w.length,by omega,rfl,rfl,by omega,by rw[Dr,g4p];omega,⟨fun b hb=>?_⟩,?_,⟨?_⟩,HST2,by simp[*]⟩
    ·simp (disch:=omega) only[Ad,Ae];exact(HG4.out b (by omega)).trans (HG.out b hb)
    ·simp (disch:=omega) only[Ad,Ae];exact hgn4
    ·rw[Dr,g4p];exact .inr ⟨by omega,rfl,by omega,by omega,Ag.trans (by simp[wdC]),by rw[Bl,Dr,g4p,Ea]⟩
 ·have hltI:¬(k:Int)<(E.length:Int):=by omega
  have hR:RES=some r:=by
   rw[HRE.out,g3u (by omega)];simp[Bk]
  clear HRE;subst hR
  iterate 8 all_goals try first|apply spl<;>intro h|simp (disch:=first|assumption|omega|simp) [*]
  exact⟨_,_,_,⟨rfl,rfl,rfl⟩,by omega,HG.out,(HGR.out.fresh rfl).keep (by omega) (Dm _) (fun _ _ _=>rfl),d7b HGR.out⟩
end Go.Ai
end
section
namespace Go.Ai
open Go.Proofs Go.Proofs.Tryz
set_option maxRecDepth 10000
set_option maxHeartbeats 40000000
def a7g (len:Nat) (rv:AV) : Prop:=(len=0/\rv=.nl)\/∃ a o,rv=.sl a o len len
theorem g1e (w:Wd) (g:Gb) (lo n:Nat) (sv:AV) (hv:b2t g lo n w sv) :
  WC 0 prog 93 [sv] ⟨.fn g,n⟩ fun r=>∃ sv',r=.ret sv' ⟨.fn g,n⟩/\a1b g lo n w sv'/\a7g w.length sv':=by
 rcases hv with⟨rfl,rfl|⟨m,h1,h2,rfl,h3⟩⟩|⟨hl,m,h1,h2,rfl,h3⟩
 ·have HF:Aa (a1b g lo n [] (.nl)/\a7g ([] : Wd).length (.nl)):=⟨⟨fun _=>none,fun a z h=>(by cases h),.inl ⟨rfl,rfl,.inl rfl⟩⟩,.inl ⟨rfl,rfl⟩⟩;refine ent [] func93 rfl (by decide +kernel) (by kernel_rfl) ?_
  iterate 8 all_goals try first|apply spl<;>intro h|simp (disch:=first|assumption|omega|simp) [*]
  exact HF.out
 ·have HF:Aa (a1b g lo n [] (.sl m 0 0 0)/\a7g ([] : Wd).length (.sl m 0 0 0)):=⟨⟨fun a=>if a=m then g a else none,⟨fun a z hz=>(by
   have hz' : (if a=m then g a else none)=some z:=hz;split at hz'
   ·rename_i h4;subst h4;exact⟨hz',h1,h2⟩
   ·cases hz'),.inr ⟨m,0,h2,.inl ⟨0,rfl⟩,[],true,0,(if_pos rfl).trans h3,by simp[wdC],by simp[wdC]⟩⟩⟩,.inr ⟨_,_,rfl⟩⟩
  refine ent [] func93 rfl (by decide +kernel) (by kernel_rfl) ?_
  iterate 8 all_goals try first|apply spl<;>intro h|simp (disch:=first|assumption|omega|simp) [*]
  exact HF.out
 ·have HF:Aa (a1b g lo n w (.sl m 0 w.length w.length)/\a7g w.length (.sl m 0 w.length w.length)):=⟨⟨fun a=>if a=m then g a else none,⟨fun a z hz=>(by
   have hz' : (if a=m then g a else none)=some z:=hz;split at hz'
   ·rename_i h4;subst h4;exact⟨hz',h1,h2⟩
   ·cases hz'),.inr ⟨m,0,h2,.inl ⟨_,rfl⟩,wdC w,true,1,(if_pos rfl).trans h3,by simp[*]⟩⟩⟩,.inr ⟨_,_,rfl⟩⟩
  clear h3;have hl2:¬w=[]:=fun h=>by rw[h] at hl;cases hl
  refine ent [] func93 rfl (by decide +kernel) (by kernel_rfl) ?_
  iterate 8 all_goals try first|apply spl<;>intro h|simp (disch:=first|assumption|omega|simp) [*]
  exact HF.out
def RowK (g:Gb) (lo n:Nat) : Option (Wd)->AV->Prop
 | none,rv=>rv=.nl
 | some r,rv=>a1b g lo n r rv/\a7g r.length rv
def c7g (g:Gb) (lo n A c:Nat) (r:Wd) (rv:AV) : Prop :=
 (∃ Lo,rv=.sl A 0 r.length c/\lo<=A/\A<n/\g A=some (.cells Lo true 0)/\Lo.length=c/\Lo.take r.length=wdC r/\r.length<=c)\/(0<r.length/\∃ B,rv=.slq B 0 r.length 0/\lo<=B/\B<n/\g B=some (.cells (wdC r) true 1))
theorem c7g.rep {g:Gb} {lo n A c:Nat} {r:Wd} {rv:AV} (h:c7g g lo n A c r rv) : Aj g n r rv:=by
 rcases h with⟨Lo,rfl,h1,h2,h3,h4,h5,h6⟩|⟨h0,B,rfl,h1,h2,h3⟩
 ·refine .inr ⟨A,0,h2,.inl ⟨c,rfl⟩,Lo,true,0,h3,?_,?_⟩
  ·rw[Bl];omega
  ·rw[Bl,g5l];exact h5
 ·exact .inr ⟨B,0,h2,.inr ⟨0,rfl⟩,wdC r,true,1,h3,by simp[*]⟩
theorem c7h {I:Nat} {T:Tq} (h0:0<T.length) (hok:∀ r∈T,r.length=I/\∀ e∈r,e.1 = -1\/(0<=e.1/\e.1<T.length)) {w:Wd} {E:Wq} (hwl:w.length<=300) (hEl:E.length<=100) (hin:inW w I=true) (hE:∀ e∈E,0<e.length/\e.length<=300/\inW e I=true) (c0 c1 c2 c4 c5:AV) (hc:allOne [c0,c1,c2,c4,c5]=true) (g:Gb) (n:Nat) (ev tv wv:AV) (hEV:Bj g n E ev) (hT:Bw g n T tv) (hw:Aj g n w wv) :
  WC 0 prog 79 [.agg [c0,c1,c2,ev,c4,c5,tv],wv] ⟨.fn g,n⟩ fun r=>∃ rv g' n',r=.ret (.tup [rv,.lit (.bool (Bk T w E).isSome)]) ⟨.fn g',n'⟩/\n<=n'/\(∀ b,b<n->g' b=g b)/\RowK g' n n' (Bk T w E) rv:=by
 have hlen:=@Am prog _ _ _ _ _ hw;have hlenE:=@Am prog _ _ _ _ _ hEV.choose_spec.1;have h1t:=hT.choose_spec.1.one;have h1e:=hEV.choose_spec.1.one;have hone:allOne [c0,c1,c2,ev,c4,c5,tv]=true:=by
  simp only[a3j,Dq] at hc |-;simp[hc,h1t,h1e]
 have hc3:allOne [c0,c1,c2,ev,c4,c5]=true:=by
  simp only[a3j,Dq] at hc |-;simp[hc,h1e]
 have HEV:=Aa.mk hEV;have HE:=Aa.mk hE;have HBE:=Aa.mk fun (e:Wd) (he:e∈E) (gX:Gb) (n2:Nat) (qv:AV) (hn:n<=n2) (hX:∀ b,b<n->gX b=g b) (hq:Aj gX n2 e qv)=>c1t (a:=w) (b:=e) (by omega) (by have:=(hE e he).2.1;omega) (hE e he).1 gX n2 wv qv (Af.mono hn hX hw) hq;have HKN:=Aa.mk fun (e:Wd) (he:e∈E) (gX:Gb) (n2:Nat) (uv:AV) (hn:n<=n2) (hX:∀ b,b<n->gX b=g b) (hu:Aj gX n2 (w++e) uv)=>c1v h0 hok (w:=w++e) (by rw[Dr];have:=(hE e he).2.1;omega) (b1c hin (hE e he).2.2) c0 c1 c2 ev c4 c5 hc3 gX n2 tv uv (hT.mono hn hX) hu;obtain⟨RES,hRES⟩ : ∃ x,x=Bk T w E:=⟨_,rfl⟩;rw[<- hRES];have HRES:Aa (RES=(Bk T w (E.drop 0)).map (fun x=>[]++x)):=⟨by rw[hRES,g5l];cases Bk T w E<;>rfl⟩;have hEI:(E.length:Int)<=100:=by omega
 clear hT hw hEV hE hin hok hRES hc hc3;refine ent pl79 func79 rfl (by decide +kernel) (by kernel_rfl) ?_
 iterate 8 all_goals try first|apply spl<;>intro h|simp (disch:=first|assumption|omega|simp) [*]
 obtain⟨c,hcc⟩ : ∃ c:Nat,(2*(E.length:Int)).toNat=c:=⟨_,rfl⟩;rw[hcc];have hc200:c<=200:=by omega
 clear hcc;refine LX.ind (fun m gf H'=>∃ (k n2:Nat) (gL:Gb) (rv:AV) (r:Wd),k<=E.length/\m=E.length-k/\H'=⟨.fn gL,n2⟩/\n+1+1<=n2/\r.length<=300*k/\Aa (∀ b,b<n->gL b=g b)/\gL n=some (.cells [c0,c1,c2,ev,c4,c5,tv] true 0)/\Aa (c7g gL (n+1) n2 (n+1) c r rv)/\Aa (RES=(Bk T w (E.drop k)).map (r ++ ·)) /\
  gf 1=some wv/\gf 2=some (.ptr n 0)/\gf 6=some rv/\gf 17=some ev/\gf 18=some (.li E.length)/\gf 19=some (.li k)) (m0:=E.length) ?_ ?_
 ·refine⟨0,n+1+1,_,_,[],Dt _,rfl,rfl,Dm _,Dm _,⟨fun b hb=>?_⟩,?_,⟨.inl ⟨_,rfl,by omega,by omega,Ag,?_,rfl,Dt _⟩⟩,HRES,by simp[*]⟩
  ·simp (disch:=omega) only[Ad]
  ·simp (disch:=omega) only[Ad,Ag]
  ·rw[a8l];simp
 clear HRES;rintro m gf H' ⟨k,n2,gL,rv,r,hk,rfl,rfl,hn2,hrk,HG,hgn,HGR,HRE,w1,w2,w6,w17,w18,w19⟩ ih;refine rnd pl79 (by decide +kernel) ?_;by_cases hlt:k<E.length
 ·have hltI:(k:Int)<(E.length:Int):=by omega
  obtain⟨a2,o2,qv,ha2,hia2,hc2',hq⟩:=HEV.out.at hlt;rw[<- HG.out a2 ha2] at hc2';have hem:=Ds hlt;have he3:=HE.out _ hem;have HST:=Aa.mk (HRE.out.trans (congrArg _ (d6v (T:=T) (w:=w) hlt)));have HB:=Aa.mk (HBE.out _ hem gL n2 qv (by omega) HG.out (Af.mono (by omega) HG.out hq));have HK:=Aa.mk (HKN.out _ hem);clear hq HRE hem;generalize E[k]=e at *
  iterate 8 all_goals try first|apply spl<;>intro h|simp (disch:=first|assumption|omega|simp) [*]
  refine WC.mono HB.out ?_;rintro _ ⟨uv,g3,n3,rfl,hn3,hg3,hfu,hcu0⟩;have HG3:=Aa.mk hg3;have hgn3:=(hg3 n (by omega)).trans hgn;have HKW:=Aa.mk (HK.out g3 n3 uv (by omega) (fun b hb=>(hg3 b (by omega)).trans (HG.out b hb)) hfu.rep);clear hg3 hfu HB HK hcu0
  iterate 8 all_goals try first|apply spl<;>intro h|simp (disch:=first|assumption|omega|simp) [*]
  refine WC.mono HKW.out ?_;rintro _ ⟨kv,g4,n4,rfl,hn4,hg4,hak⟩;have HG4:Aa (∀ b,b<n2->g4 b=gL b):=⟨fun b hb=>(hg4 b (by omega)).trans (HG3.out b hb)⟩;have hgn4:=(HG4.out n (by omega)).trans hgn;clear hg4 HKW HG3
  cases hA:Bf T 0 (w++e) with
  | none =>
   rw[hA] at hak HST;have hkv:kv=.nl:=hak;have hR:RES=none:=HST.out;clear hak HST hA;subst hkv hR;simp only[Option.isSome]
   iterate 8 all_goals try first|apply spl<;>intro h|simp (disch:=first|assumption|omega|simp) [*]
   exact⟨_,_,_,⟨rfl,rfl,rfl⟩,by omega,fun b hb=>(HG4.out b (by omega)).trans (HG.out b hb),rfl⟩
  | some u =>
   rw[hA] at hak HST;have hul:=b1b _ _ _ hA;rw[Dr] at hul;simp only[g5a];obtain⟨hfu,hcu⟩:=hak;have hu0:0<u.length-w.length:=by omega
   obtain⟨sv2,hs2,hlo⟩:=Af.lo el65 hfu.rep hcu (k:=w.length) (by omega) (by rw[Bl,Ea]);have hwd:(wdC u).drop (w.length*1)=wdC (u.drop w.length):=by simp[wdC,List.map_drop]
   rw[hwd] at hs2;have hdl:(wdC (u.drop w.length)).length=(u.length-w.length)*1:=by rw[Bl,g4p,Ea]
   have hall:=wdC_one (u.drop w.length);have hrl:(r++u.drop w.length).length=r.length+(u.length-w.length):=by rw[Dr,g4p]
   have HST2:Aa (RES=(Bk T w (E.drop (k+1))).map ((r++u.drop w.length) ++ ·)):=⟨by
    rw[HST.out];dsimp only;cases Bk T w (E.drop (k+1))<;>simp⟩
   have HRL:=Aa.mk hrl;clear HST hA hrl;rcases HGR.out with⟨Lo,rfl,hA1,hA2,hA3,hA4,hA5,hA6⟩|⟨h6,B,rfl,hC1,hC2,hC3⟩
   ·have hA3':=(HG4.out (n+1) (by omega)).trans hA3;by_cases hroom:r.length+(u.length-w.length)<=c
    ·obtain⟨a9,blk,ha9,hga9,hap⟩:=Af.apr (P:=prog) (sz:=1) hs2 hu0 hdl;have hrm:0+r.length*1+(wdC (u.drop w.length)).length<=Lo.length:=by omega
     have HA5:=Aa.mk hA5;clear hs2 hfu hA3 hA5
     iterate 8 all_goals try first|apply spl<;>intro h|simp (disch:=first|assumption|omega|simp) [*]
     refine ih.out (E.length-(k+1)) _ _ (by omega) ⟨k+1,n4,_,.sl (n+1) 0 (r.length+(u.length-w.length)) c,r++u.drop w.length,by omega,rfl,rfl,by omega,by rw[HRL.out];omega,⟨fun b hb=>?_⟩,?_,⟨.inl ⟨Br Lo r.length (wdC (u.drop w.length)),by rw[HRL.out],by omega,by omega,Ag,?_,?_,by rw[HRL.out];exact hroom⟩⟩,HST2,by simp[*]⟩
     ·simp (disch:=omega) only[Ad,Ae];exact(HG4.out b (by omega)).trans (HG.out b hb)
     ·simp (disch:=omega) only[Ad,Ae];exact hgn4
     ·rw[a8k (by omega)];exact hA4
     ·have h9:=b2e (l:=Lo) (new:=wdC (u.drop w.length)) (off:=r.length) (by omega);rw[HA5.out,show r.length+(wdC (u.drop w.length)).length=(r++u.drop w.length).length by rw[HRL.out];omega] at h9;rw[h9];simp[wdC]
    ·obtain⟨a9,blk,ha9,hga9,hap⟩:=Af.apo (P:=prog) (sz:=1) hs2 hu0 (by omega) hdl;have hlt9:c<r.length+(u.length-w.length):=by omega
     have hrm:0+r.length*1<=Lo.length:=by omega
     have hrm4:r.length<=40000:=by omega
     have HA5:=Aa.mk hA5;clear hs2 hfu hA3 hA5
     iterate 8 all_goals try first|apply spl<;>intro h|simp (disch:=first|assumption|omega|simp) [*]
     refine ih.out (E.length-(k+1)) _ _ (by omega) ⟨k+1,n4+1,_,.slq n4 0 (r.length+(u.length-w.length)) 0,r++u.drop w.length,by omega,rfl,rfl,by omega,by rw[HRL.out];omega,⟨fun b hb=>?_⟩,?_,⟨.inr ⟨by rw[HRL.out];omega,n4,by rw[HRL.out],by omega,by omega,Ag.trans ?_⟩⟩,HST2,by simp[*]⟩
     ·simp (disch:=omega) only[Ad,Ae];exact(HG4.out b (by omega)).trans (HG.out b hb)
     ·simp (disch:=omega) only[Ad,Ae];exact hgn4
     ·have h9:=HA5.out;simp[h9,wdC]
   ·obtain⟨a9,blk,ha9,hga9,hap⟩:=Af.apq (P:=prog) (sz:=1) hs2 hu0 (by omega) hdl;have hB4:=(HG4.out B (by omega)).trans hC3;have hr4:r.length<=40000:=by omega
    have hrw1:(wdC r).length=r.length*1:=by rw[Bl,Ea]
    clear hs2 hfu hC3
    iterate 8 all_goals try first|apply spl<;>intro h|simp (disch:=first|assumption|omega|simp) [*]
    refine ih.out (E.length-(k+1)) _ _ (by omega) ⟨k+1,n4+1,_,.slq n4 0 (r.length+(u.length-w.length)) 0,r++u.drop w.length,by omega,rfl,rfl,by omega,by rw[HRL.out];omega,⟨fun b hb=>?_⟩,?_,⟨.inr ⟨by rw[HRL.out];omega,n4,by rw[HRL.out],by omega,by omega,Ag.trans (by simp[wdC])⟩⟩,HST2,by simp[*]⟩
    ·simp (disch:=omega) only[Ad,Ae];exact(HG4.out b (by omega)).trans (HG.out b hb)
    ·simp (disch:=omega) only[Ad,Ae];exact hgn4
 ·have hltI:¬(k:Int)<(E.length:Int):=by omega
  have hR:RES=some r:=by
   rw[HRE.out,g3u (by omega)];simp[Bk]
  clear HRE;subst hR;have HCL:=Aa.mk (f9d r (by omega) gL n2 rv HGR.out.rep)
  iterate 8 all_goals try first|apply spl<;>intro h|simp (disch:=first|assumption|omega|simp) [*]
  refine WC.mono HCL.out ?_;rintro _ ⟨sv1,g5,n5,rfl,hn5,hg5,hcl⟩;have HG5:=Aa.mk hg5;clear hg5
  iterate 8 all_goals try first|apply spl<;>intro h|simp (disch:=first|assumption|omega|simp) [*]
  refine WC.mono (g1e r g5 n2 n5 sv1 hcl) ?_;rintro _ ⟨sv3,rfl,hf3,ht3⟩;have HF3:=Aa.mk hf3;have HT3:=Aa.mk ht3;clear hf3 ht3 hcl
  iterate 8 all_goals try first|apply spl<;>intro h|simp (disch:=first|assumption|omega|simp) [*]
  exact⟨_,_,_,⟨rfl,rfl,rfl⟩,by omega,fun b hb=>(HG5.out b (by omega)).trans (HG.out b hb),HF3.out.keep (by omega) (Dm _) (fun _ _ _=>rfl),HT3.out⟩
end Go.Ai
end
section
namespace Go.Ai
open Go.Proofs Go.Proofs.Tryz
set_option maxRecDepth 10000
set_option maxHeartbeats 40000000
theorem g1f {l:Wq} (hll:l.length<=100000) {w:Wd} (hwl:w.length<=1000) (hwls:∀ x∈l,x.length<=1000) (g:Gb) (n:Nat) (lv sv:AV) (h1:Bj g n l lv) (hw:Aj g n w sv) :
  WC 0 prog 42 [lv,sv] ⟨.fn g,n⟩ fun r=>r=.ret (.lit (.bool (decide (w∈l)))) ⟨.fn g,n⟩:=by
 have hlen:=@Am prog _ _ _ _ _ h1.choose_spec.1;have H1:=Aa.mk h1;have HW:=Aa.mk hw;have HWL:=Aa.mk hwls;obtain⟨res,hres⟩ : ∃ b,b=decide (w∈l):=⟨_,rfl⟩;rw[<- hres];have HRE:=Aa.mk hres;clear h1 hw hwls hres;refine ent [] func42 rfl (by decide +kernel) (by kernel_rfl) ?_
 iterate 8 all_goals try first|apply spl<;>intro h|simp (disch:=first|assumption|omega|simp) [*]
 refine LX.ind (fun m gf H'=>∃ k:Nat,k<=l.length/\m=l.length-k/\H'=⟨.fn g,n⟩/\Aa (w ∉ l.take k)/\gf 0=some lv/\gf 1=some sv/\gf 5=some (.li k)) (m0:=l.length) ?_ ?_
 ·exact⟨0,Dt _,rfl,rfl,⟨by simp⟩,by simp[*]⟩
 rintro m gf H' ⟨k,hk,rfl,rfl,HN,w0,w1,w5⟩ ih;refine rnd [] (by decide +kernel) ?_;by_cases hlt:k<l.length
 ·have hkI:(k:Int)<(l.length:Int):=by omega
  obtain⟨a,off,q,ha,hia,hc,hq⟩:=H1.out.at hlt;have HS:=Aa.mk (b4s l[k] w (by have:=HWL.out _ (Ds hlt);omega) (by omega) g n q sv hq HW.out);have hwk:Aa (w ∉ l.take (k+1)\/l[k]=w):=⟨by
   by_cases h:l[k]=w
   ·exact .inr h
   ·refine .inl ?_;rw[a2l hlt,Ed,Ek];rintro (h1|h1)
    ·exact HN.out h1
    ·exact h h1.symm⟩
  have HIX:Aa (l[k]=w->res=true):=⟨fun h=>by rw[HRE.out,<- h];exact decide_eq_true (Ds hlt)⟩;generalize l[k]=x at *
  iterate 8 all_goals try first|apply spl<;>intro h|simp (disch:=first|assumption|omega|simp) [*]
  refine WC.mono HS.out ?_;rintro _ rfl;by_cases hx:x=w
  ·have hix:=HIX.out hx;subst hix;simp only[hx,decide_true]
   iterate 8 all_goals try first|apply spl<;>intro h|simp (disch:=first|assumption|omega|simp) [*]
  ·have hnm:w ∉ l.take (k+1):=hwk.out.resolve_right hx;simp only[hx,decide_false]
   iterate 8 all_goals try first|apply spl<;>intro h|simp (disch:=first|assumption|omega|simp) [*]
   exact ih.out (l.length-(k+1)) _ _ (by omega) ⟨k+1,by omega,rfl,rfl,⟨hnm⟩,by simp[*]⟩
 ·have hkI:¬(k:Int)<(l.length:Int):=by omega
  have hre:res=false:=by
   have h2:=HN.out;rw[Ee (by omega)] at h2;rw[HRE.out];exact decide_eq_false h2
  subst hre
  iterate 8 all_goals try first|apply spl<;>intro h|simp (disch:=first|assumption|omega|simp) [*]
end Go.Ai
end
section
namespace Go.Ai
open Go.Proofs Go.Proofs.Tryz
set_option maxRecDepth 10000
set_option maxHeartbeats 40000000
theorem g1g {l:Wq} (hll:l.length<=30000) {w:Wd} (hwl:w.length<=1000) (hwls:∀ x∈l,x.length<=1000) (g gk:Gb) (hgk:∀ a z,gk a=some z->g a=some z) (n:Nat) (lv wv:AV) (svs:List AV) (hsv:Af gk n lv l.length svs) (hr:RowsW gk n l svs) (hw:Aj gk n w wv) :
  WC 0 prog 60 [lv,wv] ⟨.fn g,n⟩ fun r=>∃ ov g' n',r=.ret ov ⟨.fn g',n'⟩/\n<=n'/\(∀ b,b<n->g' b=g b)/\((a1l l w=l/\ov=lv)\/(a1l l w=l++[w]/\∃ B,Bc g' n n' B ov (a1l l w).length 1 (svs++[wv]))):=by
 replace hsv:Af g n lv l.length svs:=Af.ext (Dm _) (fun a x _ hx=>hgk a x hx) hsv;have hlen:=@Am prog _ _ _ _ _ hsv;have h1l:oneC lv=true:=hsv.one;have h1w:oneC wv=true:=hw.one;have hcw:cellsOf wv=[wv]:=hw.cell;have h2w:allOne [wv]=true:=by simp[h1w]
 have hsl:svs.length=l.length:=hr.1;have HH:=Aa.mk (g1f (by omega) hwl hwls g n lv wv ⟨svs,hsv,hr.ext (Dm _) fun a x _ hx=>hgk a x hx⟩ (Af.ext (Dm _) (fun a x _ hx=>hgk a x hx) hw));have HR:=Aa.mk hr;have HW:=Aa.mk hw;have HSV:=Aa.mk hsv;clear hr hw hsv hwls hgk;refine ent [] func60 rfl (by decide +kernel) (by kernel_rfl) ?_
 iterate 8 all_goals try first|apply spl<;>intro h|simp (disch:=first|assumption|omega|simp) [*]
 refine WC.mono HH.out ?_;rintro _ rfl;by_cases hin:w∈l
 ·have hpm:a1l l w=l:=if_pos hin;simp only[hin,decide_true];have HPM:=Aa.mk hpm;clear hpm
  iterate 8 all_goals try first|apply spl<;>intro h|simp (disch:=first|assumption|omega|simp) [*]
  exact⟨_,_,_,⟨rfl,rfl,rfl⟩,Dm _,fun _ _=>rfl,.inl ⟨HPM.out,rfl⟩⟩
 ·have hpm:a1l l w=l++[w]:=if_neg hin;simp only[hin,decide_false];by_cases hl0:l.length=0
  ·have hsv:=HSV.out;rw[hl0] at hsv;have hap:=fun {H:Mem} {ev:Ev} {d:Option Tmp} {ty:TypeId} {p:String} {af:Array Edge} {gd:Option (Nat×Bool)} {x y:Operand} {s t:TypeId} {a off:Nat} {hx:ev x=some (.sl a off 0 0)} {hy:ev y=some lv} (hp:(apI prog s t).isSome=true)=>Af.ap00 (P:=prog) hsv (H:=H) (ev:=ev) (d:=d) (ty:=ty) (p:=p) (af:=af) (gd:=gd) (x:=x) (y:=y) (a:=a) (off:=off) (hx:=hx) (hy:=hy) hp;have HPM:=Aa.mk hpm;have HL0:=Aa.mk hl0;clear hsv hpm hl0
   iterate 8 all_goals try first|apply spl<;>intro h|simp (disch:=first|assumption|omega|simp) [*]
   have hs0:svs=[]:=g3r.1 (by rw[hsl];exact HL0.out);rw[hs0];refine⟨_,_,_,⟨rfl,rfl,rfl⟩,by omega,fun b hb=>by simp (disch:=omega) only[Ad],.inr ⟨HPM.out,n+1+1,.inr ⟨by rw[HPM.out];simp,by rw[HPM.out];simp[HL0.out],by omega,by omega,Ag,by rw[HPM.out];simp[HL0.out]⟩⟩⟩
  ·have hsv:=HSV.out;obtain⟨a9,blk,ha9,hga9,hap⟩:=Af.ap0 (P:=prog) (sz:=1) hsv (by omega) (by omega) (by rw[hsl,Ea]);have hsl1:svs.length=l.length*1:=by omega
   have HPM:=Aa.mk hpm;clear hsv hpm hsl
   iterate 8 all_goals try first|apply spl<;>intro h|simp (disch:=first|assumption|omega|simp) [*]
   exact⟨_,_,_,⟨rfl,rfl,rfl⟩,by omega,fun b hb=>by simp (disch:=omega) only[Ad,Ae],.inr ⟨HPM.out,n+1+1+1,.inr ⟨by rw[HPM.out];simp,by rw[HPM.out];simp,by omega,by omega,Ag,by rw[HPM.out];simp;omega⟩⟩⟩
end Go.Ai
end
section
namespace Go.Ai
open Go.Proofs Go.Proofs.Tryz
set_option maxRecDepth 10000
set_option maxHeartbeats 40000000
variable {g:Gb} {n B:Nat} {sv:AV} {ts:Lq}
theorem d7d {lo len sz:Nat} {cs:List AV} (h:Bc g lo n B sv len sz cs) : Bm sv:=by
 intro a o k c e;rcases h with⟨_,_,h3⟩|⟨_,h3,_⟩
 ·rw[h3] at e;cases e
 ·rw[h3] at e;cases e
def b8a (g:Gb) (lo n:Nat) (w:Wd) (sv:AV) : Prop:=a1b g lo n w sv/\Bm sv
def a4p (g:Gb) (lo n B:Nat) (ts:Lq) (sv:AV) : Prop:=∃ cs,Bc g lo n B sv ts.length 2 cs/\RowsF g lo n B ts cs/\∀ v∈cs,Bm v
theorem a4p.logF {lo:Nat} (h:a4p g lo n B ts sv) : b4i g lo n B ts sv:=let ⟨cs,h1,h2,_⟩:=h;⟨cs,h1,h2⟩
theorem a4p.one {lo:Nat} (h:a4p g lo n B ts sv) : oneC sv=true:=h.logF.one
theorem a4p.logX {lo:Nat} (h:a4p g lo n B ts sv) : a7e g n ts sv:=by
 obtain⟨cs,h1,h2,h3⟩:=h;refine⟨cs,Af.ext (Dm _) (fun a x _ hx=>?_) h1.slice,h2.rows,h3⟩;split at hx
 ·exact hx
 ·cases hx
theorem a4p.keep {g': Gb} {lo lo' n':Nat} (h:a4p g lo n B ts sv) (h0:lo'<=lo) (h2:n<=n') (hg:∀ a,lo<=a->a<n->g' a=g a) : a4p g' lo' n' B ts sv:=by
 obtain⟨cs,h1,h3,h4⟩:=h;refine⟨cs,?_,h3.keep h0 h2 (.inr (.inl rfl)) fun a h4 h5 _=>hg a h4 h5,h4⟩;rcases h1 with h1|⟨k1,k2,k3,k4,k5,k6⟩
 ·exact .inl h1
 ·exact .inr ⟨k1,k2,by omega,by omega,(hg B k3 k4).trans k5,k6⟩
theorem d7e {M:Bg} (hM:M.ok) (w:Wd) (hwl:w.length<=300) (hw:inW w M.inp=true) (g:Gb) (n:Nat) (ms:List AV) (wv:AV) (hr:a3k g n M ms) (hv:Aj g n w wv) :
  WC 0 prog 45 [.agg ms,.li 0,wv] ⟨.fn g,n⟩ fun r=>∃ sv g' n',r=.ret sv ⟨.fn g',n'⟩/\n<=n'/\(∀ b,b<n->g' b=g b)/\b8a g' n n' (Dh M 0 w) sv:=by
 obtain⟨rv,rfl,h1r⟩:=hr.one;have h1a:allOne [.li M.inp,.li M.out,rv]=true:=by simp[h1r]
 have hlen:=@Am prog _ _ _ _ _ hv;have HR:=Aa.mk hr;have HV:=Aa.mk hv;have HM:=Aa.mk hM;have HW:=Aa.mk hw;have hr0:=hM.2.2.2.2.1;clear hr hv hM hw;refine ent pl45 func45 rfl (by decide +kernel) (by kernel_rfl) ?_
 iterate 8 all_goals try first|apply spl<;>intro h|simp (disch:=first|assumption|omega|simp) [*]
 refine LX.ind (fun m gf H'=>∃ (k n' : Nat) (gL:Gb) (B:Nat) (sv:AV) (cs:List AV) (s:Int),k<=w.length/\m=w.length-k/\H'=⟨.fn gL,n'⟩/\n+1<=n'/\Aa (∀ b,b<n->gL b=g b)/\gL n=some (.cells [.li M.inp,.li M.out,rv] true 0) /\
  Aa (Bc gL (n+1) n' B sv k 1 cs)/\Aa (cs=wdC (Dh M 0 (w.take k)))/\Aa (s=b2r M 0 (w.take k)/\b7s M s)/\gf 1=some (.li s)/\gf 2=some wv/\gf 3=some (.ptr n 0)/\gf 7=some sv/\gf 8=some (.li k)) (m0:=w.length) ?_ ?_
 ·exact⟨0,_,_,0,_,[],0,Dt _,rfl,rfl,Dm _,⟨fun b hb=>Ad hb⟩,Ag,⟨.inl ⟨rfl,rfl,rfl⟩⟩,⟨rfl⟩,⟨rfl,.inr ⟨0,rfl,by omega⟩⟩,by simp[*]⟩
 rintro m gf H' ⟨k,n',gL,B,sv,cs,s,hk,rfl,rfl,hn',HG,hgn,HGR,HC,HST,w1,w2,w3,w7,w8⟩ ih;refine rnd pl45 (by decide +kernel) ?_;by_cases hlt:k<w.length
 ·have hltI:(k:Int)<(w.length:Int):=by omega
  obtain⟨a2,off,ha2,hia,hcell⟩:=Af.mono (g4o hn') HG.out HV.out |> fun h=>Aj.at (w:=w) h hlt;have htk:=a2l hlt;have hx:=of_decide_eq_true (Ec.1 HW.out _ (Ds hlt));have HN:=Aa.mk (fun (gX:Gb) (n2:Nat) (hn2:n<=n2) (hX:∀ b,b<n->gX b=g b)=>f8w HM.out s w[k] HST.out.2 hx.1 hx.2 gX n2 _ (HR.out.mono hn2 hX));have HA:Aa (b2r M 0 (w.take (k+1))=(a0q M s w[k]).1):=⟨by rw[htk,d5h,<- HST.out.1];rfl⟩;have HRN:Aa (Dh M 0 (w.take (k+1))=Dh M 0 (w.take k)++[(a0q M s w[k]).2]):=⟨by rw[htk,d5g,<- HST.out.1];rfl⟩;have HOK:=Aa.mk (d5i (d5l HM.out HST.out.2 hx.1 hx.2)).1;clear hx htk;generalize w[k]=x at *;generalize a0q M s x=e at *;obtain⟨to,eo⟩:=e;dsimp only at *
  iterate 8 all_goals try first|apply spl<;>intro h|simp (disch:=first|assumption|omega|simp) [*]
  refine WC.mono (HN.out _ _ (by omega) fun b (hb:b<n)=>(Ad (by omega)).trans (HG.out b hb)) ?_;rintro _ ⟨g2,n2,rfl,hn2,hX⟩;have HG2:Aa (∀ b,b<n->g2 b=g b):=⟨fun b hb=>(hX b (by omega)).trans ((Ad (by omega)).trans (HG.out b hb))⟩;have hnn2:n'+1<=n2:=hn2;have hg2n:g2 n=some (.cells [.li M.inp,.li M.out,rv] true 0):=(hX n (by omega)).trans ((Ad (by omega)).trans hgn);have hg2e:g2 n'=some (.cells [.li 0,.li 0] true 0):=(hX n' (by omega)).trans Ag;have HX:=Aa.mk hX;have HEND:Aa (∀ cs',cs'=cs++[.li eo]->cs'=wdC (Dh M 0 (w.take (k+1)))/\cs'.length=(k+1)*1):=⟨fun cs' h=>by
   rw[HRN.out,a8u,<- HC.out];refine⟨h,?_⟩;rw[h,HC.out,Dr,Bl,b7r,Du];simp;omega⟩
  clear hX hn2 HN hia hcell ha2;rcases HGR.out with⟨hk0,hc0,hs0⟩|⟨hk0,hs0,hB1,hB2,hB3,hB4⟩
  ·subst hs0;have HZ:=Aa.mk (And.intro hk0 hc0);clear hk0 hc0
   iterate 8 all_goals try first|apply spl<;>intro h|simp (disch:=first|assumption|omega|simp) [*]
   have HQ:=HEND.out [.li eo] (by rw[HZ.out.2];rfl);refine ih.out (w.length-(k+1)) _ _ (by omega) ⟨k+1,n2+1+1,_,n2+1,.slq (n2+1) 0 (k+1) 0,_,to,by omega,rfl,rfl,by omega,⟨fun b hb=>?_⟩,?_,⟨.mk Ag (by omega) (by omega) HQ.2⟩,⟨HQ.1⟩,⟨HA.out.symm,HOK.out⟩,by simp,by simp[*],by simp[*],by rw[HZ.out.1];simp,by simp⟩
   ·simp (disch:=omega) only[Ad];exact HG2.out b hb
   ·simp (disch:=omega) only[Ad];exact hg2n
  ·subst hs0;have hB5:g2 B=some (.cells cs true 1):=(HX.out B (by omega)).trans ((Ad hB2).trans hB3);clear hB3
   iterate 8 all_goals try first|apply spl<;>intro h|simp (disch:=first|assumption|omega|simp) [*]
   have HQ:=HEND.out _ rfl;refine ih.out (w.length-(k+1)) _ _ (by omega) ⟨k+1,n2+1+1,_,n2+1,.slq (n2+1) 0 (k+1) 0,_,to,by omega,rfl,rfl,by omega,⟨fun b hb=>?_⟩,?_,⟨.mk Ag (by omega) (by omega) HQ.2⟩,⟨HQ.1⟩,⟨HA.out.symm,HOK.out⟩,by simp[*]⟩
   ·simp (disch:=omega) only[Ad,Ae];exact HG2.out b hb
   ·simp (disch:=omega) only[Ad,Ae];exact hg2n
 ·have hltI:¬(k:Int)<(w.length:Int):=by omega
  have hkw:k=w.length:=by omega
  have HREP:Aa (b8a gL n n' (Dh M 0 w) sv):=⟨by
   have h1:=HGR.out;rw[HC.out,hkw,g4n] at h1;exact⟨(h1.fresh (b7r w 0).symm).keep (Dx n) (Dm _) fun _ _ _=>rfl,d7d h1⟩⟩
  clear hkw
  iterate 8 all_goals try first|apply spl<;>intro h|simp (disch:=first|assumption|omega|simp) [*]
  exact⟨_,_,_,⟨rfl,rfl,rfl⟩,by omega,HG.out,HREP.out⟩
theorem g1h (bs:List Nat) (hb:∀ b∈bs,b<256) (I most:Nat) (hI0:0<I) (hI:I<=16) (hm:most<=12) (g:Gb) (n:Nat) (bv:AV) (hv:a5k g n bs bv) :
  WC 0 prog 44 [bv,.li I,.li most] ⟨.fn g,n⟩ fun r=>∃ sv g' n',r=.ret sv ⟨.fn g',n'⟩/\n<=n'/\(∀ b,b<n->g' b=g b)/\b8a g' n n' (Da bs I most) sv:=by
 have hlen:=@Am prog _ _ _ _ _ hv;have HV:=Aa.mk hv;have HBS:=Aa.mk hb;clear hv hb;refine ent [] func44 rfl (by decide +kernel) (by kernel_rfl) ?_
 iterate 8 all_goals try first|apply spl<;>intro h|simp (disch:=first|assumption|omega|simp) [*]
 refine LX.ind (fun m gf H'=>∃ (k n' : Nat) (gL:Gb) (B:Nat) (sv:AV) (cs:List AV),k<=bs.length/\k<=most/\m=most-k/\H'=⟨.fn gL,n'⟩/\n<=n'/\Aa (∀ b,b<n->gL b=g b) /\
  Aa (Bc gL n n' B sv k 1 cs)/\Aa (cs=wdC ((bs.take k).map fun b=>((b % I:Nat) : Int)))/\gf 0=some bv/\gf 1=some (.li I)/\gf 2=some (.li most)/\gf 7=some sv/\gf 8=some (.li k)) (m0:=most) ?_ ?_
 ·exact⟨0,_,_,0,_,[],Dt _,Dt _,rfl,rfl,Dm _,⟨fun b hb=>rfl⟩,⟨.inl ⟨rfl,rfl,rfl⟩⟩,⟨rfl⟩,by simp[*]⟩
 rintro m gf H' ⟨k,n',gL,B,sv,cs,hk,hkm,rfl,rfl,hn',HG,HGR,HC,w0,w1,w2,w7,w8⟩ ih;refine rnd [] (by decide +kernel) ?_;have fin:¬(k<bs.length/\k<most)->Aa (b8a gL n n' (Da bs I most) sv):=fun h=>⟨by
  have h1:=HGR.out;have e:bs.take k=bs.take most:=by
   by_cases h2:k<most
   ·rw[Ee (by omega),Ee (by omega)]
   ·rw[show k=most by omega]
  rw[HC.out,e] at h1;exact⟨h1.fresh (by rw[Ei,<- e,Du];omega),d7d h1⟩⟩
 have FIN:=Aa.mk fin;clear fin;by_cases hlt:k<bs.length
 ·have hltI:(k:Int)<(bs.length:Int):=by omega
  by_cases hlm:k<most
  ·have hlmI:(k:Int)<(most:Int):=by omega
   obtain⟨a2,off,ha2,hia,hcell⟩:=a5k.at (n:=n') (w:=bs) (Af.mono hn' HG.out HV.out) hlt;have hx:=HBS.out _ (Ds hlt);have HEND:Aa (∀ cs',cs'=cs++[.li ((bs[k] % I:Nat) : Int)]->cs'=wdC ((bs.take (k+1)).map fun b=>((b % I:Nat) : Int))/\cs'.length=(k+1)*1):=⟨fun cs' h=>by
    rw[a2l hlt,g3z,g5v,a8u,<- HC.out];refine⟨h,?_⟩;rw[h,HC.out,Dr,Bl,Ei,Du];simp;omega⟩
   generalize bs[k]=x at *;have hrem:(x:Int).tmod (I:Int)=((x % I:Nat) : Int):=(g5i x I).symm;have hxi:x % I<256:=Nat.lt_of_le_of_lt (Nat.mod_le x I) hx;generalize x % I=y at *;have hI1:¬(I:Int)=0:=by omega
   have hI2:¬I=0:=by omega
   rcases HGR.out with⟨hk0,hc0,hs0⟩|⟨hk0,hs0,hB1,hB2,hB3,hB4⟩
   ·subst hs0;have HZ:=Aa.mk (And.intro hk0 hc0);clear hk0 hc0
    iterate 8 all_goals try first|apply spl<;>intro h|simp (disch:=first|assumption|omega|simp) [*]
    have HQ:=HEND.out [.li (y:Int)] (by rw[HZ.out.2];rfl);refine ih.out (most-(k+1)) _ _ (by omega) ⟨k+1,n'+1+1,_,n'+1,.slq (n'+1) 0 (k+1) 0,_,by omega,by omega,rfl,rfl,by omega,⟨fun b hb=>?_⟩,⟨.mk Ag (by omega) (by omega) HQ.2⟩,⟨HQ.1⟩,by simp[*],by simp[*],by simp[*],by rw[HZ.out.1];simp,by simp⟩;simp (disch:=omega) only[Ad];exact HG.out b hb
   ·subst hs0
    iterate 8 all_goals try first|apply spl<;>intro h|simp (disch:=first|assumption|omega|simp) [*]
    have HQ:=HEND.out _ rfl;refine ih.out (most-(k+1)) _ _ (by omega) ⟨k+1,n'+1+1,_,n'+1,.slq (n'+1) 0 (k+1) 0,_,by omega,by omega,rfl,rfl,by omega,⟨fun b hb=>?_⟩,⟨.mk Ag (by omega) (by omega) HQ.2⟩,⟨HQ.1⟩,by simp[*]⟩;simp (disch:=omega) only[Ad,Ae];exact HG.out b hb
  ·have hlmI:¬(k:Int)<(most:Int):=by omega
   have HF:=FIN.out (by omega)
   iterate 8 all_goals try first|apply spl<;>intro h|simp (disch:=first|assumption|omega|simp) [*]
   exact⟨_,_,_,⟨rfl,rfl,rfl⟩,by omega,HG.out,HF.out⟩
 ·have hltI:¬(k:Int)<(bs.length:Int):=by omega
  have HF:=FIN.out (by omega)
  iterate 8 all_goals try first|apply spl<;>intro h|simp (disch:=first|assumption|omega|simp) [*]
  exact⟨_,_,_,⟨rfl,rfl,rfl⟩,by omega,HG.out,HF.out⟩
theorem d7f (bs:List Nat) (hb:∀ b∈bs,b<256) (I:Int) (most:Nat) (hI0:1<=I) (hI:I<=16) (hm:most<=12) (mm:Int) (hmm:mm=most) (g:Gb) (n:Nat) (bv:AV) (hv:a5k g n bs bv) :
  WC 0 prog 44 [bv,.li I,.li mm] ⟨.fn g,n⟩ fun r=>∃ sv g' n',r=.ret sv ⟨.fn g',n'⟩/\n<=n'/\(∀ b,b<n->g' b=g b)/\b8a g' n n' (Da bs I.toNat most) sv:=by
 obtain⟨k,rfl⟩ : ∃ k:Nat,I=k:=⟨I.toNat,by omega⟩;subst hmm;exact g1h bs hb k most (by omega) (by omega) hm g n bv hv
theorem g1i {st inp out:Nat} {part:Bool} {es:List Nat} {ev:AV} {ws:List (List Nat)} {wv:AV} (ia ib ic:Int) (g:Gb) (n:Nat) (hI:InG g n st inp out es ev ws wv) :
  WC 0 prog 59 [.agg [.lit (.int .u8 st),.lit (.int .u8 inp),.lit (.int .u8 out),.lit (.bool part),ev,wv,.lit (.int .u8 ia),.lit (.int .u8 ib),.lit (.int .u8 ic)]] ⟨.fn g,n⟩ fun r=>∃ sv g' n' B,r=.ret (.agg [.lit (.int .i64 (Ce st inp out part es).inp),.lit (.int .i64 (Ce st inp out part es).out),sv]) ⟨.fn g',n'⟩/\n<=n'/\(∀ b,b<n->g' b=g b)/\a4p g' n n' B (a1k (Ce st inp out part es) ws) sv:=by
 have hlen:=@Am prog _ _ _ _ _ hI.sw.choose_spec.1;have h1e:=hI.se.one;have h1w:=hI.sw.choose_spec.1.one;have hone:allOne [.lit (.int .u8 st),.lit (.int .u8 inp),.lit (.int .u8 out),.lit (.bool part),ev,wv,.lit (.int .u8 ia),.lit (.int .u8 ib),.lit (.int .u8 ic)]=true:=by simp[h1e,h1w]
 have HMO:=Aa.mk fun (gX:Gb) (n2:Nat) (hn:n<=n2) (hX:∀ b,b<n->gX b=g b)=>d5f st inp out part es ev gX n2 hI.b0 hI.b1 hI.b2 (hI.se.mono hn hX) hI.eb;have HI:=Aa.mk hI;have HM:=Aa.mk (c5k st inp out part es);clear hI;generalize Ce st inp out part es=M at *;refine ent pl59 func59 rfl (by decide +kernel) (by kernel_rfl) ?_
 iterate 8 all_goals try first|apply spl<;>intro h|simp (disch:=first|assumption|omega|simp) [*]
 refine WC.mono (HMO.out _ _ (by omega) fun b (hb:b<n)=>by simp (disch:=omega) only[Ad]) ?_;rintro _ ⟨ms,g1,n1,rfl,hn1,hg1,hfr⟩;obtain⟨rv,hms,h1r⟩:=hfr.rep.one;subst hms;have hone2:allOne [.li M.inp,.li M.out,rv]=true:=by simp[h1r]
 have HR:=Aa.mk hfr.rep;have HG1:Aa (∀ b,b<n->g1 b=g b):=⟨fun b hb=>(hg1 b (by omega)).trans (by simp (disch:=omega) only[Ad])⟩;have HX1:=Aa.mk hg1;clear hg1 hfr HMO
 iterate 8 all_goals try first|apply spl<;>intro h|simp (disch:=first|assumption|omega|simp) [*]
 have hgn1:g1 n=some (.cells [.lit (.int .u8 st),.lit (.int .u8 inp),.lit (.int .u8 out),.lit (.bool part),ev,wv,.lit (.int .u8 ia),.lit (.int .u8 ib),.lit (.int .u8 ic)] true 0):=(HX1.out n (by omega)).trans (by simp (disch:=omega) only[Ad,Ag]);have hgo1:g1 (n+1)=some (.cells [.li 0,.li 0,.nl] true 0):=(HX1.out (n+1) (by omega)).trans (by simp (disch:=omega) only[Ad,Ag]);clear HX1;refine LX.ind (fun m gf H'=>∃ (k n' : Nat) (gL:Gb) (B:Nat) (sv:AV),k<=ws.length/\k<=12/\m=12-k/\H'=⟨.fn gL,n'⟩/\n1+1+1<=n'/\B<n'/\Aa (∀ b,b<n1->gL b=g1 b)/\gL n1=some (.cells [.li M.inp,.li M.out,rv] true 0) /\
  gL (n1+1)=some (.cells [.li M.inp,.li M.out,sv] true 0)/\Aa (a4p gL (n1+1+1) n' B ((ws.take k).map (b0w M)) sv)/\gf 1=some (.ptr n 0)/\gf 2=some (.ptr (n+1) 0)/\gf 3=some (.ptr n1 0)/\gf 4=some (.ptr (n1+1) 0)/\gf 5=some (.li k)) (m0:=12) ?_ ?_
 ·refine⟨0,_,_,0,_,Dt _,Dt _,rfl,rfl,Dm _,by omega,⟨fun b hb=>?_⟩,?_,Ag,⟨[],.inl ⟨rfl,rfl,rfl⟩,.nil,fun v hv=>by cases hv⟩,by simp[*]⟩
  ·exact(Ad (by omega)).trans (Ad hb)
  ·exact(Ad (by omega)).trans Ag
 rintro m gf H' ⟨k,n',gL,B,sv,hk,hk12,rfl,rfl,hn',hBn,HG,hgm,hgl,HL,w1,w2,w3,w4,w5⟩ ih;have hgn:=(HG.out n (by omega)).trans hgn1;have hgo:=(HG.out (n+1) (by omega)).trans hgo1;have h1sv:=HL.out.one;have hone3:allOne [.li M.inp,.li M.out,sv]=true:=by simp[h1sv]
 have FIN:Aa (¬(k<ws.length/\k<12)->a4p gL (n1+1+1) n' B (a1k M ws) sv):=⟨fun h=>by
  have e:ws.take k=ws.take 12:=by
   by_cases h2:k<12
   ·rw[Ee (by omega),Ee (by omega)]
   ·rw[show k=12 by omega]
  have h1:=HL.out;rw[e] at h1;exact h1⟩
 refine rnd pl59 (by decide +kernel) ?_;by_cases hlt:k<ws.length
 ·have hltI:(k:Int)<(ws.length:Int):=by omega
  by_cases hlm:k<12
  ·have hlmI:(k:Int)<12:=by omega
   obtain⟨a2,off,q,ha2,hia,hcell,hrb⟩:=HI.out.sw.at hlt;have hcell2:Be (some (false,1)) (gL a2) (off+k)=some q:=(congrArg (fun z=>Be (some (false,1)) z (off+k)) ((HG.out a2 (by omega)).trans (HG1.out a2 ha2))).trans hcell;have hM:=HM.out;have HWD:=Aa.mk (fun (gX:Gb) (n2:Nat) (hn2:n<=n2) (hX:∀ b,b<n->gX b=g b)=>d7f ws[k] (HI.out.wb _ (Ds hlt)) M.inp 10 hM.1 hM.2.1 (by decide) 10 rfl gX n2 q (Af.mono hn2 hX hrb));have HTK:Aa ((ws.take (k+1)).map (b0w M)=(ws.take k).map (b0w M)++[b0w M ws[k]]):=⟨by rw[a2l hlt,g3z,g5v]⟩;have HW:Aa (b0w M ws[k]=(Da ws[k] M.inp.toNat 10,Dh M 0 (Da ws[k] M.inp.toNat 10))/\(Da ws[k] M.inp.toNat 10).length<=10/\inW (Da ws[k] M.inp.toNat 10) M.inp=true):=⟨rfl,c1e,c1d hM.1⟩;clear hcell hrb hM;generalize Da ws[k] M.inp.toNat 10=w at *;generalize b0w M ws[k]=t at *
   iterate 8 all_goals try first|apply spl<;>intro h|simp (disch:=first|assumption|omega|simp) [*]
   refine WC.mono (HWD.out _ _ (by omega) fun b (hb:b<n)=>(HG.out b (by omega)).trans (HG1.out b hb)) ?_;rintro _ ⟨uv,g2,n2,rfl,hn2,hX2,hfw⟩;have HX2:=Aa.mk hX2;have HFW:=Aa.mk hfw;have hgm2:=(hX2 n1 (by omega)).trans hgm;have hgl2:=(hX2 (n1+1) (by omega)).trans hgl;have hone4:oneC uv=true:=hfw.1.rep.one;have hcu:cellsOf uv=[uv]:=hfw.1.rep.cell;have HRU:=Aa.mk (fun (gX:Gb) (n3:Nat) (hn3:n2<=n3) (hX:∀ b,b<n2->gX b=g2 b)=>d7e HM.out w (by have:=HW.out.2.1;omega) HW.out.2.2 gX n3 [.li M.inp,.li M.out,rv] uv (HR.out.mono (by omega) fun b hb=>(hX b (by omega)).trans ((HX2.out b (by omega)).trans (HG.out b (by omega)))) (Af.mono hn3 hX HFW.out.1.rep));clear hX2 hfw HWD hcell2 hia
   iterate 8 all_goals try first|apply spl<;>intro h|simp (disch:=first|assumption|omega|simp) [*]
   refine WC.mono (HRU.out _ _ (by omega) fun b hb=>rfl) ?_;rintro _ ⟨zv,g3,n3,rfl,hn3,hX3,hfz⟩;have HX3:=Aa.mk hX3;have HFZ:=Aa.mk hfz;have hgm3:=(hX3 n1 (by omega)).trans hgm2;have hgl3:=(hX3 (n1+1) (by omega)).trans hgl2;have hone5:oneC zv=true:=hfz.1.rep.one;have hcz:cellsOf zv=[zv]:=hfz.1.rep.cell;have hone6:allOne [uv,zv]=true:=by simp[hone4,hone5]
   clear hX3 hfz HRU;obtain⟨cs,hgr,hrf,hcc⟩:=HL.out;have HCC:=Aa.mk hcc;clear hcc;have HRF:=Aa.mk hrf;have hcl:=hrf.1;rw[Ei,Du,g4a hk] at hgr;rw[Ei,Du,g4a hk] at hcl;clear hrf;have HNB:Aa (∀ a,n'<=a->a≠B):=⟨fun a h=>by omega⟩;have HLOG:Aa (∀ gF:Gb,(∀ b,n1+1+1<=b->b<n3->b≠B->gF b=g3 b)->gF (n3+1)=some (.cells (cs++[uv,zv]) true 2)->a4p gF (n1+1+1) (n3+1+1) (n3+1) ((ws.take (k+1)).map (b0w M)) (.slq (n3+1) 0 (k+1) 0)):=⟨fun gF h1 h2=>by
    refine⟨cs++[uv,zv],?_,?_,?_⟩
    ·rw[HTK.out,Dr,Ei,Du,g4a hk];exact .mk h2 (by omega) (by omega) (by rw[Dr,hcl];simp;omega)
    ·rw[HTK.out,HW.out.1];exact(HRF.out.keep (Dm _) (by omega) (.inl (by omega)) fun a h3 h4 h5=>(h1 a h3 (by omega) h5).trans ((HX3.out a (by omega)).trans (HX2.out a h4))).snoc (HFW.out.1.safe (by omega) (by omega) (.inl (by omega)) fun a h3 h4=>(h1 a (by omega) (by omega) (HNB.out a (by omega))).trans (HX3.out a h4)) (HFZ.out.1.safe (by omega) (by omega) (.inl (by omega)) fun a h3 h4=>h1 a (by omega) h4 (HNB.out a (by omega)))
    ·intro v hv;rcases Ed.1 hv with h|h
     ·exact HCC.out v h
     ·rcases Dv.1 h with rfl|h
      ·exact HFW.out.2
      ·rw[Ek.1 h];exact HFZ.out.2⟩
   rcases hgr with⟨hk0,hc0,hs0⟩|⟨hk0,hs0,hB1,hB2,hB3,hB4⟩
   ·subst hs0;have HZ:=Aa.mk (And.intro hk0 hc0);clear hk0 hc0
    iterate 8 all_goals try first|apply spl<;>intro h|simp (disch:=first|assumption|omega|simp) [*]
    refine ih.out (12-(k+1)) _ _ (by omega) ⟨k+1,n3+1+1,_,n3+1,.slq (n3+1) 0 (k+1) 0,by omega,by omega,rfl,rfl,by omega,by omega,⟨fun b hb=>?_⟩,?_,?_,⟨HLOG.out _ (fun b h1 h2 h3=>?_) ?_⟩,by simp[*]⟩
    ·simp (disch:=omega) only[Ad,Ae];exact(HX3.out b (by omega)).trans ((HX2.out b (by omega)).trans (HG.out b hb))
    ·simp (disch:=omega) only[Ad,Ae];exact hgm3
    ·rw[HZ.out.1];simp (disch:=omega) only[Ad,Ae,Ag]
    ·simp (disch:=omega) only[Ad,Ae]
    ·rw[HZ.out.2];simp (disch:=omega) only[Ad,Ae,Ag];rfl
   ·subst hs0;have hB5:g3 B=some (.cells cs true 2):=(HX3.out B (by omega)).trans ((HX2.out B hB2).trans hB3);clear hB3
    iterate 8 all_goals try first|apply spl<;>intro h|simp (disch:=first|assumption|omega|simp) [*]
    refine ih.out (12-(k+1)) _ _ (by omega) ⟨k+1,n3+1+1,_,n3+1,.slq (n3+1) 0 (k+1) 0,by omega,by omega,rfl,rfl,by omega,by omega,⟨fun b hb=>?_⟩,?_,?_,⟨HLOG.out _ (fun b h1 h2 h3=>?_) ?_⟩,by simp[*]⟩
    ·simp (disch:=omega) only[Ad,Ae];exact(HX3.out b (by omega)).trans ((HX2.out b (by omega)).trans (HG.out b hb))
    ·simp (disch:=omega) only[Ad,Ae];exact hgm3
    ·simp (disch:=omega) only[Ad,Ae,Ag]
    ·simp (disch:=omega) only[Ad,Ae]
    ·simp (disch:=omega) only[Ad,Ae,Ag]
  ·have hlmI:¬(k:Int)<12:=by omega
   have HF:=Aa.mk (FIN.out (by omega))
   iterate 8 all_goals try first|apply spl<;>intro h|simp (disch:=first|assumption|omega|simp) [*]
   exact⟨_,_,_,⟨rfl,rfl,rfl⟩,by omega,fun b hb=>(Ad (by omega)).trans ((HG.out b (by omega)).trans (HG1.out b hb)),B,HF.out.keep (by omega) (Dm _) fun a h1 h2=>Ae (by omega)⟩
 ·have hltI:¬(k:Int)<(ws.length:Int):=by omega
  have HF:=Aa.mk (FIN.out (by omega))
  iterate 8 all_goals try first|apply spl<;>intro h|simp (disch:=first|assumption|omega|simp) [*]
  exact⟨_,_,_,⟨rfl,rfl,rfl⟩,by omega,fun b hb=>(Ad (by omega)).trans ((HG.out b (by omega)).trans (HG1.out b hb)),B,HF.out.keep (by omega) (Dm _) fun a h1 h2=>Ae (by omega)⟩
end Go.Ai
end
section
namespace Go.Ai
open Go.Proofs Go.Proofs.Tryz
set_option maxRecDepth 10000
set_option maxHeartbeats 40000000
end Go.Ai
end

