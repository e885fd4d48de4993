/- Parts of an interpreter and of a proof. No condition. -/
import Derived.Test.YtpimmmnkcgnjjaaGreatA11
import Derived.Test.YtpimmmnkcgnjjaaGreatA05
import Derived.Test.YtpimmmnkcgnjjaaGreatA09
import Derived.Test.YtpimmmnkcgnjjaaGreatA06
set_option linter.all false
set_option maxHeartbeats 40000000
set_option maxRecDepth 10000
open Go.Proofs Go.Proofs.Tryz
namespace Go.Ai
variable {O:Int}{ts:Lq}{I nx:Nat}{g':Gb}{V:Wd→Option Int}{ws:Wq}
theorem b4n{a b:Wd}(a5:a.length<=10000)(a6:b.length<=10000)(U:0<b.length)(g:Gb)(n:Nat)(h bv:AV)(A:Al g n a h)(D:Al g n b bv):
  WC 0 prog 62 [h,bv] ⟨.fn g,n⟩ λr=>∃ov g' n',r=.ret ov ⟨.fn g',n'⟩/\n<=n'/\(∀x,x<n->g' x=g x)/\D8 g' n n' (a++b) ov:=by
 have Z:(wdC b).length=b.length*1:=by rw[A9,Xj]
 have a0:(wdC a).length=a.length*1:=by rw[A9,Xj]
 have a7:=wdC_one b;by_cases Q:a.length=0
 .have hv:Af g n h a.length (wdC a):=A;rw[Q] at hv;have a1:=λ{H:Mem}{ev:Ev}{d:Option Tmp}{ty:TypeId}{p:String} {af:Array Edge} {gd:Option (Nat×Bool)} {x y:Operand} {s t:TypeId} {a off:Nat} {hx:ev x=some (.sl a off 0 0)} {hy:ev y=some h} (hp:(apI prog s t).isSome=true)=>Yp (P:=prog) hv (H:=H) (ev:=ev) (d:=d) (ty:=ty) (p:=p) (af:=af) (gd:=gd) (x:=x) (y:=y) (a:=a) (off:=off) (hx:=hx) (hy:=hy) hp;obtain⟨a9,blk,a2,a3,a4⟩:=Yc (P:=prog) (sz:=1) D U (by omega) Z;have HA:Aa (a=[]):=⟨e6j.1 Q⟩;clear A D hv Q;refine ent [] func62 ?_;simp (disch:=first|omega|simp) [*];refine⟨_,_,_,⟨rfl,rfl,rfl⟩,by omega,λx hx=>by simp (disch:=omega) only[Ad],?_⟩;rw[HA.out,List.nil_append];exact A6.fresh (B:=n+1) (.inr ⟨U,rfl,by omega,by omega,Ag,Z⟩) rfl
 .obtain⟨a8,b0,b1,b2,a1⟩:=Yc (P:=prog) (sz:=1) A (by omega) (by omega) a0;obtain⟨a9,blk,a2,a3,a4⟩:=Af.apq (P:=prog) (sz:=1) D U (by omega) Z;have b3:a.length<=40000:=by omega
  clear A D Q;refine ent [] func62 ?_;simp (disch:=first|omega|simp) [*];refine⟨_,_,_,⟨rfl,rfl,rfl⟩,by omega,λx hx=>by simp (disch:=omega) only[Ad,Ae],?_⟩;exact A6.fresh (B:=n+1+1) (.inr ⟨by omega,rfl,by omega,by omega,Ag.trans (by simp[wdC]),by rw[A9,W0,Xj]⟩) (by rw[W0])
def edC(e:Int×Int):List AV:=[.li e.1,.li e.2]
def Vr(g:Gb)(n:Nat)(r:List (Int×Int))(sv:AV):Prop:=Af g n sv r.length (r.flatMap edC)
def RowsK(g:Gb)(n:Nat)(T:Tq)(svs:List AV):Prop:=svs.length=T.length/\∀(k:Nat)(h:k<T.length),∃sv,svs[k]?=some sv/\Vr g n T[k] sv
theorem RowsK.ext{g:Gb}{b A:Nat}{l:Tq}{svs:List AV}(h:RowsK g b l svs)(D:b<=A)(Q:∀a x,a<b->g a=some x->g' a=some x):RowsK g' A l svs:=
 ⟨h.1,λk U=>let ⟨sv,Z,h2⟩:=h.2 k U;⟨sv,Z,Xz D Q h2⟩⟩
theorem Vr.at{g:Gb}{n:Nat}{r:List (Int×Int)}{sv:AV}(h:Vr g n r sv){i:Nat}(hi:i<r.length):
  ∃a off,a<n/\(∀{H:Mem}{ev:Ev}{o:Oper}{t:TypeId},iaS prog H ev o t (some (none,2)) (some sv) (some (.li (i:Int)))=.val (.ptr a (off+i*2)) H)/\A5 (some (true,2)) (g a) (off+i*2)=some (.agg (edC r[i])):=by
 obtain⟨a,off,A,D,Q⟩:=X4 (P:=prog) h hi 2;refine⟨a,off,A,Q,?_⟩;have:=D.agg (k:=i*2) (s:=2) (by rw[b0q (sz:=2) _ (λ_ _=>rfl)];omega);rw[b0p (sz:=2) r i hi (λ_ _=>rfl)] at this;exact this
theorem e0x{e:Int×Int}{l:List (Int×Int)}:goE O (e::l) nx=match Dd O nx e with|none=>none|some k=>goE O l k:=rfl
def Mu(I O:Int)(rows:Tq)(n:Nat)(es:List (Int×Int))(nx:Nat):Option Nat:=match goE O es nx with|none=>none|some z=>goT I O rows (n+1) z
theorem e0y{I:Int}{rows:Tq}{n:Nat}{e:Int×Int}{es:List (Int×Int)}:Mu I O rows n (e::es) nx=match Dd O nx e with|none=>none|some k=>Mu I O rows n es k:=by
 unfold Mu;rw[e0x];cases Dd O nx e<;>rfl
theorem e0z{I:Int}{r:List (Int×Int)}{rows:Tq}{n:Nat}:goT I O (r::rows) n nx=if (r.length:Int)=I/\n<nx then Mu I O rows n r nx else none:=rfl
theorem b4o(I O:Int)(T:Tq)(hl:T.length<=1000000)(hw:∀r∈T,r.length<=1000000)(g:Gb)(n:Nat)(sv:AV)(svs:List AV)(a8:Af g n sv T.length svs)(Z:RowsK g n T svs):
  WC 0 prog 91 [.agg [.li I,.li O,sv]] ⟨.fn g,n⟩ λr=>r=.ret (.li (Ej I O T)) ⟨.fn g,n⟩:=by
 refine X3 rfl ?_;have g8:=@Ap prog _ _ _ _ _ a8;have e0:=a8.one;have g9:allOne [.li I,.li O,sv]=true:=by simp[e0]
 have HS:=Xu a8;have HR:=Xu Z;have HW:=Xu hw;clear a8 Z hw;obtain⟨a0,Q⟩:∃b,b=Ej I O T:=⟨_,rfl⟩;rw[<- Q];unfold Ej at Q;by_cases t1:I > 16
 .have Z:a0=3:=by rw[Q,if_pos (.inl t1)]
  clear Q;refine ent [] func91 ?_;simp (disch:=first|omega|simp) [*]
  all_goals exact⟨W5 n,λb A=>Ad A⟩
 by_cases t2:O > 16
 .have Z:a0=3:=by rw[Q,if_pos (.inr (.inl t2))]
  clear Q;refine ent [] func91 ?_;simp (disch:=first|omega|simp) [*]
  all_goals exact⟨W5 n,λb A=>Ad A⟩
 by_cases t3:T.length > 65537
 .have Z:a0=3:=by rw[Q,if_pos (.inr (.inr t3))]
  have e7:65537<(T.length:Int):=by omega
  clear Q;refine ent [] func91 ?_;simp (disch:=first|omega|simp) [*]
  all_goals exact⟨W5 n,λb A=>Ad A⟩
 have e7:¬65537<(T.length:Int):=by omega
 rw[if_neg (by omega)] at Q;by_cases t4:I<1
 .have Z:a0=1:=by rw[Q,if_pos (.inl t4)]
  clear Q;refine ent [] func91 ?_;simp (disch:=first|omega|simp) [*]
  all_goals exact⟨W5 n,λb A=>Ad A⟩
 by_cases t5:O<1
 .have Z:a0=1:=by rw[Q,if_pos (.inr (.inl t5))]
  clear Q;refine ent [] func91 ?_;simp (disch:=first|omega|simp) [*]
  all_goals exact⟨W5 n,λb A=>Ad A⟩
 by_cases t6:T.length<1
 .have Z:a0=1:=by rw[Q,if_pos (.inr (.inr t6))]
  have e8:(T.length:Int)<1:=by omega
  clear Q;refine ent [] func91 ?_;simp (disch:=first|omega|simp) [*]
  all_goals exact⟨W5 n,λb A=>Ad A⟩
 have e8:¬(T.length:Int)<1:=by omega
 rw[if_neg (by omega)] at Q;have a5:=Xu Q;clear Q;refine ent [] func91 ?_;simp (disch:=first|omega|simp) [*];refine Xy (λm gf H'=>∃(k:Nat)(gL:Gb)(n' nx:Nat),k<=T.length/\m=T.length-k/\H'=⟨.fn gL,n'⟩/\n<n'/\Aa (∀b,b<n->gL b=g b)/\gL n=some (.cells [.li I,.li O,sv] true 0) /\
  Aa (goT I O T 0 1=goT I O (T.drop k) k nx)/\nx<=1+k*1000000/\gf 1=some (.ptr n 0)/\gf 3=some (.li nx)/\gf 37=some sv/\gf 38=some (.li T.length)/\gf 39=some (.li k)) (m0:=T.length) ?_ ?_
 .exact⟨0,_,_,1,W3 _,rfl,rfl,by omega,⟨λb A=>Ad A⟩,Ag,⟨rfl⟩,by omega,by simp[*]⟩
 rintro m gf H' ⟨k,gL,n',nx,hk,rfl,rfl,a6,HG,e9,HV,h0,w1,w3,h1,h2,h3⟩ ih;refine rnd [] ?_;by_cases a9:k<T.length
 .have g0:(k:Int)<(T.length:Int):=by omega
  obtain⟨q1,b5,b6⟩:=HR.out.2 k a9;obtain⟨a2,off,b8,b9,g1⟩:=HS.out.ia (P:=prog) a9 1;simp only[Xj] at g1;have g2:k<svs.length:=(W8.1 b5).1;have g3:=(b9.mono (HG.out a2 b8)).one (k:=k) (s:=1) g2;rw[(W8.1 b5).2] at g3;have h4:=@Ap prog _ _ _ _ _ b6;have c0:T.drop k=T[k]::T.drop (k+1):=Xd a9;have D:=HV.out;rw[c0,e0z] at D;have h5:=HW.out _ (W2 a9);have c1:=Xu b6;have b0:=Xu D;clear b9 b6 b5 b8 c0 D HV;generalize T[k]=row at *;have h6:oneC q1=true:=c1.out.one;by_cases u1:(row.length:Int)=I
  .subst u1;by_cases u2:k<nx
   .have g4:¬(nx:Int)<=(k:Int):=by omega
    have D:=b0.out;rw[if_pos ⟨rfl,u2⟩] at D;have g5:=Xu D;clear D b0;simp (disch:=first|omega|simp) [*];refine Xy (λm gf H'=>∃(i:Nat)(gM:Gb)(n2 nz:Nat),i<=row.length/\m=row.length-i/\H'=⟨.fn gM,n2⟩/\n<n2/\Aa (∀b,b<n->gM b=g b)/\gM n=some (.cells [.li (row.length:Int),.li O,sv] true 0) /\
     Aa (goT (row.length:Int) O T 0 1=Mu (row.length:Int) O (T.drop (k+1)) k (row.drop i) nz)/\nz<=1+k*1000000+i/\gf 1=some (.ptr n 0)/\gf 3=some (.li nz)/\gf 37=some sv/\gf 38=some (.li T.length)/\gf 39=some (.li k) /\
     gf 54=some q1/\gf 55=some (.li row.length)/\gf 56=some (.li i)) (m0:=row.length) ?_ ?_
    .exact⟨0,gL,n',nx,W3 _,rfl,rfl,a6,HG,e9,g5,by omega,by simp[*]⟩
    rintro m gf H' ⟨i,gM,n2,nz,hi,rfl,rfl,a7,a1,b1,b2,h7,x1,x3,h8,h9,i0,i1,i2,i3⟩ b7;refine rnd [] ?_;by_cases c2:i<row.length
    .have g6:(i:Int)<(row.length:Int):=by omega
     obtain⟨a3,i4,g7,i5,c6⟩:=Vr.at c1.out c2;rw[<- a1.out a3 g7] at c6;have c7:row.drop i=row[i]::row.drop (i+1):=Xd c2;have D:=b2.out;rw[c7,e0y] at D;have a4:=Xu D;clear D b2 c7;generalize row[i]=e at *;obtain⟨to,b3⟩:=e;simp only[edC] at c6;by_cases e1:to = -1
     .subst e1;by_cases e2:b3 = -1
      .subst e2;have U:goT (row.length:Int) O T 0 1=Mu (row.length:Int) O (T.drop (k+1)) k (row.drop (i+1)) nz:=by rw[a4.out];simp[Dd]
       simp (disch:=first|omega|simp) [*];refine b7.out (row.length-(i+1)) _ _ (by omega) ⟨i+1,_,_,nz,by omega,rfl,rfl,by omega,⟨λb A=>(Ad (by omega)).trans (a1.out b A)⟩,(Ad (by omega)).trans b1,⟨U⟩,by omega,by simp[*]⟩
      .by_cases e3:b3 = -2
       .subst e3;have U:goT (row.length:Int) O T 0 1=Mu (row.length:Int) O (T.drop (k+1)) k (row.drop (i+1)) nz:=by rw[a4.out];simp[Dd]
        simp (disch:=first|omega|simp) [*];refine b7.out (row.length-(i+1)) _ _ (by omega) ⟨i+1,_,_,nz,by omega,rfl,rfl,by omega,⟨λb A=>(Ad (by omega)).trans (a1.out b A)⟩,(Ad (by omega)).trans b1,⟨U⟩,by omega,by simp[*]⟩
       .have e4:¬(-1:Int)=(nz:Int):=by omega
        have U:goT (row.length:Int) O T 0 1=none:=by rw[a4.out];simp[Dd,e2,e3,e4]
        have Z:a0=1:=by rw[a5.out,U];simp
        clear U;simp (disch:=first|omega|simp) [*];exact⟨Xr (e7s a7),λb (A:b<n)=>(Ad (by omega)).trans (a1.out b A)⟩
     .by_cases e4:to=(nz:Int)
      .subst e4;by_cases e5:0<=b3
       .by_cases e6:b3<O
        .have U:goT (row.length:Int) O T 0 1=Mu (row.length:Int) O (T.drop (k+1)) k (row.drop (i+1)) (nz+1):=by rw[a4.out];simp[Dd,e1,e5,e6]
         simp (disch:=first|omega|simp) [*];refine b7.out (row.length-(i+1)) _ _ (by omega) ⟨i+1,_,_,(nz+1),by omega,rfl,rfl,by omega,⟨λb A=>(Ad (by omega)).trans (a1.out b A)⟩,(Ad (by omega)).trans b1,⟨U⟩,by omega,by simp[*]⟩
        .have U:goT (row.length:Int) O T 0 1=none:=by rw[a4.out];simp[Dd,e1,e6]
         have Z:a0=1:=by rw[a5.out,U];simp
         clear U;simp (disch:=first|omega|simp) [*];exact⟨Xr (e7s a7),λb (A:b<n)=>(Ad (by omega)).trans (a1.out b A)⟩
       .have U:goT (row.length:Int) O T 0 1=none:=by rw[a4.out];simp[Dd,e1,e5]
        have Z:a0=1:=by rw[a5.out,U];simp
        clear U;simp (disch:=first|omega|simp) [*];exact⟨Xr (e7s a7),λb (A:b<n)=>(Ad (by omega)).trans (a1.out b A)⟩
      .have U:goT (row.length:Int) O T 0 1=none:=by rw[a4.out];simp[Dd,e1,e4]
       have Z:a0=1:=by rw[a5.out,U];simp
       clear U;simp (disch:=first|omega|simp) [*];exact⟨Xr (e7s a7),λb (A:b<n)=>(Ad (by omega)).trans (a1.out b A)⟩
    .have g6:¬(i:Int)<(row.length:Int):=by omega
     have c8:i=row.length:=by omega
     have D:=b2.out;rw[c8,e7e] at D;have a4:=Xu (show goT (row.length:Int) O T 0 1=goT (row.length:Int) O (T.drop (k+1)) (k+1) nz from D);clear D b2 c8;simp (disch:=first|omega|simp) [*];refine ih.out (T.length-(k+1)) _ _ (by omega) ⟨k+1,gM,n2,nz,by omega,rfl,rfl,a7,a1,b1,a4,by omega,by simp[*]⟩
   .have g4:(nx:Int)<=(k:Int):=by omega
    have D:=b0.out;rw[if_neg (λh=>u2 h.2)] at D;have Z:a0=1:=by rw[a5.out,D];simp
    clear D;simp (disch:=first|omega|simp) [*];exact⟨Xr a6,λb A=>HG.out b A⟩
  .have D:=b0.out;rw[if_neg (λh=>u1 h.1)] at D;have Z:a0=1:=by rw[a5.out,D];simp
   clear D;simp (disch:=first|omega|simp) [*];exact⟨Xr a6,λb A=>HG.out b A⟩
 .have g0:¬(k:Int)<(T.length:Int):=by omega
  have c9:k=T.length:=by omega
  have D:=HV.out;rw[c9,e7e] at D;have b4:goT I O T 0 1=some nx:=D;clear c9 D HV;by_cases u3:nx=T.length
  .rw[u3] at w3;have Z:a0=0:=by rw[a5.out,b4,u3];simp
   clear b4 u3;simp (disch:=first|omega|simp) [*];exact⟨Xr a6,λb A=>HG.out b A⟩
  .have i6:¬(nx:Int)=(T.length:Int):=by omega
   have Z:a0=1:=by rw[a5.out,b4,if_neg (λh=>u3 (by injection h))]
   clear b4;simp (disch:=first|omega|simp) [*];exact⟨Xr a6,λb A=>HG.out b A⟩
theorem Sf:(Aj I ts).length=(Bi ts).length:=Gx
theorem e1a{rows:Tq}(a0:1<=I)(a1:I<=16)(a2:1<=O)(a3:O<=16)(h0:0<rows.length)(hl:rows.length<=65537)(D:goT I O rows 0 1=some rows.length)(Q:∀r∈rows,r.length<=1000000)(g:Gb)(n:Nat)(A:AV)(U:Dv g n rows A):
  WC 0 prog 91 [.agg [.li I,.li O,A]] ⟨.fn g,n⟩ λr=>r=.ret (.li 0) ⟨.fn g,n⟩:=by
 obtain⟨svs,Z,h2,h3⟩:=U;have h:=b4o I O rows (by omega) Q g n A svs Z ⟨h2,h3⟩;have e:Ej I O rows=0:=by
  unfold Ej;rw[if_neg (by omega),if_neg (by omega),if_pos D]
 rw[e] at h;exact h
def Cj(rows:Tq):Int->Wd->Option (Wd)
 | _,[]=>some []
 | a,i::w=>if ((rows.getD a.toNat []).getD i.toNat (-1,-1)).1 = -1 then (if ((rows.getD a.toNat []).getD i.toNat (-1,-1)).2 = -2 then some (List.replicate (w.length+1) (-1)) else none) else (Cj rows ((rows.getD a.toNat []).getD i.toNat (-1,-1)).1 w).map (((rows.getD a.toNat []).getD i.toNat (-1,-1)).2 :: ·)
def knM(V:Wd->Option Int):Bool->Wd->Wd->Option (Wd)
 | _,_,[]=>some []
 | true,p,i::w=>(knM V true (p++[i]) w).map (-1 :: ·)
 | false,p,i::w=>match V (p++[i]) with
  | none=>none
  | some o=>(knM V (decide (o = -1)) (p++[i]) w).map (o :: ·)
theorem b4p{d:Bool}{p:Wd}:knM V d p []=some []:=by rfl
theorem Sg(V:Wd->Option Int):∀(w p:Wd),knM V true p w=some (List.replicate w.length (-1))
 | [],_=>rfl
 | i::w,p=>by
  show (knM V true (p++[i]) w).map (-1 :: ·)=_;rw[Sg V w];rfl
theorem b4q(hN:Nod V ws):∀(w p:Wd),p∈ws->inW w I=true->Cj (Bk V ws I) ((ws.idxOf p:Nat):Int) w=knM V false p w
 | [],_,_,_=>rfl
 | i::w,p,D,A=>by
  unfold inW at A;rw[e8e,W1] at A;have hi:=of_decide_eq_true A.1;obtain⟨j,rfl⟩:∃j:Nat,i=j:=⟨i.toNat,by omega⟩;obtain⟨Z,a0⟩:=Mt D;have Q:((Bk V ws I).getD ((ws.idxOf p:Nat):Int).toNat []).getD (j:Int).toNat (-1,-1)=Ax V ws p j:=by
   grind[Oa,Vj]
  unfold Cj;rw[Q]
  show _=match V (p++[(j:Int)]) with
   | none=>none
   | some o=>(knM V (decide (o = -1)) (p++[(j:Int)]) w).map (o :: ·)
  unfold Ax
  cases h:V (p++[(j:Int)]) with
  | none=>rfl
  | some o =>
   by_cases U:o = -1
   .grind[Sg]
   .have ih:=b4q hN w (p++[(j:Int)]) ((hN.mem _).2 (.inr ⟨o,h,U⟩)) A.2;grind
theorem b4r{M:Aw}(Z:M.ok){ts:Lq}(h:∀t∈ts,t.2=Bc M 0 t.1):∀(w p r:Wd)(d:Bool),N7 M (Fb M 0 p)->inW w M.inp=true->(d=true->Fb M 0 p = -1)->knM (valT ts) d p w=some r->r=Bc M (Fb M 0 p) w
 | [],p,r,d,_,_,_,A=>by rw[b4p] at A;injection A with A;rw[<- A];rfl
 | i::w,p,r,true,hs,D,U,A=>by
  rw[Sg] at A;injection A with A;rw[U rfl,<- A];have key:∀(v:Wd),Bc M (-1) v=List.replicate v.length (-1):=by
   intro v
   induction v with
   | nil=>rfl
   | cons j v ih =>
    grind[Bc,Vd]
  grind
 | i::w,p,r,false,hs,D,U,A=>by
  unfold inW at D;rw[e8e,W1] at D;have hi:=of_decide_eq_true D.1;have he:=Vc (Ve Z hs hi.1 hi.2)
  have Q:(match valT ts (p++[i]) with
   | none=>none
   | some o=>(knM (valT ts) (decide (o = -1)) (p++[i]) w).map (o :: ·))=some r:=A
  cases hV:valT ts (p++[i]) with
  | none=>grind
  | some o =>
   rw[hV] at Q;have Q:(knM (valT ts) (decide (o = -1)) (p++[i]) w).map (o :: ·)=some r:=Q;obtain⟨u,hu,_,a1,a2,a0⟩:=J1 hV;have ho:o=(Ci M (Fb M 0 p) i).2:=by
    rw[a0,h u hu];have e1:u.1=(p++[i])++u.1.drop (p++[i]).length:=by
     grind[List.take_append_drop]
    rw[e1,e6c,Va];simp[K1,Bc]
   cases hq:knM (valT ts) (decide (o = -1)) (p++[i]) w with
   | none=>grind
   | some q =>
    rw[hq] at Q;have hr:o::q=r:=by grind
    have ea:Fb M 0 (p++[i])=(Ci M (Fb M 0 p) i).1:=by rw[Vb];rfl
    have ih:=b4r Z h w (p++[i]) q (decide (o = -1)) (by grind) D.2 (λU=>by grind) hq;rw[<- hr,ih,ea,ho];rfl
theorem b4s(D:Eb ts){t:List Int×Wd}(Q:t∈ts)(hl:t.2.length=t.1.length):∀(m k:Nat)(d:Bool),m=t.1.length-k->k<=t.1.length->okR O d (t.2.drop k)=true->knM (valT ts) d (t.1.take k) (t.1.drop k)=some (t.2.drop k)
 | 0,k,d,hm,hk,_=>by
  grind[b4p,List.drop_eq_nil_of_le]
 | m+1,k,d,hm,hk,U=>by
  have h:k<t.1.length:=by omega
  have A:k<t.2.length:=by omega
  rw[Xd h,Xd A];rw[Xd A] at U;obtain⟨_,_,h3,h4⟩:=N8 U;have Z:=b4s D Q hl m (k+1) _ (by omega) (by omega) h4;rw[Bv h] at Z;have hv:=a4t D Q h;rw[Bv h,Xo,W6 A] at hv
  cases d with
  | true =>
   have e:=h3 rfl;rw[e] at Z |-;show (knM (valT ts) true (t.1.take k++[t.1[k]]) (t.1.drop (k+1))).map (-1 :: ·)=_;grind
  | false =>
   grind[knM]
theorem a5c{I:Int}(D:Eb ts){t:List Int×Wd}(Q:t∈ts)(A:Cf I O t=true):knM (valT ts) false [] t.1=some t.2:=by
 unfold Cf at A;rw[W1,W1] at A;have h:=b4s (O:=O) D Q (of_decide_eq_true A.1.1) _ 0 false rfl (W3 _) A.2;grind
theorem a5d(h:∀t∈ts,Cf I O t=true)(A:Eb ts):Nod (valT ts) (Bi ts):=by
 obtain⟨us,hN,_⟩:=a4u (I:=I) _ ts rfl A h;exact⟨(Ob h).1.nodup,λw=>J2 h A w,hN.clo⟩
theorem b4t(D:B8 ws)(h:[]∈ws):ws.idxOf []=0:=by
 obtain⟨Q,U⟩:=Mt h;by_cases Z:ws.idxOf []=0
 .grind
 .have A:=D 0 (ws.idxOf []) (by omega) Q (by omega);rw[U] at A;have h2:=A.le;simp_all[X9]
theorem Si(A:∀t∈ts,Cf I O t=true)(D:Eb ts){w:Wd}(U:inW w I=true):Cj (Aj I ts) 0 w=knM (valT ts) false [] w:=by
 have hN:=a5d A D;have Q:[]∈Bi ts:=(J2 A D []).2 (.inl rfl);have h:=b4q (I:=I) hN w [] Q U;rw[b4t (Ob A).1 Q] at h;exact h
theorem Vs(l:Wq)(hl:l.length<=1000000)(D:∀w∈l,w.length<=1000000)(g:Gb)(n:Nat)(sv:AV)(svs:List AV)(U:Af g n sv l.length svs)(hr:RowsW g n l svs):
  WC 0 prog 78 [sv] ⟨.fn g,n⟩ λr=>r=.ret (.li (longM l:Nat)) ⟨.fn g,n⟩:=by
 have b4:=@Ap prog _ _ _ _ _ U;have HS:=Xu U;have HR:=Xu hr;have HW:=Xu D;clear U hr D;refine ent [] func78 ?_;simp (disch:=first|omega|simp) [*];refine Xy (λm A H'=>∃(k:Nat),k<=l.length/\m=l.length-k/\H'=⟨.fn g,n⟩/\A 3=some (.li (longM (l.take k):Nat))/\A 6=some sv/\A 7=some (.li l.length)/\A 8=some (.li k)) (m0:=l.length) ?_ ?_
 .exact⟨0,W3 _,rfl,rfl,by simp[longM],by simp[*]⟩
 rintro m A H' ⟨k,hk,rfl,rfl,w3,w6,w7,w8⟩ ih;refine rnd [] ?_;by_cases Q:k<l.length
 .have a7:(k:Int)<(l.length:Int):=by omega
  obtain⟨w1,Z,a0⟩:=HR.out.2 k Q;obtain⟨a2,off,a8,a1,a9⟩:=HS.out.ia (P:=prog) Q 1;simp only[Xj] at a9;have b0:k<svs.length:=(W8.1 Z).1;have b1:=a1.one (k:=k) (s:=1) b0;rw[(W8.1 Z).2] at b1;have b5:=@Ap prog _ _ _ _ _ a0;have a3:l.take (k+1)=l.take k++[l[k]]:=by rw[e7b,W6 Q];rfl
  have a4:longM (l.take (k+1))=max (longM (l.take k)) l[k].length:=by rw[a3,longM_snoc]
  have b6:=HW.out _ (W2 Q);have b7:longM (l.take k)<=1000000:=Rf λw D=>HW.out w (e6l D);have a5:=Xu a4;clear a4 a3 a1 a0 Z a8;generalize l[k]=w at *;have b2:∀mm:Nat,mm=longM (l.take (k+1))->mm=longM (l.take (k+1)):=λ_ h=>h;clear b2;generalize hq:longM (l.take k)=q at *;by_cases hm:q<w.length
  .have b3:(q:Int)<(w.length:Int):=by omega
   simp (disch:=first|omega|simp) [*];refine ih.out (l.length-(k+1)) _ _ (by omega) ⟨k+1,by omega,rfl,rfl,?_,by simp[*]⟩;rw[a5.out,Nat.max_eq_right (by omega)];simp
  .have b3:¬(q:Int)<(w.length:Int):=by omega
   simp (disch:=first|omega|simp) [*];refine ih.out (l.length-(k+1)) _ _ (by omega) ⟨k+1,by omega,rfl,rfl,?_,by simp[*]⟩;rw[a5.out,Nat.max_eq_left (by omega)];simp
 .have a7:¬(k:Int)<(l.length:Int):=by omega
  have a6:k=l.length:=by omega
  rw[a6,Xn] at w3;clear a6;simp (disch:=first|omega|simp) [*]
def kb(i:Int):AV:=.lit (.int .u8 (i+1))
def Mv(w:Wd)(k:Nat):List AV:=(w.take k).map kb++List.replicate (w.length-k) (.lit (.int .u8 0))
theorem e1b(w:Wd)(k:Nat)(h:k<=w.length):(Mv w k).length=w.length:=by
 grind[Mv]
theorem e1c(w:Wd)(k:Nat)(h:k<w.length):(Mv w k).set k (kb w[k])=Mv w (k+1):=by
 unfold Mv;have A:((w.take k).map kb).length=k:=by grind
 rw[e7k _ _ (by omega),A,e6h,show w.length-k=(w.length-(k+1))+1 by omega,e7m,e7q,e7b,W6 h];grind
theorem e1d(w:Wd):Mv w w.length=w.map kb:=by
 simp[Mv]
def F7(w:Wd):List UInt8:=w.map λi=>UInt8.ofNat (i+1).toNat
theorem bytes_key:∀(w:Wd),bytesOf (w.map kb)=some (F7 w)
 | []=>rfl
 | i::w=>by
  show bytesOf (.lit (.int .u8 (i+1))::w.map kb)=_;rw[b1d,bytes_key w,b1e];rfl
def Bg(w:Wd):ByteArray:=⟨(F7 w).toArray⟩
theorem e1e{a:Int}(h:0<=a)(A:a<=255):IntKind.u8.wrap a=a:=by
 simp_all
theorem mk42:mkI prog 42=some (.lit (.int .u8 0)):=by kernel_rfl
attribute [simp] mk42
theorem Pq(w:Wd)(b1:w.length<=300)(a1:∀i∈w,0<=i/\i<16)(g:Gb)(n:Nat)(sv:AV)(Q:Al g n w sv):
  WC 0 prog 52 [sv] ⟨.fn g,n⟩ λr=>r=.ret (.lit (.string (Bg w))) ⟨.fn g,n⟩:=by
 refine X3 rfl ?_;have b2:=@Ap prog _ _ _ _ _ Q;have HS:=Xu Q;have a5:=Xu a1;clear Q a1;refine ent [] func52 ?_;simp (disch:=first|omega|simp) [*];refine Xy (λm A H'=>∃(k:Nat)(gL:Gb)(L:List AV),k<=w.length/\m=w.length-k/\H'=⟨.fn gL,n+1⟩/\Aa (∀b,b<n->gL b=g b)/\gL n=some (.cells L true 0)/\Aa (L=Mv w k) /\
  A 3=some (.sl n 0 w.length w.length)/\A 9=some sv/\A 10=some (.li w.length)/\A 11=some (.li k)) (m0:=w.length) ?_ ?_
 .refine⟨0,_,_,W3 _,rfl,rfl,⟨λb h=>Ad h⟩,Ag,⟨?_⟩,by simp[*]⟩;rfl
 rintro m A H' ⟨k,gL,L,hk,rfl,rfl,U,b3,Z,w3,w9,b4,b5⟩ ih;have b6:L.length=w.length:=by rw[Z.out];grind[e1b]
 refine rnd [] ?_;by_cases D:k<w.length
 .have a6:(k:Int)<(w.length:Int):=by omega
  obtain⟨a2,off,a7,a3,a8⟩:=X4 (P:=prog) HS.out D 1;simp only[Xj] at a8;have a9:=(a3.mono (U.out a2 a7)).one (k:=k) (s:=1) (by grind[A9]);rw[(W8.1 (Hv w k D)).2] at a9;have h:=a5.out _ (W2 D);have a0:=e1c w k D;rw[<- Z.out] at a0;have b0:=Xu a0;clear a0 a3;generalize w[k]=x at *;have b7:IntKind.u8.wrap (x+1)=x+1:=e1e (by omega) (by omega);have b8:k<L.length:=by omega
  simp (disch:=first|omega|simp) [*];refine ih.out (w.length-(k+1)) _ _ (by omega) ⟨k+1,_,L.set k (kb x),by omega,rfl,rfl,⟨λb h=>(Ad h).trans (U.out b h)⟩,Ag,⟨b0.out⟩,by simp[*]⟩
 .have a6:¬(k:Int)<(w.length:Int):=by omega
  have a4:k=w.length:=by omega
  have b9:bytesOf (List.take w.length L)=some (F7 w):=by rw[Xi (by omega),Z.out,a4,e1d];exact bytes_key w
  clear a4;simp (disch:=first|omega|simp) [*];exact⟨_,⟨rfl,rfl⟩,W5 n,λb h=>U.out b h⟩
theorem Sj(s:ByteArray)(l:List ByteArray)(i:Nat):E9 s (l.zipIdx i)=l.contains s:=by
 haveI:=ba_lawful
 induction l generalizing i with
 | nil=>rfl
 | cons b l A =>
  have:=A (i+1);unfold E9 at this |-;rw[List.zipIdx_cons,List.any_cons,this,List.contains_cons];by_cases h:b=s
  .subst h;simp
  .have D:¬(s=b):=λe=>h e.symm;simp[h,D]
theorem a5e{w:Wd}{q:Int}(h:Cz w q=0):w.length<=256/\∀i∈w,0<=i/\i<16:=by
 unfold Cz at h;split at h
 .cases h
 .rename_i Z;split at h
  .cases h
  .rename_i A;have D:inW w q=true:=by
    cases Q:inW w q with
    | true=>rfl
    | false=>exact absurd (.inr Q) A
   refine⟨by omega,λi hi=>?_⟩;have U:=W7.1 D i hi;have h5:0<=i/\i<q:=by simpa using U
   omega
def Df(l:Wq):List ByteArray:=l.map Bg
def C5(q:Int)(S:Wq)(k:Nat)(w:Wd):Bool:=
 decide (k=0↔w.length=0)&&decide (Cz w q=0)&&!((Df (S.take k)).contains (Bg w))&&(decide (k=0)||(Df (S.take k)).contains (Bg (w.take (w.length-1))))
def Mw(q:Int)(S:Wq):Bool:=((List.range S.length).all λj=>C5 q S j (S.getD j []))&&decide (0<S.length)
theorem e1f(w:Wd)(m:Nat):wdC (w.take m)=(wdC w).take m:=by simp[wdC,List.map_take]
theorem Sk(l:Wq)(w:Wd){k:Nat}(h:l.length=k):Ch ((Df (l++[w])).zipIdx)=Ch ((Df l).zipIdx++[(Bg w,k)]):=by
 unfold Df;rw[e6m,List.zipIdx_append,Xl,h];simp
theorem e1g(q c1 c4 c5:Int)(c3 c6:AV)(h3:oneC c3=true)(h6:oneC c6=true)(S:Wq)(hl:S.length<=1000000)(hw:∀w∈S,w.length<=1000000)(g:Gb)(n:Nat)(sv:AV)(svs:List AV)(b4:Af g n sv S.length svs)(Q:RowsW g n S svs)(e7:∀q∈svs,Ay q):
  WC 0 prog 88 [.agg [.li q,.li c1,sv,c3,.li c4,.li c5,c6]] ⟨.fn g,n⟩ λr=>r=.ret (.lit (.bool (Mw q S))) ⟨.fn g,n⟩:=by
 refine X3 rfl ?_;have j0:=@Ap prog _ _ _ _ _ b4;have h9:=b4.one;have j1:allOne [.li q,.li c1,sv,c3,.li c4,.li c5,c6]=true:=by simp[h9,h3,h6]
 have HS:=Xu b4;have HR:=Xu Q;have HW:=Xu hw;have i0:=Xu e7;clear b4 Q hw e7;obtain⟨a0,b7⟩:∃b,b=Mw q S:=⟨_,rfl⟩;rw[<- b7];have e8:=Xu b7;clear b7;refine ent [] func88 ?_
 iterate 8 all_goals try first|apply spl<;>intro h|simp (disch:=first|assumption|omega|simp) [*]
 refine Xy (λm gf H'=>∃(k:Nat)(gL:Gb),k<=S.length/\m=S.length-k/\H'=⟨.fn gL,n+1+1⟩/\Aa (∀b,b<n->gL b=g b)/\gL n=some (.cells [.li q,.li c1,sv,c3,.li c4,.li c5,c6] true 0)/\gL (n+1)=some (.map (Ch ((Df (S.take k)).zipIdx)) k) /\
  Aa (∀j,j<k->C5 q S j (S.getD j [])=true)/\gf 1=some (.ptr n 0)/\gf 3=some (.map (n+1))/\gf 8=some sv/\gf 9=some (.li S.length)/\gf 10=some (.li k)) (m0:=S.length) ?_ ?_
 .refine⟨0,_,W3 _,rfl,rfl,⟨λb A=>(Ad (by omega)).trans (Ad A)⟩,(Ad (by omega)).trans Ag,Ag,⟨λj hj=>by omega⟩,by simp[*]⟩
 rintro m gf H' ⟨k,gL,hk,rfl,rfl,D,b8,b9,e9,w1,w3,w8,w9,j2⟩ ih;refine rnd [] ?_;by_cases a5:k<S.length
 .have i1:(k:Int)<(S.length:Int):=by omega
  obtain⟨q1,b5,c0⟩:=HR.out.2 k a5;obtain⟨a2,off,g0,a1,c2⟩:=HS.out.ia (P:=prog) a5 1;simp only[Xj] at c2;have i2:k<svs.length:=(W8.1 b5).1;have c7:=(a1.mono (D.out a2 g0)).one (k:=k) (s:=1) i2;rw[(W8.1 b5).2] at c7;have g1:Al gL (n+1+1) S[k] q1:=X0 (by omega) (λa ha=>D.out a ha) c0;have g2:=@Ap prog _ _ _ _ _ c0;have c8:S.getD k []=S[k]:=by rw[Xo,W6 a5];rfl
  have g3:S.take (k+1)=S.take k++[S[k]]:=by rw[e7b,W6 a5];rfl
  have g4:C5 q S k S[k]=false->a0=false:=λh=>by
   rw[e8.out];unfold Mw;rw[e9b];left;rw[e8w];exact⟨k,by simp[a5],by rw[c8,h];simp⟩
  have g5:C5 q S k S[k]=true->∀j,j<k+1->C5 q S j (S.getD j [])=true:=λh j hj=>by
   by_cases e:j=k
   .subst e;rw[c8];exact h
   .exact e9.out j (by omega)
  have i3:=HW.out _ (W2 a5);have g6:Ay q1:=i0.out q1 (e6e b5);have i4:=Xu g6;clear g6;have b6:=Xu g1;have HT:=Xu g3;have HB:=Xu g4;have HN:=Xu g5;clear g3 a1 c0 g1 b5 g0 g4 g5 c8;generalize S[k]=w at *;have g7:=Xu (Sj (Bg w) (Df (S.take k)) 0);have HC:=Xu (a4l w i3 q gL (n+1+1) q1 b6.out);have g8:¬(k=0↔w.length=0)->a0=false:=λh=>HB.out (by unfold C5;rw[decide_eq_false h,e6n,e6n,e6n]);have g9:=Xu g8;clear g8;have h0:¬Cz w q=0->a0=false:=λh=>HB.out (by unfold C5;rw[decide_eq_false h,e7h,e6n,e6n]);have h2:=Xu h0;clear h0;by_cases a6:k=0
  .subst a6;have j3:∀{H:Mem}{ev:Ev}{o:Oper}{t:TypeId},iaS prog H ev o t (some (none,1)) (some sv) (some (.li 0))=.val (.ptr a2 off) H:=λ{H ev o t}=>c2;have j4:A5 (some (false,1)) (gL a2) off=some q1:=c7;have j5:(0:Int)<(S.length:Int):=by omega
   clear c2 c7;by_cases c9:w.length=0
   .have e0:(w.length:Int)=0:=by omega
    iterate 8 all_goals try first|apply spl<;>intro h|simp (disch:=first|assumption|omega|simp) [*]
    refine Xv HC.out ?_;rintro _ rfl;by_cases U:Cz w q=0
    .obtain⟨i5,a7⟩:=a5e U;have a8:=Xu (Pq w (by omega) a7 gL (n+1+1) q1 b6.out);clear a7;have b0:Aa (C5 q S 0 w=true):=⟨by
      unfold C5;rw[decide_eq_true (by omega:0=0↔w.length=0),decide_eq_true U,decide_eq_true rfl];simp[Df]⟩
     rw[U];have j6:gL (n+1)=some (Blk.map (Ch []) 0):=b9;have j7:E9 (Bg w) []=false:=rfl;clear b9
     iterate 8 all_goals try first|apply spl<;>intro h|simp (disch:=first|assumption|omega|simp) [*]
     refine Xv a8.out ?_;rintro _ rfl
     iterate 8 all_goals try first|apply spl<;>intro h|simp (disch:=first|assumption|omega|simp) [*]
     refine Xv a8.out ?_;rintro _ rfl
     iterate 8 all_goals try first|apply spl<;>intro h|simp (disch:=first|assumption|omega|simp) [*]
     refine ih.out (S.length-(0+1)) _ _ (by omega) ⟨0+1,_,by omega,rfl,rfl,⟨λb A=>(Ad (by omega)).trans (D.out b A)⟩,(Ad (by omega)).trans b8,?_,⟨HN.out b0.out⟩,by simp[*]⟩;rw[HT.out,Sk (k:=0) _ _ (by simp)];simp[Df]
    .have Q:=h2.out U
     iterate 8 all_goals try first|apply spl<;>intro h|simp (disch:=first|assumption|omega|simp) [*]
     exact⟨by show n<=n+1+1;omega,λb A=>D.out b A⟩
   .have e0:¬(w.length:Int)=0:=by omega
    have Q:=g9.out (λh=>c9 (h.1 rfl))
    iterate 8 all_goals try first|apply spl<;>intro h|simp (disch:=first|assumption|omega|simp) [*]
    exact⟨by show n<=n+1+1;omega,λb A=>D.out b A⟩
  .by_cases c9:w.length=0
   .have i6:¬(k:Int)=0:=by omega
    have e0:(w.length:Int)=0:=by omega
    have Q:=g9.out (λh=>a6 (h.2 c9))
    iterate 8 all_goals try first|apply spl<;>intro h|simp (disch:=first|assumption|omega|simp) [*]
    exact⟨by show n<=n+1+1;omega,λb A=>D.out b A⟩
   .have i6:¬(k:Int)=0:=by omega
    have j8:0<(k:Int):=by omega
    have e0:¬(w.length:Int)=0:=by omega
    have j9:0<w.length:=by omega
    iterate 8 all_goals try first|apply spl<;>intro h|simp (disch:=first|assumption|omega|simp) [*]
    refine Xv HC.out ?_;rintro _ rfl;by_cases U:Cz w q=0
    .obtain⟨i5,a7⟩:=a5e U;have a8:=Xu (Pq w (by omega) a7 gL (n+1+1) q1 b6.out);have i7:=Xu a7;clear a7;rw[U]
     iterate 8 all_goals try first|apply spl<;>intro h|simp (disch:=first|assumption|omega|simp) [*]
     refine Xv a8.out ?_;rintro _ rfl;by_cases b1:(Df (S.take k)).contains (Bg w)=true
     .have i8:=g7.out.trans b1;have Q:a0=false:=HB.out (by unfold C5;rw[b1,Bool.not_true,e7h,e6n]);clear b1
      iterate 8 all_goals try first|apply spl<;>intro h|simp (disch:=first|assumption|omega|simp) [*]
      exact⟨by show n<=n+1+1;omega,λb A=>D.out b A⟩
     have e1:(Df (S.take k)).contains (Bg w)=false:=by simpa using b1
     have i8:=g7.out.trans e1;have h4:=Xu e1;clear b1 e1;obtain⟨m,hm⟩:∃m,w.length=m+1:=⟨w.length-1,by omega⟩;have k0:0<k:=by omega
     have h5:=Xu (show ∀(a off:Nat)(b2:AV),a<n+1+1->((∃c,b2=.sl a off m c)\/∃c,b2=.slq a off m c)->Row gL a off (wdC w)->WC 0 prog 52 [b2] ⟨.fn gL,n+1+1⟩ λr=>r=.ret (.lit (.string (Bg (w.take m)))) ⟨.fn gL,n+1+1⟩ from
      λa off b2 ha hs Q=>Pq (w.take m) (by rw[W4];omega) (λi hi=>i7.out i (e6l hi)) gL (n+1+1) b2 (.inr ⟨a,off,ha,by rw[W4,e5z (by omega)];exact hs,by rw[e1f];exact Q.takes m⟩))
     have a9:=Xu (Sj (Bg (w.take m)) (Df (S.take k)) 0);have k1:=Xu @g2;have HE:=Xu U;clear g2 U;rcases b6.out with⟨h1,_⟩|⟨a,off,h7,⟨c,hq⟩|⟨c,hq⟩,a1⟩
     .omega
     .subst hq;have k2:=i4.out _ _ _ _ rfl;have k3:m<=c:=by omega
      have k4:0<c:=by omega
      have a3:=a8.out;rw[hm] at a3;have e5:=Xu a3;clear a3;have e6:=Xu (h5.out a off (.sl a off m c) h7 (.inl ⟨c,rfl⟩) a1);clear a1
      iterate 8 all_goals try first|apply spl<;>intro h|simp (disch:=first|assumption|omega|simp) [*]
      refine Xv e6.out ?_;rintro _ rfl;by_cases Z:(Df (S.take k)).contains (Bg (w.take m))=true
      .have b3:=a9.out.trans Z;clear Z
       iterate 8 all_goals try first|apply spl<;>intro h|simp (disch:=first|assumption|omega|simp) [*]
       refine Xv e5.out ?_;rintro _ rfl;have b0:Aa (C5 q S k w=true):=⟨by
        unfold C5;rw[decide_eq_true (by omega:k=0↔w.length=0),decide_eq_true HE.out,h4.out,decide_eq_false a6,show w.length-1=m by omega,(a9.out.symm.trans b3)];rfl⟩
       iterate 8 all_goals try first|apply spl<;>intro h|simp (disch:=first|assumption|omega|simp) [*]
       refine ih.out (S.length-(k+1)) _ _ (by omega) ⟨k+1,_,by omega,rfl,rfl,⟨λb A=>(Ad (by omega)).trans (D.out b A)⟩,(Ad (by omega)).trans b8,?_,⟨HN.out b0.out⟩,by simp[*]⟩;rw[HT.out,Sk (k:=k) _ _ (by rw[W4];omega)];simp[e5z hk]
      .have a4:(Df (S.take k)).contains (Bg (w.take m))=false:=by simpa using Z
       have b3:=a9.out.trans a4;have Q:a0=false:=HB.out (by unfold C5;rw[show w.length-1=m by omega,a4,e7v,decide_eq_false a6,e7h]);clear Z a4
       iterate 8 all_goals try first|apply spl<;>intro h|simp (disch:=first|assumption|omega|simp) [*]
       exact⟨by show n<=n+1+1;omega,λb A=>D.out b A⟩
     .subst hq;have a3:=a8.out;rw[hm] at a3;have e5:=Xu a3;clear a3;have e6:=Xu (h5.out a off (.slq a off m c) h7 (.inr ⟨c,rfl⟩) a1);clear a1
      iterate 8 all_goals try first|apply spl<;>intro h|simp (disch:=first|assumption|omega|simp) [*]
      refine Xv e6.out ?_;rintro _ rfl;by_cases Z:(Df (S.take k)).contains (Bg (w.take m))=true
      .have b3:=a9.out.trans Z;clear Z
       iterate 8 all_goals try first|apply spl<;>intro h|simp (disch:=first|assumption|omega|simp) [*]
       refine Xv e5.out ?_;rintro _ rfl;have b0:Aa (C5 q S k w=true):=⟨by
        unfold C5;rw[decide_eq_true (by omega:k=0↔w.length=0),decide_eq_true HE.out,h4.out,decide_eq_false a6,show w.length-1=m by omega,(a9.out.symm.trans b3)];rfl⟩
       iterate 8 all_goals try first|apply spl<;>intro h|simp (disch:=first|assumption|omega|simp) [*]
       refine ih.out (S.length-(k+1)) _ _ (by omega) ⟨k+1,_,by omega,rfl,rfl,⟨λb A=>(Ad (by omega)).trans (D.out b A)⟩,(Ad (by omega)).trans b8,?_,⟨HN.out b0.out⟩,by simp[*]⟩;rw[HT.out,Sk (k:=k) _ _ (by rw[W4];omega)];simp[e5z hk]
      .have a4:(Df (S.take k)).contains (Bg (w.take m))=false:=by simpa using Z
       have b3:=a9.out.trans a4;have Q:a0=false:=HB.out (by unfold C5;rw[show w.length-1=m by omega,a4,e7v,decide_eq_false a6,e7h]);clear Z a4
       iterate 8 all_goals try first|apply spl<;>intro h|simp (disch:=first|assumption|omega|simp) [*]
       exact⟨by show n<=n+1+1;omega,λb A=>D.out b A⟩
    .have Q:=h2.out U
     iterate 8 all_goals try first|apply spl<;>intro h|simp (disch:=first|assumption|omega|simp) [*]
     exact⟨by show n<=n+1+1;omega,λb A=>D.out b A⟩
 .have i1:¬(k:Int)<(S.length:Int):=by omega
  have i9:k=S.length:=by omega
  have h8:((List.range S.length).all λj=>C5 q S j (S.getD j []))=true:=by
   rw[W7];intro j hj;exact e9.out j (by rw[i9];simpa using hj)
  have k5:a0=decide (0<S.length):=by rw[e8.out];unfold Mw;rw[h8,e7t]
  clear b9 h8
  iterate 8 all_goals try first|apply spl<;>intro h|simp (disch:=first|assumption|omega|simp) [*]
  all_goals first|exact λb A=>D.out b A|exact⟨by show n<=n+1+1;omega,λb A=>D.out b A⟩|(show n<=n+1+1;omega)
def Dp(q:Int)(S:Wq)(k:Nat)(w:Wd):Bool:=
 decide (w.length≠0)&&decide (Cz w q=0)&&!((Df (S.take k)).contains (Bg w))&&(decide (q<=(k:Int))||decide (w=[(k:Int)]))
def Mx(q:Int)(S:Wq):Bool:=((List.range S.length).all λj=>Dp q S j (S.getD j []))&&decide (q<=(S.length:Int))
theorem e1h(q c1 c4 c5:Int)(c2 c6:AV)(h2:oneC c2=true)(h6:oneC c6=true)(S:Wq)(hl:S.length<=1000000)(hw:∀w∈S,w.length<=1000000)(g:Gb)(n:Nat)(sv:AV)(svs:List AV)(a5:Af g n sv S.length svs)(Q:RowsW g n S svs):
  WC 0 prog 89 [.agg [.li q,.li c1,c2,sv,.li c4,.li c5,c6]] ⟨.fn g,n⟩ λr=>r=.ret (.lit (.bool (Mx q S))) ⟨.fn g,n⟩:=by
 refine X3 rfl ?_;have h5:=@Ap prog _ _ _ _ _ a5;have g1:=a5.one;have h7:allOne [.li q,.li c1,c2,sv,.li c4,.li c5,c6]=true:=by simp[g1,h2,h6]
 have HS:=Xu a5;have HR:=Xu Q;have HW:=Xu hw;clear a5 Q hw;obtain⟨U,a6⟩:∃b,b=Mx q S:=⟨_,rfl⟩;rw[<- a6];have b4:=Xu a6;clear a6;refine ent [] func89 ?_
 iterate 8 all_goals try first|apply spl<;>intro h|simp (disch:=first|assumption|omega|simp) [*]
 refine Xy (λm Z H'=>∃(k:Nat)(gL:Gb),k<=S.length/\m=S.length-k/\H'=⟨.fn gL,n+1+1⟩/\Aa (∀b,b<n->gL b=g b)/\gL n=some (.cells [.li q,.li c1,c2,sv,.li c4,.li c5,c6] true 0)/\gL (n+1)=some (.map (Ch ((Df (S.take k)).zipIdx)) k) /\
  Aa (∀j,j<k->Dp q S j (S.getD j [])=true)/\Z 1=some (.ptr n 0)/\Z 3=some (.map (n+1))/\Z 8=some sv/\Z 9=some (.li S.length)/\Z 10=some (.li k)) (m0:=S.length) ?_ ?_
 .refine⟨0,_,W3 _,rfl,rfl,⟨λb A=>(Ad (by omega)).trans (Ad A)⟩,(Ad (by omega)).trans Ag,Ag,⟨λj hj=>by omega⟩,by simp[*]⟩
 rintro m Z H' ⟨k,gL,hk,rfl,rfl,D,b5,g2,b6,w1,w3,w8,w9,h8⟩ ih;refine rnd [] ?_;by_cases a0:k<S.length
 .have g3:(k:Int)<(S.length:Int):=by omega
  obtain⟨q1,a1,a7⟩:=HR.out.2 k a0;obtain⟨a2,off,b7,b8,g4⟩:=HS.out.ia (P:=prog) a0 1;simp only[Xj] at g4;have g5:k<svs.length:=(W8.1 a1).1;have g6:=(b8.mono (D.out a2 b7)).one (k:=k) (s:=1) g5;rw[(W8.1 a1).2] at g6;have b9:Al gL (n+1+1) S[k] q1:=X0 (by omega) (λa ha=>D.out a ha) a7;have h9:=@Ap prog _ _ _ _ _ a7;have a8:S.getD k []=S[k]:=by rw[Xo,W6 a0];rfl
  have c0:S.take (k+1)=S.take k++[S[k]]:=by rw[e7b,W6 a0];rfl
  have c7:Dp q S k S[k]=false->U=false:=λh=>by
   rw[b4.out];unfold Mx;rw[e9b];left;rw[e8w];exact⟨k,by simp[a0],by rw[a8,h];simp⟩
  have c8:Dp q S k S[k]=true->∀j,j<k+1->Dp q S j (S.getD j [])=true:=λh j hj=>by
   by_cases e:j=k
   .subst e;rw[a8];exact h
   .exact b6.out j (by omega)
  have g7:=HW.out _ (W2 a0);have a9:=Xu b9;have HT:=Xu c0;have HB:=Xu c7;have HN:=Xu c8;clear c0 b8 a7 b9 a1 b7 c7 c8 a8;generalize S[k]=w at *;have c9:=Xu (Sj (Bg w) (Df (S.take k)) 0);have HC:=Xu (a4l w g7 q gL (n+1+1) q1 a9.out);by_cases i0:w.length=0
  .have g8:(w.length:Int)=0:=by omega
   have Q:U=false:=HB.out (by unfold Dp;rw[decide_eq_false (by omega:¬w.length≠0),e6n,e6n,e6n])
   iterate 8 all_goals try first|apply spl<;>intro h|simp (disch:=first|assumption|omega|simp) [*]
   exact⟨by show n<=n+1+1;omega,λb A=>D.out b A⟩
  have g8:¬(w.length:Int)=0:=by omega
  iterate 8 all_goals try first|apply spl<;>intro h|simp (disch:=first|assumption|omega|simp) [*]
  refine Xv HC.out ?_;rintro _ rfl;by_cases he:Cz w q=0
  .obtain⟨i1,e0⟩:=a5e he;have b0:=Xu (Pq w (by omega) e0 gL (n+1+1) q1 a9.out);clear e0;rw[he]
   iterate 8 all_goals try first|apply spl<;>intro h|simp (disch:=first|assumption|omega|simp) [*]
   refine Xv b0.out ?_;rintro _ rfl;by_cases a4:(Df (S.take k)).contains (Bg w)=true
   .have g9:=c9.out.trans a4;have Q:U=false:=HB.out (by unfold Dp;rw[a4,Bool.not_true,e7h,e6n]);clear a4
    iterate 8 all_goals try first|apply spl<;>intro h|simp (disch:=first|assumption|omega|simp) [*]
    exact⟨by show n<=n+1+1;omega,λb A=>D.out b A⟩
   have b1:(Df (S.take k)).contains (Bg w)=false:=by simpa using a4
   have g9:=c9.out.trans b1;have e1:=Xu b1;have HE:=Xu he;clear a4 b1 he;by_cases b2:q<=(k:Int)
   .have h0:¬(k:Int)<q:=by omega
    have b3:Aa (Dp q S k w=true):=⟨by
     unfold Dp;rw[decide_eq_true (by omega:w.length≠0),decide_eq_true HE.out,e1.out,decide_eq_true b2];rfl⟩
    iterate 8 all_goals try first|apply spl<;>intro h|simp (disch:=first|assumption|omega|simp) [*]
    refine Xv b0.out ?_;rintro _ rfl
    iterate 8 all_goals try first|apply spl<;>intro h|simp (disch:=first|assumption|omega|simp) [*]
    refine ih.out (S.length-(k+1)) _ _ (by omega) ⟨k+1,_,by omega,rfl,rfl,⟨λb A=>(Ad (by omega)).trans (D.out b A)⟩,(Ad (by omega)).trans b5,?_,⟨HN.out b3.out⟩,by simp[*]⟩;rw[HT.out,Sk (k:=k) _ _ (by rw[W4];omega)];simp[e5z hk]
   .have h0:(k:Int)<q:=by omega
    by_cases a1:w.length=1
    .obtain⟨x,rfl⟩:∃x,w=[x]:=List.length_eq_one_iff.1 a1;obtain⟨a3,h1,h3,e5,e6⟩:=X4 (P:=prog) a9.out (k:=0) (by simp) 1;have e7:=e5.one (k:=0) (s:=1) (by simp[wdC]);have e8:(wdC [x])[0]'(by simp[wdC])=.li x:=rfl;rw[e8] at e7;clear e8 e5 h3;have i2:∀{H:Mem}{ev:Ev}{o:Oper}{t:TypeId},iaS prog H ev o t (some (none,1)) (some q1) (some (.li 0))=.val (.ptr a3 h1) H:=λ{H ev o t}=>e6;clear e6;simp only[Nat.add_zero,Nat.zero_mul] at e7;by_cases e9:x=(k:Int)
     .subst e9;have b3:Aa (Dp q S k [(k:Int)]=true):=⟨by
       unfold Dp;rw[decide_eq_true (by simp:([(k:Int)]:Wd).length≠0),decide_eq_true HE.out,e1.out,decide_eq_true (rfl:[(k:Int)]=[(k:Int)]),e9p];rfl⟩
      iterate 8 all_goals try first|apply spl<;>intro h|simp (disch:=first|assumption|omega|simp) [*]
      refine Xv b0.out ?_;rintro _ rfl
      iterate 8 all_goals try first|apply spl<;>intro h|simp (disch:=first|assumption|omega|simp) [*]
      refine ih.out (S.length-(k+1)) _ _ (by omega) ⟨k+1,_,by omega,rfl,rfl,⟨λb A=>(Ad (by omega)).trans (D.out b A)⟩,(Ad (by omega)).trans b5,?_,⟨HN.out b3.out⟩,by simp[*]⟩;rw[HT.out,Sk (k:=k) _ _ (by rw[W4];omega)];simp[e5z hk]
     .have Q:U=false:=HB.out (by unfold Dp;rw[decide_eq_false b2,decide_eq_false (by simpa using e9:¬[x]=[(k:Int)]),e7v,e7h])
      iterate 8 all_goals try first|apply spl<;>intro h|simp (disch:=first|assumption|omega|simp) [*]
      exact⟨by show n<=n+1+1;omega,λb A=>D.out b A⟩
    .have i3:¬(w.length:Int)=1:=by omega
     have Q:U=false:=HB.out (by unfold Dp;rw[decide_eq_false b2,decide_eq_false (λe=>a1 (by rw[e];rfl):¬w=[(k:Int)]),e7v,e7h])
     iterate 8 all_goals try first|apply spl<;>intro h|simp (disch:=first|assumption|omega|simp) [*]
     exact⟨by show n<=n+1+1;omega,λb A=>D.out b A⟩
  .have Q:U=false:=HB.out (by unfold Dp;rw[decide_eq_false he,e7h,e6n,e6n])
   iterate 8 all_goals try first|apply spl<;>intro h|simp (disch:=first|assumption|omega|simp) [*]
   exact⟨by show n<=n+1+1;omega,λb A=>D.out b A⟩
 .have g3:¬(k:Int)<(S.length:Int):=by omega
  have h4:k=S.length:=by omega
  have g0:((List.range S.length).all λj=>Dp q S j (S.getD j []))=true:=by
   rw[W7];intro j hj;exact b6.out j (by rw[h4];simpa using hj)
  have i4:U=decide (q<=(S.length:Int)):=by rw[b4.out];unfold Mx;rw[g0,e7t]
  clear g2 g0
  iterate 8 all_goals try first|apply spl<;>intro h|simp (disch:=first|assumption|omega|simp) [*]
  all_goals first|exact λb A=>D.out b A|exact⟨by show n<=n+1+1;omega,λb A=>D.out b A⟩|(show n<=n+1+1;omega)
def Oc(S E:Wq):Int:=if S.length > 64\/E.length > 256\/longM S+1+longM E > 256 then 3 else 0
theorem e1i(q c1 c4 c5:Int)(c6:AV)(h6:oneC c6=true)(S E:Wq)(hl:S.length<=1000000)(hw:∀w∈S,w.length<=1000000)(a8:E.length<=1000000)(a3:∀w∈E,w.length<=1000000)(g:Gb)(n:Nat)(sv Z:AV)(svs a4:List AV)(a0:Af g n sv S.length svs)(D:RowsW g n S svs)(a1:Af g n Z E.length a4)(a5:RowsW g n E a4):
  WC 0 prog 90 [.agg [.li q,.li c1,sv,Z,.li c4,.li c5,c6]] ⟨.fn g,n⟩ λr=>r=.ret (.li (Oc S E)) ⟨.fn g,n⟩:=by
 refine X3 rfl ?_;have b2:=@Ap prog _ _ _ _ _ a0;have b3:=@Ap prog _ _ _ _ _ a1;have b4:=a0.one;have b5:=a1.one;have b6:allOne [.li q,.li c1,sv,Z,.li c4,.li c5,c6]=true:=by simp_all
 have a6:=λg' (U:∀b,b<n->g' b=g b)=>Vs S hl hw g' (n+1) sv svs (X0 (by omega) (λa A=>U a A) a0) (D.ext (by omega) λa x A hx=>(U a A).trans hx);have a7:=λg' (U:∀b,b<n->g' b=g b)=>Vs E a8 a3 g' (n+1) Z a4 (X0 (by omega) (λa A=>U a A) a1) (a5.ext (by omega) λa x A hx=>(U a A).trans hx);have HA:=Xu a6;have HB:=Xu a7;have b7:longM S<=1000000:=Rf hw;have b8:longM E<=1000000:=Rf a3;clear a0 D a1 a5 hw a3 a6 a7;obtain⟨a2,Q⟩:∃b,b=Oc S E:=⟨_,rfl⟩;rw[<- Q];unfold Oc at Q;generalize hS:longM S=ls at *;generalize hE:longM E=le at *;by_cases t1:S.length > 64
 .have a9:64<(S.length:Int):=by omega
  have D:a2=3:=by grind
  clear Q;refine ent pl90 func90 ?_;simp (disch:=first|omega|simp) [*]
  all_goals exact⟨W5 n,λb h=>Ad h⟩
 have a9:¬64<(S.length:Int):=by omega
 by_cases t2:E.length > 256
 .have b0:256<(E.length:Int):=by omega
  have D:a2=3:=by grind
  clear Q;refine ent pl90 func90 ?_;simp (disch:=first|omega|simp) [*]
  all_goals exact⟨W5 n,λb h=>Ad h⟩
 have b0:¬256<(E.length:Int):=by omega
 by_cases t3:ls+1+le > 256
 .have b1:256<(ls:Int)+1+(le:Int):=by omega
  have D:a2=3:=by grind
  clear Q;refine ent pl90 func90 ?_;simp (disch:=first|omega|simp) [*];refine Xv (HA.out _ λb h=>Ad h) ?_;rintro _ rfl;simp (disch:=first|omega|simp) [*];refine Xv (HB.out _ λb h=>Ad h) ?_;rintro _ rfl;simp (disch:=first|omega|simp) [*]
  all_goals exact⟨W5 n,λb h=>Ad h⟩
 have b1:¬256<(ls:Int)+1+(le:Int):=by omega
 have D:a2=0:=by grind
 clear Q;refine ent pl90 func90 ?_;simp (disch:=first|omega|simp) [*];refine Xv (HA.out _ λb h=>Ad h) ?_;rintro _ rfl;simp (disch:=first|omega|simp) [*];refine Xv (HB.out _ λb h=>Ad h) ?_;rintro _ rfl;simp (disch:=first|omega|simp) [*]
 all_goals exact⟨W5 n,λb h=>Ad h⟩
def Pr(q O:Int)(S E:Wq)(I2 O2:Int)(T:Tq):Int:=
 if q > 16\/O > 16\/S.length > 64\/E.length > 256\/longM S > 256\/longM E > 256 then 3
 else if q<1\/O<1\/Mw q S=false\/Mx q E=false then 1
 else if Oc S E≠0 then Oc S E
 else if Ej I2 O2 T≠0 then Ej I2 O2 T
 else if I2≠q\/O2≠O then 5 else 0
structure Ps (g:Gb) (n:Nat) (l:Wq) (sv:AV):Prop where
 len:l.length<=1000000
 words:∀w∈l,w.length<=1000000
 ex:∃svs,Af g n sv l.length svs/\RowsW g n l svs/\∀q∈svs,Ay q
structure Vt (g:Gb) (n:Nat) (T:Tq) (sv:AV):Prop where
 len:T.length<=1000000
 rows:∀r∈T,r.length<=1000000
 ex:∃svs,Af g n sv T.length svs/\RowsK g n T svs
theorem Ps.mono{g:Gb}{n n': Nat}{l:Wq}{sv:AV}(h:Ps g n l sv)(A:n<=n')(D:∀a,a<n->g' a=g a):Ps g' n' l sv:=
 ⟨h.len,h.words,let ⟨svs,Q,U,Z⟩:=h.ex;⟨svs,Q.mono A D,U.ext A λa x ha hx=>(D a ha).trans hx,Z⟩⟩
theorem Vt.mono{g:Gb}{n n': Nat}{l:Tq}{sv:AV}(h:Vt g n l sv)(A:n<=n')(D:∀a,a<n->g' a=g a):Vt g' n' l sv:=
 ⟨h.len,h.rows,let ⟨svs,Q,U⟩:=h.ex;⟨svs,Q.mono A D,U.ext A λa x Z hx=>(D a Z).trans hx⟩⟩
theorem e1j(q O I2 O2:Int)(S E:Wq)(T:Tq)(g:Gb)(n:Nat)(sv se st:AV)(hS:Ps g n S sv)(hE:Ps g n E se)(hT:Vt g n T st):
  WC 0 prog 37 [.agg [.li q,.li O,sv,se,.li I2,.li O2,st]] ⟨.fn g,n⟩ λr=>r=.ret (.li (Pr q O S E I2 O2 T)) ⟨.fn g,n⟩:=by
 refine X3 rfl ?_;obtain⟨svs,a0,a2,a8⟩:=hS.ex;obtain⟨a5,a1,a3,b2⟩:=hE.ex;obtain⟨b3,a6,a9⟩:=hT.ex;have c0:=@Ap prog _ _ _ _ _ a0;have c1:=@Ap prog _ _ _ _ _ a1;have b0:=a0.one;have b1:=a1.one;have a4:=a6.one;have c2:allOne [.li q,.li O,sv,se,.li I2,.li O2,st]=true:=by simp[b0,b1,a4]
 have HG:=λ(g' : Gb)(D:∀b,b<n->g' b=g b)(a:Nat)(x:Blk)(ha:a<n) (hx:g a=some x)=>(D a ha).trans hx;have Z:=Xu λg' (D:∀b,b<n->g' b=g b)=>Vs S hS.len hS.words g' (n+1) sv svs (a0.mono (by omega) D) (a2.ext (by omega) (HG g' D));have HB:=Xu λg' (D:∀b,b<n->g' b=g b)=>Vs E hE.len hE.words g' (n+1) se a5 (a1.mono (by omega) D) (a3.ext (by omega) (HG g' D));have HC:=Xu λg' (D:∀b,b<n->g' b=g b)=>e1g q O I2 O2 se st b1 a4 S hS.len hS.words g' (n+1) sv svs (a0.mono (by omega) D) (a2.ext (by omega) (HG g' D)) a8;have HD:=Xu λg' (D:∀b,b<n->g' b=g b)=>e1h q O I2 O2 sv st b0 a4 E hE.len hE.words g' (n+1) se a5 (a1.mono (by omega) D) (a3.ext (by omega) (HG g' D));have HE:=Xu λg' (D:∀b,b<n->g' b=g b)=>e1i q O I2 O2 st a4 S E hS.len hS.words hE.len hE.words g' (n+1) sv se svs a5 (a0.mono (by omega) D) (a2.ext (by omega) (HG g' D)) (a1.mono (by omega) D) (a3.ext (by omega) (HG g' D));have HF:=Xu λg' (D:∀b,b<n->g' b=g b)=>b4o I2 O2 T hT.len hT.rows g' (n+1) st b3 (a6.mono (by omega) D) (a9.ext (by omega) (HG g' D));have c6:longM S<=1000000:=Rf hS.words;have c7:longM E<=1000000:=Rf hE.words;clear a0 a2 a8 a1 a3 b2 a6 a9 hS hE hT HG;obtain⟨U,A⟩:∃b,b=Pr q O S E I2 O2 T:=⟨_,rfl⟩;rw[<- A];unfold Pr at A;generalize longM S=ls at *;generalize longM E=le at *;generalize Mw q S=ba at *;generalize Mx q E=bs at *;generalize Oc S E=li at *;generalize Ej I2 O2 T=te at *;by_cases t1:q > 16
 .have Q:U=3:=by rw[A,if_pos (.inl t1)]
  clear A;refine ent [] func37 ?_;simp (disch:=first|omega|simp) [*]
  all_goals exact⟨W5 n,λb h=>Ad h⟩
 by_cases t2:O > 16
 .have Q:U=3:=by rw[A,if_pos (.inr (.inl t2))]
  clear A;refine ent [] func37 ?_;simp (disch:=first|omega|simp) [*]
  all_goals exact⟨W5 n,λb h=>Ad h⟩
 by_cases t3:S.length > 64
 .have Q:U=3:=by rw[A,if_pos (.inr (.inr (.inl t3)))]
  have b4:64<(S.length:Int):=by omega
  clear A;refine ent [] func37 ?_;simp (disch:=first|omega|simp) [*]
  all_goals exact⟨W5 n,λb h=>Ad h⟩
 have b4:¬64<(S.length:Int):=by omega
 by_cases t4:E.length > 256
 .have Q:U=3:=by rw[A,if_pos (.inr (.inr (.inr (.inl t4))))]
  have b5:256<(E.length:Int):=by omega
  clear A;refine ent [] func37 ?_;simp (disch:=first|omega|simp) [*]
  all_goals exact⟨W5 n,λb h=>Ad h⟩
 have b5:¬256<(E.length:Int):=by omega
 by_cases t5:ls > 256
 .have Q:U=3:=by rw[A,if_pos (.inr (.inr (.inr (.inr (.inl t5)))))]
  have b6:256<(ls:Int):=by omega
  clear A;refine ent [] func37 ?_;simp (disch:=first|omega|simp) [*];refine Xv (Z.out _ λb h=>Ad h) ?_;rintro _ rfl;simp (disch:=first|omega|simp) [*]
  all_goals exact⟨W5 n,λb h=>Ad h⟩
 have b6:¬256<(ls:Int):=by omega
 by_cases t6:le > 256
 .have Q:U=3:=by rw[A,if_pos (.inr (.inr (.inr (.inr (.inr t6)))))]
  have b7:256<(le:Int):=by omega
  clear A;refine ent [] func37 ?_;simp (disch:=first|omega|simp) [*];refine Xv (Z.out _ λb h=>Ad h) ?_;rintro _ rfl;simp (disch:=first|omega|simp) [*];refine Xv (HB.out _ λb h=>Ad h) ?_;rintro _ rfl;simp (disch:=first|omega|simp) [*]
  all_goals exact⟨W5 n,λb h=>Ad h⟩
 have b7:¬256<(le:Int):=by omega
 rw[if_neg (by omega)] at A;by_cases t7:q<1
 .have Q:U=1:=by rw[A,if_pos (.inl t7)]
  clear A;refine ent [] func37 ?_;simp (disch:=first|omega|simp) [*];refine Xv (Z.out _ λb h=>Ad h) ?_;rintro _ rfl;simp (disch:=first|omega|simp) [*];refine Xv (HB.out _ λb h=>Ad h) ?_;rintro _ rfl;simp (disch:=first|omega|simp) [*]
  all_goals exact⟨W5 n,λb h=>Ad h⟩
 by_cases t8:O<1
 .have Q:U=1:=by rw[A,if_pos (.inr (.inl t8))]
  clear A;refine ent [] func37 ?_;simp (disch:=first|omega|simp) [*];refine Xv (Z.out _ λb h=>Ad h) ?_;rintro _ rfl;simp (disch:=first|omega|simp) [*];refine Xv (HB.out _ λb h=>Ad h) ?_;rintro _ rfl;simp (disch:=first|omega|simp) [*]
  all_goals exact⟨W5 n,λb h=>Ad h⟩
 by_cases t9:ba=false
 .have Q:U=1:=by rw[A,if_pos (.inr (.inr (.inl t9)))]
  subst t9;clear A;refine ent [] func37 ?_;simp (disch:=first|omega|simp) [*];refine Xv (Z.out _ λb h=>Ad h) ?_;rintro _ rfl;simp (disch:=first|omega|simp) [*];refine Xv (HB.out _ λb h=>Ad h) ?_;rintro _ rfl;simp (disch:=first|omega|simp) [*];refine Xv (HC.out _ λb h=>Ad h) ?_;rintro _ rfl;simp (disch:=first|omega|simp) [*]
  all_goals exact⟨W5 n,λb h=>Ad h⟩
 have b8:ba=true:=by simpa using t9
 subst b8;clear t9;by_cases t10:bs=false
 .have Q:U=1:=by rw[A,if_pos (.inr (.inr (.inr t10)))]
  subst t10;clear A;refine ent [] func37 ?_;simp (disch:=first|omega|simp) [*];refine Xv (Z.out _ λb h=>Ad h) ?_;rintro _ rfl;simp (disch:=first|omega|simp) [*];refine Xv (HB.out _ λb h=>Ad h) ?_;rintro _ rfl;simp (disch:=first|omega|simp) [*];refine Xv (HC.out _ λb h=>Ad h) ?_;rintro _ rfl;simp (disch:=first|omega|simp) [*];refine Xv (HD.out _ λb h=>Ad h) ?_;rintro _ rfl;simp (disch:=first|omega|simp) [*]
  all_goals exact⟨W5 n,λb h=>Ad h⟩
 have b9:bs=true:=by simpa using t10
 subst b9;clear t10;rw[if_neg (by simp;omega)] at A;by_cases t11:li=0
 .have Q:U=if te≠0 then te else if I2≠q\/O2≠O then 5 else 0:=by rw[A,if_neg (by omega)]
  subst t11;clear A;by_cases t12:te=0
  .subst t12;rw[if_neg (by omega)] at Q;by_cases t13:I2=q
   .subst t13;by_cases t14:O2=O
    .subst t14;have a7:U=0:=by rw[Q,if_neg (by omega)]
     clear Q;refine ent [] func37 ?_;simp (disch:=first|omega|simp) [*];refine Xv (Z.out _ λb h=>Ad h) ?_;rintro _ rfl;simp (disch:=first|omega|simp) [*];refine Xv (HB.out _ λb h=>Ad h) ?_;rintro _ rfl;simp (disch:=first|omega|simp) [*];refine Xv (HC.out _ λb h=>Ad h) ?_;rintro _ rfl;simp (disch:=first|omega|simp) [*];refine Xv (HD.out _ λb h=>Ad h) ?_;rintro _ rfl;simp (disch:=first|omega|simp) [*];refine Xv (HE.out _ λb h=>Ad h) ?_;rintro _ rfl;simp (disch:=first|omega|simp) [*];refine Xv (HF.out _ λb h=>Ad h) ?_;rintro _ rfl;simp (disch:=first|omega|simp) [*]
     all_goals exact⟨W5 n,λb h=>Ad h⟩
    .have a7:U=5:=by rw[Q,if_pos (.inr t14)]
     clear Q;refine ent [] func37 ?_;simp (disch:=first|omega|simp) [*];refine Xv (Z.out _ λb h=>Ad h) ?_;rintro _ rfl;simp (disch:=first|omega|simp) [*];refine Xv (HB.out _ λb h=>Ad h) ?_;rintro _ rfl;simp (disch:=first|omega|simp) [*];refine Xv (HC.out _ λb h=>Ad h) ?_;rintro _ rfl;simp (disch:=first|omega|simp) [*];refine Xv (HD.out _ λb h=>Ad h) ?_;rintro _ rfl;simp (disch:=first|omega|simp) [*];refine Xv (HE.out _ λb h=>Ad h) ?_;rintro _ rfl;simp (disch:=first|omega|simp) [*];refine Xv (HF.out _ λb h=>Ad h) ?_;rintro _ rfl;simp (disch:=first|omega|simp) [*]
     all_goals exact⟨W5 n,λb h=>Ad h⟩
   .have a7:U=5:=by rw[Q,if_pos (.inl t13)]
    clear Q;refine ent [] func37 ?_;simp (disch:=first|omega|simp) [*];refine Xv (Z.out _ λb h=>Ad h) ?_;rintro _ rfl;simp (disch:=first|omega|simp) [*];refine Xv (HB.out _ λb h=>Ad h) ?_;rintro _ rfl;simp (disch:=first|omega|simp) [*];refine Xv (HC.out _ λb h=>Ad h) ?_;rintro _ rfl;simp (disch:=first|omega|simp) [*];refine Xv (HD.out _ λb h=>Ad h) ?_;rintro _ rfl;simp (disch:=first|omega|simp) [*];refine Xv (HE.out _ λb h=>Ad h) ?_;rintro _ rfl;simp (disch:=first|omega|simp) [*];refine Xv (HF.out _ λb h=>Ad h) ?_;rintro _ rfl;simp (disch:=first|omega|simp) [*]
    all_goals exact⟨W5 n,λb h=>Ad h⟩
  .have a7:U=te:=by rw[Q,if_pos t12]
   clear Q;refine ent [] func37 ?_;simp (disch:=first|omega|simp) [*];refine Xv (Z.out _ λb h=>Ad h) ?_;rintro _ rfl;simp (disch:=first|omega|simp) [*];refine Xv (HB.out _ λb h=>Ad h) ?_;rintro _ rfl;simp (disch:=first|omega|simp) [*];refine Xv (HC.out _ λb h=>Ad h) ?_;rintro _ rfl;simp (disch:=first|omega|simp) [*];refine Xv (HD.out _ λb h=>Ad h) ?_;rintro _ rfl;simp (disch:=first|omega|simp) [*];refine Xv (HE.out _ λb h=>Ad h) ?_;rintro _ rfl;simp (disch:=first|omega|simp) [*];refine Xv (HF.out _ λb h=>Ad h) ?_;rintro _ rfl;simp (disch:=first|omega|simp) [*]
   all_goals exact⟨W5 n,λb h=>Ad h⟩
 .have Q:U=li:=by rw[A,if_pos t11]
  clear A;refine ent [] func37 ?_;simp (disch:=first|omega|simp) [*];refine Xv (Z.out _ λb h=>Ad h) ?_;rintro _ rfl;simp (disch:=first|omega|simp) [*];refine Xv (HB.out _ λb h=>Ad h) ?_;rintro _ rfl;simp (disch:=first|omega|simp) [*];refine Xv (HC.out _ λb h=>Ad h) ?_;rintro _ rfl;simp (disch:=first|omega|simp) [*];refine Xv (HD.out _ λb h=>Ad h) ?_;rintro _ rfl;simp (disch:=first|omega|simp) [*];refine Xv (HE.out _ λb h=>Ad h) ?_;rintro _ rfl;simp (disch:=first|omega|simp) [*]
  all_goals exact⟨W5 n,λb h=>Ad h⟩
theorem keyB_inj:∀{w v:Wd},(∀i∈w,0<=i/\i<16)->(∀i∈v,0<=i/\i<16)->F7 w=F7 v->w=v
 | [],[],_,_,_=>rfl
 | [],_::_,_,_,h=>by grind[F7]
 | _::_,[],_,_,h=>by grind[F7]
 | x::w,y::v,A,D,h=>by
  have Q:UInt8.ofNat (x+1).toNat::F7 w=UInt8.ofNat (y+1).toNat::F7 v:=h;injection Q with U Z;have hx:=A x (by simp);have hy:=D y (by simp);have h5:(UInt8.ofNat (x+1).toNat).toNat=(UInt8.ofNat (y+1).toNat).toNat:=by rw[U]
  rw[UInt8.toNat_ofNat',UInt8.toNat_ofNat',e8n (by omega),e8n (by omega)] at h5;have:x=y:=by omega
  rw[this,keyB_inj (λi hi=>A i (by simp[hi])) (λi hi=>D i (by simp[hi])) Z]
theorem b4u{w v:Wd}(A:∀i∈w,0<=i/\i<16)(D:∀i∈v,0<=i/\i<16)(h:Bg w=Bg v):w=v:=by
 grind[keyB_inj,Bg]
theorem b4v{l:Wq}{w:Wd}(D:∀v∈l,∀i∈v,0<=i/\i<16)(Q:∀i∈w,0<=i/\i<16):(Df l).contains (Bg w)=decide (w∈l):=by
 haveI:=ba_lawful
 by_cases h:w∈l
 .rw[decide_eq_true h,List.contains_iff_mem];exact Xc.2 ⟨w,h,rfl⟩
 .rw[decide_eq_false h]
  cases U:(Df l).contains (Bg w) with
  | false=>rfl
  | true =>
   obtain⟨v,A,Z⟩:=Xc.1 (List.contains_iff_mem.1 U);exact absurd (b4u (D v A) Q Z ▸ A) h
theorem Vu{w:Wd}{q:Int}(h:¬q > 16)(A:¬q<1)(D:w.length<=256):Cz w q=0↔inW w q=true:=by
 simp_all[Cz,if_neg]
def My(q:Int)(S:Wq)(k:Nat)(w:Wd):Bool:=
 decide (w.length≠0)&&inW w q&&!(decide (w∈S.take k))&&decide (w.take (w.length-1)∈S.take k)
def Vv(q:Int)(S:Wq):Bool:=decide (0<S.length)&&decide ((S.getD 0 []).length=0)&&((List.range S.length).all λj=>decide (j=0)||My q S j (S.getD j []))
def K5(q:Int)(E:Wq)(k:Nat)(w:Wd):Bool:=
 decide (w.length≠0)&&inW w q&&!(decide (w∈E.take k))&&(decide (q<=(k:Int))||decide (w=[(k:Int)]))
def Vw(q:Int)(E:Wq):Bool:=decide (q<=(E.length:Int))&&((List.range E.length).all λj=>K5 q E j (E.getD j []))
theorem e5t{w:Wd}{q:Int}{m:Nat}(h:inW w q=true):inW (w.take m) q=true:=
 W7.2 λi hi=>W7.1 h i (e6l hi)
theorem a5f{w:Wd}{q:Int}(A:¬q > 16)(h:inW w q=true):∀i∈w,0<=i/\i<16:=λi hi=>by
 have D:0<=i/\i<q:=by simpa using W7.1 h i hi
 omega
theorem b4w{S:Wq}{q:Int}{m:Nat}(A:¬q > 16)(Q:¬q<1)(U:∀w∈S,w.length<=256)(Z:∀j,j<m->j<S.length->Cz (S.getD j []) q=0):∀v∈S.take m,∀i∈v,0<=i/\i<16:=λv hv=>by
 obtain⟨j,hj,rfl⟩:=e5y.1 hv;have h:j<m/\j<S.length:=by grind
 have D:=Z j h.1 h.2;rw[Xo,W6 h.2] at D;rw[e7i];exact a5f A ((Vu A Q (U _ (W2 h.2))).1 D)
theorem e1k{q:Int}{S:Wq}{k:Nat}{w:Wd}(h:C5 q S k w=true):Cz w q=0:=by
 simp_all[C5]
theorem e1l{q:Int}{S:Wq}{k:Nat}{w:Wd}(h:Dp q S k w=true):Cz w q=0:=by
 simp_all[Dp]
theorem e1m{q:Int}{S:Wq}{m:Nat}(D:¬q > 16)(Q:¬q<1)(U:∀w∈S,w.length<=256)(hm:m<S.length)(Z:∀j,j<m->j<S.length->Cz (S.getD j []) q=0):
  C5 q S m (S.getD m [])=if m=0 then decide ((S.getD 0 []).length=0) else My q S m (S.getD m []):=by
 have hw:(S.getD m []).length<=256:=by
  grind
 have ht:=b4w D Q U Z;by_cases h:m=0
 .subst h;rw[if_pos rfl];generalize S.getD 0 []=w at *;unfold C5;by_cases A:w.length=0
  .have a0:w=[]:=e6j.1 A;subst a0;have:Cz [] q=0:=(Vu D Q (by simp)).2 rfl;grind[Df]
  grind
 .rw[if_neg h];generalize S.getD m []=w at *;unfold C5 My;rw[decide_eq_false h,e8v];by_cases A:w.length=0
  .grind
  .rw[show decide (m=0↔w.length=0)=true from decide_eq_true (by omega),decide_eq_true A,e7t,e7t];grind[a5f,b4v,Vu]
theorem e1n{q:Int}{S:Wq}{m:Nat}(h:¬q > 16)(A:¬q<1)(D:∀w∈S,w.length<=256)(U:m<S.length)(Q:∀j,j<m->j<S.length->Cz (S.getD j []) q=0):
  Dp q S m (S.getD m [])=K5 q S m (S.getD m []):=by
 have Z:(S.getD m []).length<=256:=by
  grind
 have ht:=b4w h A D Q;grind[K5,Dp,a5f,b4v,Vu]
theorem b4x{n:Nat}{f g:Nat->Bool}(h:∀m,m<n->(∀j,j<m->f j=true)->f m=g m)(A:∀m,m<n->(∀j,j<m->g j=true)->f m=g m):(List.range n).all f=(List.range n).all g:=by
 grind
theorem e1o{q:Int}{S:Wq}(Q:¬q > 16)(U:¬q<1)(h3:¬longM S > 256):Mw q S=Vv q S:=by
 have h:∀w∈S,w.length<=256:=λw h=>by have:=le_longM h;omega
 have Z:∀m,m<S.length->(∀j,j<m->C5 q S j (S.getD j [])=true)->C5 q S m (S.getD m [])=if m=0 then decide ((S.getD 0 []).length=0) else My q S m (S.getD m []):=λm A D=>e1m Q U h A λj hj _=>e1k (D j hj);have a0:((List.range S.length).all λj=>C5 q S j (S.getD j []))=(List.range S.length).all λj=>if j=0 then decide ((S.getD 0 []).length=0) else My q S j (S.getD j []):=by
  refine b4x Z λm A D=>?_;have:∀k,k<=m->∀j,j<k->C5 q S j (S.getD j [])=true:=λk=>by
   induction k with
   | zero=>grind
   | succ k ih =>
    grind
  grind
 unfold Mw Vv;grind
theorem e1p{q:Int}{S:Wq}(Q:¬q > 16)(U:¬q<1)(h3:¬longM S > 256):Mx q S=Vw q S:=by
 have h:∀w∈S,w.length<=256:=λw h=>by have:=le_longM h;omega
 have Z:∀m,m<S.length->(∀j,j<m->Dp q S j (S.getD j [])=true)->Dp q S m (S.getD m [])=K5 q S m (S.getD m []):=λm A D=>e1n Q U h A λj hj _=>e1l (D j hj);have a0:((List.range S.length).all λj=>Dp q S j (S.getD j []))=(List.range S.length).all λj=>K5 q S j (S.getD j []):=by
  refine b4x Z λm A D=>?_;have:∀k,k<=m->∀j,j<k->Dp q S j (S.getD j [])=true:=λk=>by
   induction k with
   | zero=>grind
   | succ k ih =>
    grind
  grind
 grind[Vw,Mx]
def Em(l:Wq)(w:Wd):Wq:=if w∈l then l else l++[w]
def qS(q:Nat):List Nat->Wq->Wq
 | [],S=>S
 | b::bs,S=>qS q bs (Em S (S.getD (b / 8 % S.length) []++[((b % q:Nat):Int)]))
def qE:Wq->Wq->Wq
 | [],E=>E
 | w::ws,E=>qE ws (if w.length=0 then E else Em E w)
theorem e1q{l:Wq}{x:Wd}{k:Nat}(h:k<l.length):(l++[x]).getD k []=l.getD k []:=by
 grind
theorem e5u{l:Wq}{x:Wd}:(l++[x]).getD l.length []=x:=by
 grind
theorem e1r{l:Wq}{k:Nat}(h:k<l.length):l.getD k []∈l:=by
 grind
theorem a5g{k:Nat}:∀{l:Wq},(∀w∈l,w.length<=k)->longM l<=k
 | [],_=>W3 _
 | w::l,h=>by
  have A:=a5g (l:=l) λx hx=>h x (by grind);grind[longM]
structure SOK (q d:Nat) (S:Wq):Prop where
 pos:0<S.length
 hd:S.getD 0 []=[]
 len:S.length<=d+1
 wl:∀w∈S,w.length<=d/\inW w q=true
 ref:∀k,k<S.length->k≠0->My q S k (S.getD k [])=true
theorem SOK.step{q d:Nat}{S:Wq}(h:SOK q d S){p i:Nat}(Q:p<S.length)(hi:i<q):SOK q (d+1) (Em S (S.getD p []++[(i:Int)])):=by
 have U:=e1r Q;have a1:=h.len;have Z:=h.pos;unfold Em;split
 .exact⟨h.pos,h.hd,by omega,λw A=>⟨e7l (h.wl w A).1,(h.wl w A).2⟩,h.ref⟩
 .rename_i hn;generalize hx:S.getD p []=x at *;have a2:=h.wl x U;have a3:inW (x++[(i:Int)]) q=true:=by
   simp_all[inW]
  refine⟨by simp,by rw[e1q Z];exact h.hd,by grind,λw A=>?_,λk hk h0=>?_⟩
  .rcases W9.1 A with D|D
   .exact⟨e7l (h.wl w D).1,(h.wl w D).2⟩
   grind
  .rw[W0,Xg] at hk;by_cases a0:k<S.length
   .have D:=h.ref k a0 h0;grind[My]
   (simp_all[My];grind)
theorem b4y{q:Nat}(D:1<=q):∀(A:List Nat){d:Nat}{S:Wq},SOK q d S->SOK q (d+A.length) (qS q A S)
 | [],_,_,h=>h
 | b::A,d,S,h=>by
  have:=b4y D A (h.step (p:=b / 8 % S.length) (i:=b % q) (Xp _ h.pos) (Xp _ D));rw[Xk,e8j A.length,<- e7n];exact this
theorem SOK.base{q:Nat}:SOK q 0 [[]]:=⟨by simp,rfl,by simp,λw h=>by rw[Xh.1 h];exact⟨Wy _,rfl⟩,λk A D=>by grind⟩
theorem SOK.acc{q d:Nat}{S:Wq}(h:SOK q d S):Vv q S=true:=by
 unfold Vv;rw[h.hd,decide_eq_true h.pos,W1];refine⟨rfl,W7.2 λj Q=>?_⟩;have A:j<S.length:=by grind
 by_cases D:j=0
 .grind
 .rw[h.ref j A D,e9p]
structure EOK (q d m:Nat) (E:Wq):Prop where
 low:q<=E.length
 len:E.length<=q+d
 wl:∀w∈E,0<w.length/\w.length<=m/\inW w q=true
 ref:∀k,k<E.length->K5 q E k (E.getD k [])=true
theorem EOK.step{q d m:Nat}{E:Wq}(h:EOK q d m E){w:Wd}(U:w.length<=m)(Z:inW w q=true):EOK q (d+1) m (if w.length=0 then E else Em E w):=by
 have a0:=h.len;have a1:=h.low;have a2:EOK q (d+1) m E:=⟨h.low,by omega,h.wl,h.ref⟩;split
 .grind
 .rename_i h0;unfold Em;split
  .grind
  .rename_i hn;refine⟨by grind,by grind,λx hx=>?_,λk D=>?_⟩
   .rcases W9.1 hx with A|A
    .exact h.wl x A
    grind
   .rw[W0,Xg] at D;by_cases Q:k<E.length
    .have A:=h.ref k Q;grind[K5]
    (simp_all[K5];grind)
theorem b4z{q m:Nat}:∀(ws:Wq){d:Nat}{E:Wq},EOK q d m E->(∀w∈ws,w.length<=m/\inW w q=true)->EOK q (d+ws.length) m (qE ws E)
 | [],_,_,h,_=>h
 | w::ws,d,E,h,A=>by
  have D:=A w (by simp);have:=b4z ws (h.step D.1 D.2) λx hx=>A x (by simp[hx]);rw[Xk,e8j ws.length,<- e7n];exact this
def qE0(q:Nat):Wq:=(List.range q).map λi:Nat=>[(i:Int)]
theorem e1s{q k:Nat}(h:k<q):(qE0 q).getD k []=[(k:Int)]:=by
 grind[qE0]
theorem EOK.base{q m:Nat}(Q:1<=m):EOK q 0 m (qE0 q):=by
 have A:(qE0 q).length=q:=by simp[qE0]
 refine⟨by omega,by omega,λw D=>?_,λk h=>?_⟩
 .obtain⟨i,hi,rfl⟩:=Xc.1 D;grind[inW]
 .rw[A] at h;rw[e1s h];have U:inW [(k:Int)] q=true:=by grind[inW]
  have Z:[(k:Int)] ∉ (qE0 q).take k:=by
   grind[List.mem_iff_getElem,qE0]
  grind[K5]
theorem EOK.suf{q d m:Nat}{E:Wq}(h:EOK q d m E):Vw q E=true:=by
 have A:=h.low;unfold Vw;rw[W1];exact⟨decide_eq_true (by omega),W7.2 λj D=>h.ref j (by grind)⟩
theorem b5a{q d d2 m:Nat}{S E:Wq}{T:Tq}(U:1<=q)(Z:q<=16)(hO:1<=O)(a0:O<=16)(h:SOK q d S)(A:EOK q d2 m E)(hd:d<=20)(a1:d2<=20)(hm:m<=20)(Q:Ej q O T=0):Pr q O S E q O T=0:=by
 have h1:=h.len;have h2:=A.len;have h3:longM S<=d:=a5g λw D=>(h.wl w D).1;have h4:longM E<=m:=a5g λw D=>(A.wl w D).2.1;unfold Pr Oc;rw[if_neg (by omega),e1o (by omega) (by omega) (by omega),e1p (by omega) (by omega) (by omega),h.acc,A.suf,if_neg (by grind),if_neg (by grind),Q,if_neg (by simp),if_neg (by simp)]
theorem b5b(hN:Nod V ws)(D:∀x o,V x=some o->o ≠ -1->0<=o/\o<O):∀(m n:Nat)(A:Wq),ws.length<=n+m->Bfs V ws I O n A->n<=A.length->∃Q,Bfs V ws I O Q.length Q
 | m,n,A,hm,h,hn=>by
  by_cases U:n=A.length
  .subst U;exact⟨A,h⟩
  .have Z:n<A.length:=by omega
   have a0:=h.len
   cases m with
   | zero=>omega
   | succ m =>
    have h2:=(h.step hN D Z).1;exact b5b hN D m (n+1) _ (by omega) h2 (by rw[W0];omega)
theorem e1t(A:∀t∈ts,Cf I O t=true)(D:Eb ts):goT I O (Aj I ts) 0 1=some (Aj I ts).length:=by
 have hN:=a5d A D;have Q:Bfs (valT ts) (Bi ts) I O 0 [[]]:=Bfs.zero ((hN.mem []).2 (.inl rfl));obtain⟨os,h⟩:=b5b hN (λx o U Z=>b4g A U Z) (Bi ts).length 0 _ (by omega) Q (by simp);exact(b4h A D hN h).2.2
def E0(M:Aw)(ts:Lq):Prop:=∀t∈ts,t.2=Bc M 0 t.1/\inW t.1 M.inp=true
theorem E0.valid{M:Aw}(A:M.ok){ts:Lq}(h:E0 M ts):∀t∈ts,Cf M.inp M.out t=true:=λt Q=>by
 have Z:=A.2.2.2.2.1;obtain⟨U,D⟩:=h t Q;refine b3r (by grind[K1]) D ?_;rw[U];exact b3p A _ 0 false (.inr ⟨0,rfl,by omega⟩) (λh=>by cases h) D
theorem E0.cons{M:Aw}(h:E0 M ts):Eb ts:=
 (Sc λt D=>by rw[(h t D).1];grind[K1]).1 (b3u (λu A=>(h u A).1) _ _ λu A=>(h u A).1)
theorem E0.go{M:Aw}(A:M.ok){I:Nat}(D:M.inp=I){ts:Lq}(h:E0 M ts):goT I M.out (Aj I ts) 0 1=some (Aj I ts).length:=
 e1t (by rw[<- D];exact h.valid A) h.cons
theorem E0.err{M:Aw}(A:M.ok){I:Nat}(D:M.inp=I){ts:Lq}(h:E0 M ts)(Z:(Aj I ts).length<=65537):Ej I M.out (Aj I ts)=0:=by
 have h0:0<(Aj I ts).length:=by
  have e:(Aj I ts).length=(Bi ts).length:=Gx;rw[e];exact e6y ((J2 (h.valid A) h.cons []).2 (.inl rfl))
 have Q:=A.1;have U:=A.2.1;have h3:=A.2.2.1;have h4:=A.2.2.2.1;rw[D] at Q U;unfold Ej;rw[if_neg (by omega),if_neg (by omega),if_pos (h.go A D)]
theorem b5c{x:Wd}:∀{l:Wq},(Be x l).length<=l.length+1
 | []=>Wy _
 | y::l=>by
  have h:=@b5c x l;unfold Be;split
  .simp
  .split
   .simp
   .simp only[Xk];omega
theorem nodW_lenK:∀(w r:Wd)(L:Wq)(p:Wd),(nodW L p w r).length<=L.length+w.length
 | [],r,L,p=>by cases r<;>exact Wy _
 | _::_,[],L,p=>e8h _ _
 | i::w,o::r,L,p=>by
  have h:=nodW_lenK w r (Be (p++[i]) L) (p++[i]);have A:=@b5c (p++[i]) L;unfold nodW;rw[Xk];split<;>omega
theorem b5d{k:Nat}(h:∀t∈ts,t.1.length<=k):(Bi ts).length<=1+k*ts.length:=by
 have key:∀(us:Lq)(A:Wq),(∀t∈us,t.1.length<=k)->(us.foldl (λA t=>nodW A [] t.1 t.2) A).length<=A.length+k*us.length:=by
  intro us
  induction us with
  | nil=>grind
  | cons t us D =>
   grind[nodW_lenK,Nat.mul_add]
 exact key ts [[]] h
def b5e(T:Tq)(w:Wd):Wq->Option (Wd)
 | []=>some []
 | e::E=>match Cj T 0 (w++e) with
  | none=>none
  | some r=>(b5e T w E).map (r.drop w.length ++ ·)
def He(q:Nat)(S:Wq):Wq:=S.flatMap λs=>(List.range q).map λi:Nat=>s++[(i:Int)]
def Am(q:Nat)(S:Wq):Wq:=S++He q S
def qSx(M:Aw)(sb:List Nat):Wq:=qS M.inp.toNat (sb.take 5) [[]]
def qEx(M:Aw)(ew:List (List Nat)):Wq:=qE ((ew.take 3).map λx=>C0 x M.inp.toNat 4) (qE0 M.inp.toNat)
def H7(W E:Wq):Wq:=W.flatMap λw=>E.map λe=>w++e
def runT(M:Aw)(u:Wd):List Int×Wd:=(u,Bc M 0 u)
def qLx(M:Aw)(ws:List (List Nat))(full:Bool)(S E:Wq):Lq:=D9 M ws++if full=true then (H7 (Am M.inp.toNat S) E).map (runT M) else []
theorem Vx{q:Nat}:∀{S:Wq},(He q S).length=S.length*q
 | []=>by simp[He]
 | s::S=>by
  have:=@Vx q S;unfold He at this |-;rw[e7f,W0,this,Xk,e6g];simp;omega
theorem b5f{E:Wq}:∀{W:Wq},(H7 W E).length=W.length*E.length
 | []=>by simp[H7]
 | w::W=>by
  have:=@b5f E W;unfold H7 at this |-;rw[e7f,W0,this,Xk,e6g];simp;omega
theorem Iy{a b:Wd}{q:Int}(h:inW a q=true)(A:inW b q=true):inW (a++b) q=true:=by
 grind[inW]
structure QOK (M:Aw) (S E:Wq) (L:Lq):Prop where
 s:SOK M.inp.toNat 5 S
 e:EOK M.inp.toNat 3 4 E
 runs:E0 M L
 wl:∀t∈L,t.1.length<=10
 len:L.length<=156
 nod:(Bi L).length<=1561
theorem Vy{q d:Nat}{S:Wq}(h:SOK q d S):∀w∈Am q S,w.length<=d+1/\inW w q=true:=λw Q=>by
 rcases W9.1 Q with A|A
 .exact⟨e7l (h.wl w A).1,(h.wl w A).2⟩
 .obtain⟨s,D,U⟩:=e6x.1 A;obtain⟨i,hi,rfl⟩:=Xc.1 U;have Z:i<q:=by grind
  refine⟨by have:=(h.wl s D).1;grind,Iy (h.wl s D).2 ?_⟩;grind[inW]
theorem b5g{M:Aw}(hM:M.ok)(h3:M.inp<=3)(ws:List (List Nat))(A:List Nat)(D:List (List Nat))(full:Bool):QOK M (qSx M A) (qEx M D) (qLx M ws full (qSx M A) (qEx M D)):=by
 have h1:=hM.1;obtain⟨q,hq⟩:∃q:Nat,M.inp=q:=⟨M.inp.toNat,by omega⟩;have a0:M.inp.toNat=q:=by grind
 have a4:1<=q:=by omega
 have hs:SOK M.inp.toNat 5 (qSx M A):=by
  have h:=b4y (q:=M.inp.toNat) (by omega) (A.take 5) SOK.base;have h5:(A.take 5).length<=5:=by grind
  exact⟨h.pos,h.hd,by have:=h.len;grind[qSx],λw U=>⟨by have:=(h.wl w U).1;omega,(h.wl w U).2⟩,h.ref⟩
 have he:EOK M.inp.toNat 3 4 (qEx M D):=by
  have h:=b4z (q:=M.inp.toNat) (m:=4) ((D.take 3).map λx=>C0 x M.inp.toNat 4) (EOK.base (by omega)) λw U=>by
   obtain⟨x,_,rfl⟩:=Xc.1 U;grind[Vg,Vf]
  have h5:((D.take 3).map λx=>C0 x M.inp.toNat 4).length<=3:=by grind
  exact⟨h.low,by have:=h.len;grind[qEx],h.wl,h.ref⟩
 have Z:∀t∈qLx M ws full (qSx M A) (qEx M D),t.2=Bc M 0 t.1/\inW t.1 M.inp=true/\t.1.length<=10:=λt Q=>by
  rcases W9.1 Q with h|h
  .unfold D9 at h;obtain⟨b,_,rfl⟩:=Xc.1 h;exact⟨rfl,Vf h1,Vg⟩
  .split at h
   .obtain⟨u,hu,rfl⟩:=Xc.1 h;obtain⟨w,U,a1⟩:=e6x.1 hu;obtain⟨e,a2,rfl⟩:=Xc.1 a1;have h5:=Vy hs w U;have h6:=he.wl e a2;refine⟨rfl,?_,by show (w++e).length<=10;grind⟩;show inW (w++e) M.inp=true;grind[Iy]
   grind
 have a3:(qLx M ws full (qSx M A) (qEx M D)).length<=156:=by
  have h:(D9 M ws).length<=12:=by grind[D9]
  have h5:=hs.len;have h6:=he.len;unfold qLx;rw[W0];split
  .rw[Xl,b5f];unfold Am;rw[W0,Vx];rw[a0] at h6 |-;have h7:(qSx M A).length+(qSx M A).length*q<=24:=by
    have:(qSx M A).length*q<=6*3:=e5x (by omega) (by omega);omega
   have h8:((qSx M A).length+(qSx M A).length*q)*(qEx M D).length<=24*6:=e5x h7 (by omega);omega
  grind
 refine⟨hs,he,λt Q=>⟨(Z t Q).1,(Z t Q).2.1⟩,λt Q=>(Z t Q).2.2,a3,?_⟩;have:=b5d (k:=10) λt Q=>(Z t Q).2.2;omega
theorem Al.of{g:Gb}{n B:Nat}{w:Wd}{own:Bool}{z:Nat}(h:g B=some (.cells (wdC w) own z))(A:B<n){c:Nat}:Al g n w (.sl B 0 w.length c):=Gm h A
abbrev Yj:=@Al.of
end Go.Ai
