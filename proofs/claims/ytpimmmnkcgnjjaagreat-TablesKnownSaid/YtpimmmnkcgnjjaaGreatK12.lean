/- Parts of an interpreter and of a proof. No condition. -/
import Derived.Test.YtpimmmnkcgnjjaaGreatK11
import Derived.Test.YtpimmmnkcgnjjaaGreatK05
import Derived.Test.YtpimmmnkcgnjjaaGreatK09
import Derived.Test.YtpimmmnkcgnjjaaGreatK06
import Derived.Test.YtpimmmnkcgnjjaaGreatK08
import Derived.Test.YtpimmmnkcgnjjaaGreatK10
set_option linter.all false
set_option maxHeartbeats 40000000
set_option maxRecDepth 10000
open Go.Proofs Go.Proofs.Tryz
namespace Go.Ai
variable {O:Int}{I nx:Nat}{ts:Lq}{g':Gb}{V:Wd→Option Int}{ws:Wq}{a b:Wd}
def edC(e:Int×Int):List AV:=[.li e.1,.li e.2]
def Vs(g:Gb)(n:Nat)(r:List (Int×Int))(sv:AV):Prop:=Af g n sv r.length (r.flatMap edC)
def RowsK(g:Gb)(n:Nat)(T:Tq)(svs:List AV):Prop:=svs.length=T.length/\∀(k:Nat)(h:k<T.length),∃sv,svs[k]?=some sv/\Vs g n T[k] sv
theorem RowsK.ext{g:Gb}{b f:Nat}{l:Tq}{A:List AV}(h:RowsK g b l A)(D:b<=f)(Q:∀a x,a<b->g a=some x->g' a=some x):RowsK g' f l A:=
 ⟨h.1,λk U=>let ⟨sv,Z,h2⟩:=h.2 k U;⟨sv,Z,Xx D Q h2⟩⟩
theorem Vs.at{g:Gb}{n:Nat}{r:List (Int×Int)}{sv:AV}(h:Vs g n r sv){i:Nat}(hi:i<r.length):
  ∃a off,a<n/\(∀{H:Mem}{ev:Ev}{o:Oper}{t:TypeId},iaS prog H ev o t (some (none,2)) (some sv) (some (.li (i:Int)))=.val (.ptr a (off+i*2)) H)/\Bf (some (true,2)) (g a) (off+i*2)=some (.agg (edC r[i])):=by
 obtain⟨a,off,f,A,D⟩:=X4 (P:=prog) h hi 2;refine⟨a,off,f,D,?_⟩;have:=A.agg (k:=i*2) (s:=2) (by rw[b0t (sz:=2) _ (λ_ _=>rfl)];omega);rw[b0s (sz:=2) r i hi (λ_ _=>rfl)] at this;exact this
theorem e1b{e:Int×Int}{l:List (Int×Int)}:goE O (e::l) nx=match Cy O nx e with|none=>none|some k=>goE O l k:=rfl
def Ml(I O:Int)(rows:Tq)(n:Nat)(es:List (Int×Int))(nx:Nat):Option Nat:=match goE O es nx with|none=>none|some z=>goT I O rows (n+1) z
theorem e1c{I:Int}{rows:Tq}{n:Nat}{e:Int×Int}{es:List (Int×Int)}:Ml I O rows n (e::es) nx=match Cy O nx e with|none=>none|some k=>Ml I O rows n es k:=by
 unfold Ml;rw[e1b];cases Cy O nx e<;>rfl
theorem e1d{I:Int}{r:List (Int×Int)}{rows:Tq}{n:Nat}:goT I O (r::rows) n nx=if (r.length:Int)=I/\n<nx then Ml I O rows n r nx else none:=rfl
theorem b4v(I O:Int)(T:Tq)(hl:T.length<=1000000)(hw:∀r∈T,r.length<=1000000)(g:Gb)(n:Nat)(sv:AV)(b5:List AV)(a8:Af g n sv T.length b5)(U:RowsK g n T b5):
  WC 0 prog 91 [.agg [.li I,.li O,sv]] ⟨.fn g,n⟩ λr=>r=.ret (.li (D5 I O T)) ⟨.fn g,n⟩:=by
 refine X0 rfl ?_;have g9:=@Au prog _ _ _ _ _ a8;have e7:=a8.one;have h0:allOne [.li I,.li O,sv]=true:=by simp[e7]
 have HS:=Xr a8;have HR:=Xr U;have HW:=Xr hw;clear a8 U hw;obtain⟨a0,D⟩:∃b,b=D5 I O T:=⟨_,rfl⟩;rw[<- D];unfold D5 at D;by_cases t1:I > 16
 .have U:a0=3:=by rw[D,if_pos (.inl t1)]
  clear D;refine ent [] func91 ?_;simp (disch:=first|omega|simp) [*]
  all_goals exact⟨W4 n,λb f=>Ad f⟩
 by_cases t2:O > 16
 .have U:a0=3:=by rw[D,if_pos (.inr (.inl t2))]
  clear D;refine ent [] func91 ?_;simp (disch:=first|omega|simp) [*]
  all_goals exact⟨W4 n,λb f=>Ad f⟩
 by_cases t3:T.length > 65537
 .have U:a0=3:=by rw[D,if_pos (.inr (.inr t3))]
  have e8:65537<(T.length:Int):=by omega
  clear D;refine ent [] func91 ?_;simp (disch:=first|omega|simp) [*]
  all_goals exact⟨W4 n,λb f=>Ad f⟩
 have e8:¬65537<(T.length:Int):=by omega
 rw[if_neg (by omega)] at D;by_cases t4:I<1
 .have U:a0=1:=by rw[D,if_pos (.inl t4)]
  clear D;refine ent [] func91 ?_;simp (disch:=first|omega|simp) [*]
  all_goals exact⟨W4 n,λb f=>Ad f⟩
 by_cases t5:O<1
 .have U:a0=1:=by rw[D,if_pos (.inr (.inl t5))]
  clear D;refine ent [] func91 ?_;simp (disch:=first|omega|simp) [*]
  all_goals exact⟨W4 n,λb f=>Ad f⟩
 by_cases t6:T.length<1
 .have U:a0=1:=by rw[D,if_pos (.inr (.inr t6))]
  have e9:(T.length:Int)<1:=by omega
  clear D;refine ent [] func91 ?_;simp (disch:=first|omega|simp) [*]
  all_goals exact⟨W4 n,λb f=>Ad f⟩
 have e9:¬(T.length:Int)<1:=by omega
 rw[if_neg (by omega)] at D;have a5:=Xr D;clear D;refine ent [] func91 ?_;simp (disch:=first|omega|simp) [*];refine Xv (λm Z H'=>∃(k:Nat)(gL:Gb)(n' nx:Nat),k<=T.length/\m=T.length-k/\H'=⟨.fn gL,n'⟩/\n<n'/\Aa (∀b,b<n->gL b=g b)/\gL n=some (.cells [.li I,.li O,sv] true 0) /\
  Aa (goT I O T 0 1=goT I O (T.drop k) k nx)/\nx<=1+k*1000000/\Z 1=some (.ptr n 0)/\Z 3=some (.li nx)/\Z 37=some sv/\Z 38=some (.li T.length)/\Z 39=some (.li k)) (m0:=T.length) ?_ ?_
 .exact⟨0,_,_,1,W3 _,rfl,rfl,by omega,⟨λb f=>Ad f⟩,Ah,⟨rfl⟩,by omega,by simp[*]⟩
 rintro m Z H' ⟨k,gL,n',nx,hk,rfl,rfl,a6,HG,g0,HV,h1,w1,w3,h2,h3,h4⟩ ih;refine rnd [] ?_;by_cases a9:k<T.length
 .have g1:(k:Int)<(T.length:Int):=by omega
  obtain⟨q1,b6,b7⟩:=HR.out.2 k a9;obtain⟨a2,off,b9,c0,g2⟩:=HS.out.ia (P:=prog) a9 1;simp only[Xk] at g2;have g3:k<b5.length:=(W8.1 b6).1;have g4:=(c0.mono (HG.out a2 b9)).one (k:=k) (s:=1) g3;rw[(W8.1 b6).2] at g4;have h5:=@Au prog _ _ _ _ _ b7;have c1:T.drop k=T[k]::T.drop (k+1):=Xh a9;have A:=HV.out;rw[c1,e1d] at A;have h6:=HW.out _ (W2 a9);have c2:=Xr b7;have b0:=Xr A;clear c0 b7 b6 b9 c1 A HV;generalize T[k]=row at *;have h7:oneC q1=true:=c2.out.one;by_cases u1:(row.length:Int)=I
  .subst u1;by_cases u2:k<nx
   .have g5:¬(nx:Int)<=(k:Int):=by omega
    have A:=b0.out;rw[if_pos ⟨rfl,u2⟩] at A;have g6:=Xr A;clear A b0;simp (disch:=first|omega|simp) [*];refine Xv (λm Z H'=>∃(i:Nat)(gM:Gb)(n2 nz:Nat),i<=row.length/\m=row.length-i/\H'=⟨.fn gM,n2⟩/\n<n2/\Aa (∀b,b<n->gM b=g b)/\gM n=some (.cells [.li (row.length:Int),.li O,sv] true 0) /\
     Aa (goT (row.length:Int) O T 0 1=Ml (row.length:Int) O (T.drop (k+1)) k (row.drop i) nz)/\nz<=1+k*1000000+i/\Z 1=some (.ptr n 0)/\Z 3=some (.li nz)/\Z 37=some sv/\Z 38=some (.li T.length)/\Z 39=some (.li k) /\
     Z 54=some q1/\Z 55=some (.li row.length)/\Z 56=some (.li i)) (m0:=row.length) ?_ ?_
    .exact⟨0,gL,n',nx,W3 _,rfl,rfl,a6,HG,g0,g6,by omega,by simp[*]⟩
    rintro m Z H' ⟨i,gM,n2,nz,hi,rfl,rfl,a7,a1,b1,b2,h8,x1,x3,h9,i0,i1,i2,i3,i4⟩ b8;refine rnd [] ?_;by_cases c6:i<row.length
    .have g7:(i:Int)<(row.length:Int):=by omega
     obtain⟨a3,i5,g8,i6,c7⟩:=Vs.at c2.out c6;rw[<- a1.out a3 g8] at c7;have c8:row.drop i=row[i]::row.drop (i+1):=Xh c6;have A:=b2.out;rw[c8,e1c] at A;have a4:=Xr A;clear A b2 c8;generalize row[i]=e at *;obtain⟨to,b3⟩:=e;simp only[edC] at c7;by_cases e1:to = -1
     .subst e1;by_cases e2:b3 = -1
      .subst e2;have Q:goT (row.length:Int) O T 0 1=Ml (row.length:Int) O (T.drop (k+1)) k (row.drop (i+1)) nz:=by rw[a4.out];simp[Cy]
       simp (disch:=first|omega|simp) [*];refine b8.out (row.length-(i+1)) _ _ (by omega) ⟨i+1,_,_,nz,by omega,rfl,rfl,by omega,⟨λb f=>(Ad (by omega)).trans (a1.out b f)⟩,(Ad (by omega)).trans b1,⟨Q⟩,by omega,by simp[*]⟩
      .by_cases e3:b3 = -2
       .subst e3;have Q:goT (row.length:Int) O T 0 1=Ml (row.length:Int) O (T.drop (k+1)) k (row.drop (i+1)) nz:=by rw[a4.out];simp[Cy]
        simp (disch:=first|omega|simp) [*];refine b8.out (row.length-(i+1)) _ _ (by omega) ⟨i+1,_,_,nz,by omega,rfl,rfl,by omega,⟨λb f=>(Ad (by omega)).trans (a1.out b f)⟩,(Ad (by omega)).trans b1,⟨Q⟩,by omega,by simp[*]⟩
       .have e4:¬(-1:Int)=(nz:Int):=by omega
        have Q:goT (row.length:Int) O T 0 1=none:=by rw[a4.out];simp[Cy,e2,e3,e4]
        have U:a0=1:=by rw[a5.out,Q];simp
        clear Q;simp (disch:=first|omega|simp) [*];exact⟨Xp (e7n a7),λb (f:b<n)=>(Ad (by omega)).trans (a1.out b f)⟩
     .by_cases e4:to=(nz:Int)
      .subst e4;by_cases e5:0<=b3
       .by_cases e6:b3<O
        .have Q:goT (row.length:Int) O T 0 1=Ml (row.length:Int) O (T.drop (k+1)) k (row.drop (i+1)) (nz+1):=by rw[a4.out];simp[Cy,e1,e5,e6]
         simp (disch:=first|omega|simp) [*];refine b8.out (row.length-(i+1)) _ _ (by omega) ⟨i+1,_,_,(nz+1),by omega,rfl,rfl,by omega,⟨λb f=>(Ad (by omega)).trans (a1.out b f)⟩,(Ad (by omega)).trans b1,⟨Q⟩,by omega,by simp[*]⟩
        .have Q:goT (row.length:Int) O T 0 1=none:=by rw[a4.out];simp[Cy,e1,e6]
         have U:a0=1:=by rw[a5.out,Q];simp
         clear Q;simp (disch:=first|omega|simp) [*];exact⟨Xp (e7n a7),λb (f:b<n)=>(Ad (by omega)).trans (a1.out b f)⟩
       .have Q:goT (row.length:Int) O T 0 1=none:=by rw[a4.out];simp[Cy,e1,e5]
        have U:a0=1:=by rw[a5.out,Q];simp
        clear Q;simp (disch:=first|omega|simp) [*];exact⟨Xp (e7n a7),λb (f:b<n)=>(Ad (by omega)).trans (a1.out b f)⟩
      .have Q:goT (row.length:Int) O T 0 1=none:=by rw[a4.out];simp[Cy,e1,e4]
       have U:a0=1:=by rw[a5.out,Q];simp
       clear Q;simp (disch:=first|omega|simp) [*];exact⟨Xp (e7n a7),λb (f:b<n)=>(Ad (by omega)).trans (a1.out b f)⟩
    .have g7:¬(i:Int)<(row.length:Int):=by omega
     have c9:i=row.length:=by omega
     have A:=b2.out;rw[c9,e9c] at A;have a4:=Xr (show goT (row.length:Int) O T 0 1=goT (row.length:Int) O (T.drop (k+1)) (k+1) nz from A);clear A b2 c9;simp (disch:=first|omega|simp) [*];refine ih.out (T.length-(k+1)) _ _ (by omega) ⟨k+1,gM,n2,nz,by omega,rfl,rfl,a7,a1,b1,a4,by omega,by simp[*]⟩
   .have g5:(nx:Int)<=(k:Int):=by omega
    have A:=b0.out;rw[if_neg (λh=>u2 h.2)] at A;have U:a0=1:=by rw[a5.out,A];simp
    clear A;simp (disch:=first|omega|simp) [*];exact⟨Xp a6,λb f=>HG.out b f⟩
  .have A:=b0.out;rw[if_neg (λh=>u1 h.1)] at A;have U:a0=1:=by rw[a5.out,A];simp
   clear A;simp (disch:=first|omega|simp) [*];exact⟨Xp a6,λb f=>HG.out b f⟩
 .have g1:¬(k:Int)<(T.length:Int):=by omega
  have e0:k=T.length:=by omega
  have A:=HV.out;rw[e0,e9c] at A;have b4:goT I O T 0 1=some nx:=A;clear e0 A HV;by_cases u3:nx=T.length
  .rw[u3] at w3;have U:a0=0:=by rw[a5.out,b4,u3];simp
   clear b4 u3;simp (disch:=first|omega|simp) [*];exact⟨Xp a6,λb f=>HG.out b f⟩
  .have i7:¬(nx:Int)=(T.length:Int):=by omega
   have U:a0=1:=by rw[a5.out,b4,if_neg (λh=>u3 (by injection h))]
   clear b4;simp (disch:=first|omega|simp) [*];exact⟨Xp a6,λb f=>HG.out b f⟩
theorem a5d:(Aj I ts).length=(Dm ts).length:=G7
theorem e1e{rows:Tq}(a0:1<=I)(a1:I<=16)(a2:1<=O)(a3:O<=16)(h0:0<rows.length)(hl:rows.length<=65537)(A:goT I O rows 0 1=some rows.length)(D:∀r∈rows,r.length<=1000000)(g:Gb)(n:Nat)(f:AV)(Q:Cf g n rows f):
  WC 0 prog 91 [.agg [.li I,.li O,f]] ⟨.fn g,n⟩ λr=>r=.ret (.li 0) ⟨.fn g,n⟩:=by
 obtain⟨U,Z,h2,h3⟩:=Q;have h:=b4v I O rows (by omega) D g n f U Z ⟨h2,h3⟩;have e:D5 I O rows=0:=by
  unfold D5;rw[if_neg (by omega),if_neg (by omega),if_pos A]
 rw[e] at h;exact h
def Bd(rows:Tq):Int->Wd->Option (Wd)
 | _,[]=>some []
 | a,i::w=>if ((rows.getD a.toNat []).getD i.toNat (-1,-1)).1 = -1 then (if ((rows.getD a.toNat []).getD i.toNat (-1,-1)).2 = -2 then some (List.replicate (w.length+1) (-1)) else none) else (Bd rows ((rows.getD a.toNat []).getD i.toNat (-1,-1)).1 w).map (((rows.getD a.toNat []).getD i.toNat (-1,-1)).2 :: ·)
def knM(V:Wd->Option Int):Bool->Wd->Wd->Option (Wd)
 | _,_,[]=>some []
 | true,p,i::w=>(knM V true (p++[i]) w).map (-1 :: ·)
 | false,p,i::w=>match V (p++[i]) with
  | none=>none
  | some o=>(knM V (decide (o = -1)) (p++[i]) w).map (o :: ·)
theorem b4w{d:Bool}{p:Wd}:knM V d p []=some []:=by rfl
theorem Sq(V:Wd->Option Int):∀(w p:Wd),knM V true p w=some (List.replicate w.length (-1))
 | [],_=>rfl
 | i::w,p=>by
  show (knM V true (p++[i]) w).map (-1 :: ·)=_;rw[Sq V w];rfl
theorem b4x(hN:Nod V ws):∀(w p:Wd),p∈ws->inW w I=true->Bd (Bg V ws I) ((ws.idxOf p:Nat):Int) w=knM V false p w
 | [],_,_,_=>rfl
 | i::w,p,A,f=>by
  unfold inW at f;rw[e8a,W0] at f;have hi:=of_decide_eq_true f.1;obtain⟨j,rfl⟩:∃j:Nat,i=j:=⟨i.toNat,by omega⟩;obtain⟨U,Z⟩:=Mk A;have D:((Bg V ws I).getD ((ws.idxOf p:Nat):Int).toNat []).getD (j:Int).toNat (-1,-1)=A0 V ws p j:=by
   grind[Pn,Vj]
  unfold Bd;rw[D]
  show _=match V (p++[(j:Int)]) with
   | none=>none
   | some o=>(knM V (decide (o = -1)) (p++[(j:Int)]) w).map (o :: ·)
  unfold A0
  cases h:V (p++[(j:Int)]) with
  | none=>rfl
  | some o =>
   by_cases Q:o = -1
   .grind[Sq]
   .have ih:=b4x hN w (p++[(j:Int)]) ((hN.mem _).2 (.inr ⟨o,h,Q⟩)) f.2;grind
theorem b4y{M:Az}(U:M.ok){ts:Lq}(h:∀t∈ts,t.2=Bl M 0 t.1):∀(w p r:Wd)(d:Bool),Se M (F4 M 0 p)->inW w M.inp=true->(d=true->F4 M 0 p = -1)->knM (valT ts) d p w=some r->r=Bl M (F4 M 0 p) w
 | [],p,r,d,_,_,_,f=>by rw[b4w] at f;injection f with f;rw[<- f];rfl
 | i::w,p,r,true,Z,A,Q,f=>by
  rw[Sq] at f;injection f with f;rw[Q rfl,<- f];have key:∀(v:Wd),Bl M (-1) v=List.replicate v.length (-1):=by
   intro v
   induction v with
   | nil=>rfl
   | cons j v ih =>
    grind[Bl,a4p]
  grind
 | i::w,p,r,false,Z,A,Q,f=>by
  unfold inW at A;rw[e8a,W0] at A;have hi:=of_decide_eq_true A.1;have he:=a4o (a4q U Z hi.1 hi.2)
  have D:(match valT ts (p++[i]) with
   | none=>none
   | some o=>(knM (valT ts) (decide (o = -1)) (p++[i]) w).map (o :: ·))=some r:=f
  cases hV:valT ts (p++[i]) with
  | none=>grind
  | some o =>
   rw[hV] at D;have D:(knM (valT ts) (decide (o = -1)) (p++[i]) w).map (o :: ·)=some r:=D;obtain⟨u,hu,_,a1,a2,a0⟩:=Jy hV;have ho:o=(Cz M (F4 M 0 p) i).2:=by
    rw[a0,h u hu];have e1:u.1=(p++[i])++u.1.drop (p++[i]).length:=by
     grind[List.take_append_drop]
    rw[e1,e5z,a4m];simp[Nz,Bl]
   cases hq:knM (valT ts) (decide (o = -1)) (p++[i]) w with
   | none=>grind
   | some q =>
    rw[hq] at D;have hr:o::q=r:=by grind
    have ea:F4 M 0 (p++[i])=(Cz M (F4 M 0 p) i).1:=by rw[a4n];rfl
    have ih:=b4y U h w (p++[i]) q (decide (o = -1)) (by grind) A.2 (λQ=>by grind) hq;rw[<- hr,ih,ea,ho];rfl
theorem b4z(A:Ej ts){t:List Int×Wd}(D:t∈ts)(Z:t.2.length=t.1.length):∀(m k:Nat)(d:Bool),m=t.1.length-k->k<=t.1.length->okR O d (t.2.drop k)=true->knM (valT ts) d (t.1.take k) (t.1.drop k)=some (t.2.drop k)
 | 0,k,d,hm,hk,_=>by
  grind[b4w,List.drop_eq_nil_of_le]
 | m+1,k,d,hm,hk,Q=>by
  have f:k<t.1.length:=by omega
  have h:k<t.2.length:=by omega
  rw[Xh f,Xh h];rw[Xh h] at Q;obtain⟨_,_,h3,h4⟩:=N1 Q;have U:=b4z A D Z m (k+1) _ (by omega) (by omega) h4;rw[Df f] at U;have hv:=a4x A D f;rw[Df f,Xo,W5 h] at hv
  cases d with
  | true =>
   have e:=h3 rfl;rw[e] at U |-;show (knM (valT ts) true (t.1.take k++[t.1[k]]) (t.1.drop (k+1))).map (-1 :: ·)=_;grind
  | false =>
   grind[knM]
theorem b5a{I:Int}(A:Ej ts){t:List Int×Wd}(D:t∈ts)(f:B0 I O t=true):knM (valT ts) false [] t.1=some t.2:=by
 unfold B0 at f;rw[W0,W0] at f;have h:=b4z (O:=O) A D (of_decide_eq_true f.1.1) _ 0 false rfl (W3 _) f.2;grind
theorem a5e(f:∀t∈ts,B0 I O t=true)(h:Ej ts):Nod (valT ts) (Dm ts):=by
 obtain⟨us,hN,_⟩:=a4y (I:=I) _ ts rfl h f;exact⟨(N3 f).1.nodup,λw=>Pq f h w,hN.clo⟩
theorem b5b(A:Bt ws)(h:[]∈ws):ws.idxOf []=0:=by
 obtain⟨D,Q⟩:=Mk h;by_cases U:ws.idxOf []=0
 .grind
 .have f:=A 0 (ws.idxOf []) (by omega) D (by omega);rw[Q] at f;have Z:=f.le;simp_all[X7]
theorem Vt(f:∀t∈ts,B0 I O t=true)(A:Ej ts){w:Wd}(Q:inW w I=true):Bd (Aj I ts) 0 w=knM (valT ts) false [] w:=by
 have hN:=a5e f A;have D:[]∈Dm ts:=(Pq f A []).2 (.inl rfl);have h:=b4x (I:=I) hN w [] D Q;rw[b5b (N3 f).1 D] at h;exact h
theorem Vu(l:Wq)(hl:l.length<=1000000)(A:∀w∈l,w.length<=1000000)(g:Gb)(n:Nat)(sv:AV)(Q:List AV)(U:Af g n sv l.length Q)(hr:RowsW g n l Q):
  WC 0 prog 78 [sv] ⟨.fn g,n⟩ λr=>r=.ret (.li (longM l:Nat)) ⟨.fn g,n⟩:=by
 have b4:=@Au prog _ _ _ _ _ U;have HS:=Xr U;have HR:=Xr hr;have HW:=Xr A;clear U hr A;refine ent [] func78 ?_;simp (disch:=first|omega|simp) [*];refine Xv (λm f H'=>∃(k:Nat),k<=l.length/\m=l.length-k/\H'=⟨.fn g,n⟩/\f 3=some (.li (longM (l.take k):Nat))/\f 6=some sv/\f 7=some (.li l.length)/\f 8=some (.li k)) (m0:=l.length) ?_ ?_
 .exact⟨0,W3 _,rfl,rfl,by simp[longM],by simp[*]⟩
 rintro m f H' ⟨k,hk,rfl,rfl,w3,w6,w7,w8⟩ ih;refine rnd [] ?_;by_cases D:k<l.length
 .have a7:(k:Int)<(l.length:Int):=by omega
  obtain⟨w1,Z,a0⟩:=HR.out.2 k D;obtain⟨a2,off,a8,a1,a9⟩:=HS.out.ia (P:=prog) D 1;simp only[Xk] at a9;have b0:k<Q.length:=(W8.1 Z).1;have b1:=a1.one (k:=k) (s:=1) b0;rw[(W8.1 Z).2] at b1;have b5:=@Au prog _ _ _ _ _ a0;have a3:l.take (k+1)=l.take k++[l[k]]:=by rw[e6w,W5 D];rfl
  have a4:longM (l.take (k+1))=max (longM (l.take k)) l[k].length:=by rw[a3,longM_snoc]
  have b6:=HW.out _ (W2 D);have b7:longM (l.take k)<=1000000:=Rj λw A=>HW.out w (e6p A);have a5:=Xr a4;clear a4 a3 a1 a0 Z a8;generalize l[k]=w at *;have b2:∀mm:Nat,mm=longM (l.take (k+1))->mm=longM (l.take (k+1)):=λ_ h=>h;clear b2;generalize hq:longM (l.take k)=q at *;by_cases hm:q<w.length
  .have b3:(q:Int)<(w.length:Int):=by omega
   simp (disch:=first|omega|simp) [*];refine ih.out (l.length-(k+1)) _ _ (by omega) ⟨k+1,by omega,rfl,rfl,?_,by simp[*]⟩;rw[a5.out,Nat.max_eq_right (by omega)];simp
  .have b3:¬(q:Int)<(w.length:Int):=by omega
   simp (disch:=first|omega|simp) [*];refine ih.out (l.length-(k+1)) _ _ (by omega) ⟨k+1,by omega,rfl,rfl,?_,by simp[*]⟩;rw[a5.out,Nat.max_eq_left (by omega)];simp
 .have a7:¬(k:Int)<(l.length:Int):=by omega
  have a6:k=l.length:=by omega
  rw[a6,Xl] at w3;clear a6;simp (disch:=first|omega|simp) [*]
theorem e1f(l:Wq)(hl:l.length<=1000000)(hw:∀w∈l,w.length<=1000000)(x:Wd)(hx:x.length<=1000000)(g:Gb)(n:Nat)(sv f:AV)(Z:List AV)(a0:Af g n sv l.length Z)(A:RowsW g n l Z)(a4:Al g n x f):
  WC 0 prog 57 [sv,f] ⟨.fn g,n⟩ λr=>∃z:Int,r=.ret (.li z) ⟨.fn g,n⟩/\decide (0<=z)=decide (x∈l):=by
 have b7:=@Au prog _ _ _ _ _ a0;have HS:=Xr a0;have HR:=Xr A;have HW:=Xr hw;have HX:=Xr a4;clear a0 A hw a4;obtain⟨a5,a1⟩:∃c,c=decide (x∈l):=⟨_,rfl⟩;rw[<- a1];have a6:=Xr a1;clear a1;refine ent [] func57 ?_;simp (disch:=first|omega|simp) [*];refine Xv (λm D H'=>∃(k:Nat),k<=l.length/\m=l.length-k/\H'=⟨.fn g,n⟩/\Aa (∀w∈l.take k,w≠x)/\D 0=some sv/\D 1=some f/\D 5=some (.li k)) (m0:=l.length) ?_ ?_
 .exact⟨0,W3 _,rfl,rfl,⟨by simp⟩,by simp[*]⟩
 rintro m D H' ⟨k,hk,rfl,rfl,a7,w0,w1,w5⟩ ih;refine rnd [] ?_;by_cases Q:k<l.length
 .have b1:(k:Int)<(l.length:Int):=by omega
  obtain⟨q1,a3,a8⟩:=HR.out.2 k Q;obtain⟨a2,off,b2,a9,b3⟩:=HS.out.ia (P:=prog) Q 1;simp only[Xk] at b3;have b4:k<Z.length:=(W8.1 a3).1;have b5:=a9.one (k:=k) (s:=1) b4;rw[(W8.1 a3).2] at b5;have b0:l.take (k+1)=l.take k++[l[k]]:=by simp
  have hS:=e1a l[k] x (HW.out _ (W2 Q)) hx g n q1 f a8 HX.out;have b6:=Xr hS;have HT:=Xr b0;have HM:=Xr (W2 Q);clear b0 a9 a8 a3 b2 hS;generalize l[k]=w at *;simp (disch:=first|omega|simp) [*];refine Xs b6.out ?_;rintro _ rfl;by_cases U:w=x
  .have A:a5=true:=by rw[a6.out];exact decide_eq_true (U ▸ HM.out)
   simp_all
  .have hd:decide (w=x)=false:=decide_eq_false U;rw[hd];have HE:=Xr U;clear U;simp (disch:=first|omega|simp) [*];refine ih.out (l.length-(k+1)) _ _ (by omega) ⟨k+1,by omega,rfl,rfl,⟨λv hv=>?_⟩,by simp[*]⟩;rw[HT.out] at hv;rcases W9.1 hv with h|h
   .exact a7.out v h
   grind
 .have b1:¬(k:Int)<(l.length:Int):=by omega
  have b8:k=l.length:=by omega
  have A:a5=false:=by
   rw[a6.out];have h1:=a7.out;grind
  simp_all
def kb(i:Int):AV:=.lit (.int .u8 (i+1))
def J0(w:Wd)(k:Nat):List AV:=(w.take k).map kb++List.replicate (w.length-k) (.lit (.int .u8 0))
theorem b5c(w:Wd)(k:Nat)(h:k<=w.length):(J0 w k).length=w.length:=by
 grind[J0]
theorem b5d(w:Wd)(k:Nat)(h:k<w.length):(J0 w k).set k (kb w[k])=J0 w (k+1):=by
 unfold J0;have f:((w.take k).map kb).length=k:=by grind
 rw[e8e _ _ (by omega),f,e6n,show w.length-k=(w.length-(k+1))+1 by omega,e7m,e8g,e6w,W5 h];grind
theorem b5e(w:Wd):J0 w w.length=w.map kb:=by
 simp[J0]
def Fl(w:Wd):List UInt8:=w.map λi=>UInt8.ofNat (i+1).toNat
theorem bytes_key:∀(w:Wd),bytesOf (w.map kb)=some (Fl w)
 | []=>rfl
 | i::w=>by
  show bytesOf (.lit (.int .u8 (i+1))::w.map kb)=_;rw[b1g,bytes_key w,b1h];rfl
def A5(w:Wd):ByteArray:=⟨(Fl w).toArray⟩
theorem b5f {a : Int} (h1 : 0 ≤ a) (h2 : a ≤ 255) : IntKind.u8.wrap a = a := by
  have := c0v (m := a.toNat) (by omega)
  rwa [show (Int.ofNat a.toNat) = a by simp; omega] at this
theorem mk42:mkI prog 42=some (.lit (.int .u8 0)):=by kernel_rfl
attribute [simp] mk42
theorem Ps(w:Wd)(b0:w.length<=300)(a0:∀i∈w,0<=i/\i<16)(g:Gb)(n:Nat)(sv:AV)(D:Al g n w sv):
  WC 0 prog 52 [sv] ⟨.fn g,n⟩ λr=>r=.ret (.lit (.string (A5 w))) ⟨.fn g,n⟩:=by
 refine X0 rfl ?_;have b1:=@Au prog _ _ _ _ _ D;have HS:=Xr D;have a4:=Xr a0;clear D a0;refine ent [] func52 ?_;simp (disch:=first|omega|simp) [*];refine Xv (λm h H'=>∃(k:Nat)(gL:Gb)(L:List AV),k<=w.length/\m=w.length-k/\H'=⟨.fn gL,n+1⟩/\Aa (∀b,b<n->gL b=g b)/\gL n=some (.cells L true 0)/\Aa (L=J0 w k) /\
  h 3=some (.sl n 0 w.length w.length)/\h 9=some sv/\h 10=some (.li w.length)/\h 11=some (.li k)) (m0:=w.length) ?_ ?_
 .refine⟨0,_,_,W3 _,rfl,rfl,⟨λb f=>Ad f⟩,Ah,⟨?_⟩,by simp[*]⟩;rfl
 rintro m h H' ⟨k,gL,L,hk,rfl,rfl,Q,b2,U,w3,w9,b3,b4⟩ ih;have b5:L.length=w.length:=by rw[U.out];grind[b5c]
 refine rnd [] ?_;by_cases A:k<w.length
 .have a5:(k:Int)<(w.length:Int):=by omega
  obtain⟨a2,off,a6,a1,a7⟩:=X4 (P:=prog) HS.out A 1;simp only[Xk] at a7;have a8:=(a1.mono (Q.out a2 a6)).one (k:=k) (s:=1) (by grind[Cb]);rw[(W8.1 (Kq w k A)).2] at a8;have f:=a4.out _ (W2 A);have Z:=b5d w k A;rw[<- U.out] at Z;have a9:=Xr Z;clear Z a1;generalize w[k]=x at *;have b6:IntKind.u8.wrap (x+1)=x+1:=b5f (by omega) (by omega);have b7:k<L.length:=by omega
  simp (disch:=first|omega|simp) [*];refine ih.out (w.length-(k+1)) _ _ (by omega) ⟨k+1,_,L.set k (kb x),by omega,rfl,rfl,⟨λb f=>(Ad f).trans (Q.out b f)⟩,Ah,⟨a9.out⟩,by simp[*]⟩
 .have a5:¬(k:Int)<(w.length:Int):=by omega
  have a3:k=w.length:=by omega
  have b8:bytesOf (List.take w.length L)=some (Fl w):=by rw[Xn (by omega),U.out,a3,b5e];exact bytes_key w
  clear a3;simp (disch:=first|omega|simp) [*];exact⟨_,⟨rfl,rfl⟩,W4 n,λb f=>Q.out b f⟩
theorem Sr(s:ByteArray)(l:List ByteArray)(i:Nat):Ey s (l.zipIdx i)=l.contains s:=by
 haveI:=ba_lawful
 induction l generalizing i with
 | nil=>rfl
 | cons b l f =>
  have:=f (i+1);unfold Ey at this |-;rw[List.zipIdx_cons,List.any_cons,this,List.contains_cons];by_cases h:b=s
  .subst h;simp
  .have A:¬(s=b):=λe=>h e.symm;simp[h,A]
theorem a5f{w:Wd}{q:Int}(h:Bo w q=0):w.length<=256/\∀i∈w,0<=i/\i<16:=by
 unfold Bo at h;split at h
 .cases h
 .rename_i U;split at h
  .cases h
  .rename_i f;have A:inW w q=true:=by
    cases D:inW w q with
    | true=>rfl
    | false=>exact absurd (.inr D) f
   refine⟨by omega,λi hi=>?_⟩;have Q:=W7.1 A i hi;have Z:0<=i/\i<q:=by simpa using Q
   omega
def C0(l:Wq):List ByteArray:=l.map A5
def Cr(q:Int)(S:Wq)(k:Nat)(w:Wd):Bool:=
 decide (k=0↔w.length=0)&&decide (Bo w q=0)&&!((C0 (S.take k)).contains (A5 w))&&(decide (k=0)||(C0 (S.take k)).contains (A5 (w.take (w.length-1))))
def Mm(q:Int)(S:Wq):Bool:=((List.range S.length).all λj=>Cr q S j (S.getD j []))&&decide (0<S.length)
theorem e1g(w:Wd)(m:Nat):wdC (w.take m)=(wdC w).take m:=by simp[wdC,List.map_take]
theorem Ss(l:Wq)(w:Wd){k:Nat}(h:l.length=k):B2 ((C0 (l++[w])).zipIdx)=B2 ((C0 l).zipIdx++[(A5 w,k)]):=by
 unfold C0;rw[e6z,List.zipIdx_append,e6c,h];simp
theorem e1h(q c1 c4 c5:Int)(c3 c6:AV)(h3:oneC c3=true)(h6:oneC c6=true)(S:Wq)(hl:S.length<=1000000)(hw:∀w∈S,w.length<=1000000)(g:Gb)(n:Nat)(sv:AV)(b3:List AV)(b4:Af g n sv S.length b3)(D:RowsW g n S b3)(e7:∀q∈b3,Av q):
  WC 0 prog 88 [.agg [.li q,.li c1,sv,c3,.li c4,.li c5,c6]] ⟨.fn g,n⟩ λr=>r=.ret (.lit (.bool (Mm q S))) ⟨.fn g,n⟩:=by
 refine X0 rfl ?_;have j0:=@Au prog _ _ _ _ _ b4;have h9:=b4.one;have j1:allOne [.li q,.li c1,sv,c3,.li c4,.li c5,c6]=true:=by simp[h9,h3,h6]
 have HS:=Xr b4;have HR:=Xr D;have HW:=Xr hw;have i0:=Xr e7;clear b4 D hw e7;obtain⟨Z,b7⟩:∃b,b=Mm q S:=⟨_,rfl⟩;rw[<- b7];have e8:=Xr b7;clear b7;refine ent [] func88 ?_
 iterate 8 all_goals try first|apply spl<;>intro h|simp (disch:=first|assumption|omega|simp) [*]
 refine Xv (λm gf H'=>∃(k:Nat)(gL:Gb),k<=S.length/\m=S.length-k/\H'=⟨.fn gL,n+1+1⟩/\Aa (∀b,b<n->gL b=g b)/\gL n=some (.cells [.li q,.li c1,sv,c3,.li c4,.li c5,c6] true 0)/\gL (n+1)=some (.map (B2 ((C0 (S.take k)).zipIdx)) k) /\
  Aa (∀j,j<k->Cr q S j (S.getD j [])=true)/\gf 1=some (.ptr n 0)/\gf 3=some (.map (n+1))/\gf 8=some sv/\gf 9=some (.li S.length)/\gf 10=some (.li k)) (m0:=S.length) ?_ ?_
 .refine⟨0,_,W3 _,rfl,rfl,⟨λb f=>(Ad (by omega)).trans (Ad f)⟩,(Ad (by omega)).trans Ah,Ah,⟨λj hj=>by omega⟩,by simp[*]⟩
 rintro m gf H' ⟨k,gL,hk,rfl,rfl,A,b8,b9,e9,w1,w3,w8,w9,j2⟩ ih;refine rnd [] ?_;by_cases a4:k<S.length
 .have i1:(k:Int)<(S.length:Int):=by omega
  obtain⟨q1,b5,c0⟩:=HR.out.2 k a4;obtain⟨a2,off,g0,a0,c2⟩:=HS.out.ia (P:=prog) a4 1;simp only[Xk] at c2;have i2:k<b3.length:=(W8.1 b5).1;have c7:=(a0.mono (A.out a2 g0)).one (k:=k) (s:=1) i2;rw[(W8.1 b5).2] at c7;have g1:Al gL (n+1+1) S[k] q1:=Xw (by omega) (λa ha=>A.out a ha) c0;have g2:=@Au prog _ _ _ _ _ c0;have c8:S.getD k []=S[k]:=by rw[Xo,W5 a4];rfl
  have g3:S.take (k+1)=S.take k++[S[k]]:=by rw[e6w,W5 a4];rfl
  have g4:Cr q S k S[k]=false->Z=false:=λh=>by
   rw[e8.out];unfold Mm;rw[e8u];left;rw[e8p];exact⟨k,by simp[a4],by rw[c8,h];simp⟩
  have g5:Cr q S k S[k]=true->∀j,j<k+1->Cr q S j (S.getD j [])=true:=λh j hj=>by
   by_cases e:j=k
   .subst e;rw[c8];exact h
   .exact e9.out j (by omega)
  have i3:=HW.out _ (W2 a4);have g6:Av q1:=i0.out q1 (e5w b5);have i4:=Xr g6;clear g6;have b6:=Xr g1;have HT:=Xr g3;have HB:=Xr g4;have HN:=Xr g5;clear g3 a0 c0 g1 b5 g0 g4 g5 c8;generalize S[k]=w at *;have g7:=Xr (Sr (A5 w) (C0 (S.take k)) 0);have HC:=Xr (Vg w i3 q gL (n+1+1) q1 b6.out);have g8:¬(k=0↔w.length=0)->Z=false:=λh=>HB.out (by unfold Cr;rw[decide_eq_false h,e6g,e6g,e6g]);have g9:=Xr g8;clear g8;have h0:¬Bo w q=0->Z=false:=λh=>HB.out (by unfold Cr;rw[decide_eq_false h,e7d,e6g,e6g]);have h2:=Xr h0;clear h0;by_cases a5:k=0
  .subst a5;have j3:∀{H:Mem}{ev:Ev}{o:Oper}{t:TypeId},iaS prog H ev o t (some (none,1)) (some sv) (some (.li 0))=.val (.ptr a2 off) H:=λ{H ev o t}=>c2;have j4:Bf (some (false,1)) (gL a2) off=some q1:=c7;have j5:(0:Int)<(S.length:Int):=by omega
   clear c2 c7;by_cases c9:w.length=0
   .have e0:(w.length:Int)=0:=by omega
    iterate 8 all_goals try first|apply spl<;>intro h|simp (disch:=first|assumption|omega|simp) [*]
    refine Xs HC.out ?_;rintro _ rfl;by_cases Q:Bo w q=0
    .obtain⟨i5,a6⟩:=a5f Q;have a7:=Xr (Ps w (by omega) a6 gL (n+1+1) q1 b6.out);clear a6;have a9:Aa (Cr q S 0 w=true):=⟨by
      unfold Cr;rw[decide_eq_true (by omega:0=0↔w.length=0),decide_eq_true Q,decide_eq_true rfl];simp[C0]⟩
     rw[Q];have j6:gL (n+1)=some (Blk.map (B2 []) 0):=b9;have j7:Ey (A5 w) []=false:=rfl;clear b9
     iterate 8 all_goals try first|apply spl<;>intro h|simp (disch:=first|assumption|omega|simp) [*]
     refine Xs a7.out ?_;rintro _ rfl
     iterate 8 all_goals try first|apply spl<;>intro h|simp (disch:=first|assumption|omega|simp) [*]
     refine Xs a7.out ?_;rintro _ rfl
     iterate 8 all_goals try first|apply spl<;>intro h|simp (disch:=first|assumption|omega|simp) [*]
     refine ih.out (S.length-(0+1)) _ _ (by omega) ⟨0+1,_,by omega,rfl,rfl,⟨λb f=>(Ad (by omega)).trans (A.out b f)⟩,(Ad (by omega)).trans b8,?_,⟨HN.out a9.out⟩,by simp[*]⟩;rw[HT.out,Ss (k:=0) _ _ (by simp)];simp[C0]
    .have D:=h2.out Q
     iterate 8 all_goals try first|apply spl<;>intro h|simp (disch:=first|assumption|omega|simp) [*]
     exact⟨by show n<=n+1+1;omega,λb f=>A.out b f⟩
   .have e0:¬(w.length:Int)=0:=by omega
    have D:=g9.out (λh=>c9 (h.1 rfl))
    iterate 8 all_goals try first|apply spl<;>intro h|simp (disch:=first|assumption|omega|simp) [*]
    exact⟨by show n<=n+1+1;omega,λb f=>A.out b f⟩
  .by_cases c9:w.length=0
   .have i6:¬(k:Int)=0:=by omega
    have e0:(w.length:Int)=0:=by omega
    have D:=g9.out (λh=>a5 (h.2 c9))
    iterate 8 all_goals try first|apply spl<;>intro h|simp (disch:=first|assumption|omega|simp) [*]
    exact⟨by show n<=n+1+1;omega,λb f=>A.out b f⟩
   .have i6:¬(k:Int)=0:=by omega
    have j8:0<(k:Int):=by omega
    have e0:¬(w.length:Int)=0:=by omega
    have j9:0<w.length:=by omega
    iterate 8 all_goals try first|apply spl<;>intro h|simp (disch:=first|assumption|omega|simp) [*]
    refine Xs HC.out ?_;rintro _ rfl;by_cases Q:Bo w q=0
    .obtain⟨i5,a6⟩:=a5f Q;have a7:=Xr (Ps w (by omega) a6 gL (n+1+1) q1 b6.out);have i7:=Xr a6;clear a6;rw[Q]
     iterate 8 all_goals try first|apply spl<;>intro h|simp (disch:=first|assumption|omega|simp) [*]
     refine Xs a7.out ?_;rintro _ rfl;by_cases b0:(C0 (S.take k)).contains (A5 w)=true
     .have i8:=g7.out.trans b0;have D:Z=false:=HB.out (by unfold Cr;rw[b0,Bool.not_true,e7d,e6g]);clear b0
      iterate 8 all_goals try first|apply spl<;>intro h|simp (disch:=first|assumption|omega|simp) [*]
      exact⟨by show n<=n+1+1;omega,λb f=>A.out b f⟩
     have e1:(C0 (S.take k)).contains (A5 w)=false:=by simpa using b0
     have i8:=g7.out.trans e1;have h4:=Xr e1;clear b0 e1;obtain⟨m,hm⟩:∃m,w.length=m+1:=⟨w.length-1,by omega⟩;have k0:0<k:=by omega
     have h5:=Xr (show ∀(a off:Nat)(b1:AV),a<n+1+1->((∃c,b1=.sl a off m c)\/∃c,b1=.slq a off m c)->Row gL a off (wdC w)->WC 0 prog 52 [b1] ⟨.fn gL,n+1+1⟩ λr=>r=.ret (.lit (.string (A5 (w.take m)))) ⟨.fn gL,n+1+1⟩ from
      λa off b1 ha hs D=>Ps (w.take m) (by rw[Xa];omega) (λi hi=>i7.out i (e6p hi)) gL (n+1+1) b1 (.inr ⟨a,off,ha,by rw[Xa,e6i (by omega)];exact hs,by rw[e1g];exact D.takes m⟩))
     have a8:=Xr (Sr (A5 (w.take m)) (C0 (S.take k)) 0);have k1:=Xr @g2;have HE:=Xr Q;clear g2 Q;rcases b6.out with⟨h1,_⟩|⟨a,off,h7,⟨c,hq⟩|⟨c,hq⟩,a0⟩
     .omega
     .subst hq;have k2:=i4.out _ _ _ _ rfl;have k3:m<=c:=by omega
      have k4:0<c:=by omega
      have a1:=a7.out;rw[hm] at a1;have e5:=Xr a1;clear a1;have e6:=Xr (h5.out a off (.sl a off m c) h7 (.inl ⟨c,rfl⟩) a0);clear a0
      iterate 8 all_goals try first|apply spl<;>intro h|simp (disch:=first|assumption|omega|simp) [*]
      refine Xs e6.out ?_;rintro _ rfl;by_cases U:(C0 (S.take k)).contains (A5 (w.take m))=true
      .have b2:=a8.out.trans U;clear U
       iterate 8 all_goals try first|apply spl<;>intro h|simp (disch:=first|assumption|omega|simp) [*]
       refine Xs e5.out ?_;rintro _ rfl;have a9:Aa (Cr q S k w=true):=⟨by
        unfold Cr;rw[decide_eq_true (by omega:k=0↔w.length=0),decide_eq_true HE.out,h4.out,decide_eq_false a5,show w.length-1=m by omega,(a8.out.symm.trans b2)];rfl⟩
       iterate 8 all_goals try first|apply spl<;>intro h|simp (disch:=first|assumption|omega|simp) [*]
       refine ih.out (S.length-(k+1)) _ _ (by omega) ⟨k+1,_,by omega,rfl,rfl,⟨λb f=>(Ad (by omega)).trans (A.out b f)⟩,(Ad (by omega)).trans b8,?_,⟨HN.out a9.out⟩,by simp[*]⟩;rw[HT.out,Ss (k:=k) _ _ (by rw[Xa];omega)];simp[e6i hk]
      .have a3:(C0 (S.take k)).contains (A5 (w.take m))=false:=by simpa using U
       have b2:=a8.out.trans a3;have D:Z=false:=HB.out (by unfold Cr;rw[show w.length-1=m by omega,a3,e7y,decide_eq_false a5,e7d]);clear U a3
       iterate 8 all_goals try first|apply spl<;>intro h|simp (disch:=first|assumption|omega|simp) [*]
       exact⟨by show n<=n+1+1;omega,λb f=>A.out b f⟩
     .subst hq;have a1:=a7.out;rw[hm] at a1;have e5:=Xr a1;clear a1;have e6:=Xr (h5.out a off (.slq a off m c) h7 (.inr ⟨c,rfl⟩) a0);clear a0
      iterate 8 all_goals try first|apply spl<;>intro h|simp (disch:=first|assumption|omega|simp) [*]
      refine Xs e6.out ?_;rintro _ rfl;by_cases U:(C0 (S.take k)).contains (A5 (w.take m))=true
      .have b2:=a8.out.trans U;clear U
       iterate 8 all_goals try first|apply spl<;>intro h|simp (disch:=first|assumption|omega|simp) [*]
       refine Xs e5.out ?_;rintro _ rfl;have a9:Aa (Cr q S k w=true):=⟨by
        unfold Cr;rw[decide_eq_true (by omega:k=0↔w.length=0),decide_eq_true HE.out,h4.out,decide_eq_false a5,show w.length-1=m by omega,(a8.out.symm.trans b2)];rfl⟩
       iterate 8 all_goals try first|apply spl<;>intro h|simp (disch:=first|assumption|omega|simp) [*]
       refine ih.out (S.length-(k+1)) _ _ (by omega) ⟨k+1,_,by omega,rfl,rfl,⟨λb f=>(Ad (by omega)).trans (A.out b f)⟩,(Ad (by omega)).trans b8,?_,⟨HN.out a9.out⟩,by simp[*]⟩;rw[HT.out,Ss (k:=k) _ _ (by rw[Xa];omega)];simp[e6i hk]
      .have a3:(C0 (S.take k)).contains (A5 (w.take m))=false:=by simpa using U
       have b2:=a8.out.trans a3;have D:Z=false:=HB.out (by unfold Cr;rw[show w.length-1=m by omega,a3,e7y,decide_eq_false a5,e7d]);clear U a3
       iterate 8 all_goals try first|apply spl<;>intro h|simp (disch:=first|assumption|omega|simp) [*]
       exact⟨by show n<=n+1+1;omega,λb f=>A.out b f⟩
    .have D:=h2.out Q
     iterate 8 all_goals try first|apply spl<;>intro h|simp (disch:=first|assumption|omega|simp) [*]
     exact⟨by show n<=n+1+1;omega,λb f=>A.out b f⟩
 .have i1:¬(k:Int)<(S.length:Int):=by omega
  have i9:k=S.length:=by omega
  have h8:((List.range S.length).all λj=>Cr q S j (S.getD j []))=true:=by
   rw[W7];intro j hj;exact e9.out j (by rw[i9];simpa using hj)
  have k5:Z=decide (0<S.length):=by rw[e8.out];unfold Mm;rw[h8,e7o]
  clear b9 h8
  iterate 8 all_goals try first|apply spl<;>intro h|simp (disch:=first|assumption|omega|simp) [*]
  all_goals first|exact λb f=>A.out b f|exact⟨by show n<=n+1+1;omega,λb f=>A.out b f⟩|(show n<=n+1+1;omega)
def C8(q:Int)(S:Wq)(k:Nat)(w:Wd):Bool:=
 decide (w.length≠0)&&decide (Bo w q=0)&&!((C0 (S.take k)).contains (A5 w))&&(decide (q<=(k:Int))||decide (w=[(k:Int)]))
def Mn(q:Int)(S:Wq):Bool:=((List.range S.length).all λj=>C8 q S j (S.getD j []))&&decide (q<=(S.length:Int))
theorem e1i(q c1 c4 c5:Int)(c2 c6:AV)(h2:oneC c2=true)(h6:oneC c6=true)(S:Wq)(hl:S.length<=1000000)(hw:∀w∈S,w.length<=1000000)(g:Gb)(n:Nat)(sv:AV)(a5:List AV)(a4:Af g n sv S.length a5)(D:RowsW g n S a5):
  WC 0 prog 89 [.agg [.li q,.li c1,c2,sv,.li c4,.li c5,c6]] ⟨.fn g,n⟩ λr=>r=.ret (.lit (.bool (Mn q S))) ⟨.fn g,n⟩:=by
 refine X0 rfl ?_;have h5:=@Au prog _ _ _ _ _ a4;have g1:=a4.one;have h7:allOne [.li q,.li c1,c2,sv,.li c4,.li c5,c6]=true:=by simp[g1,h2,h6]
 have HS:=Xr a4;have HR:=Xr D;have HW:=Xr hw;clear a4 D hw;obtain⟨Q,a6⟩:∃b,b=Mn q S:=⟨_,rfl⟩;rw[<- a6];have b4:=Xr a6;clear a6;refine ent [] func89 ?_
 iterate 8 all_goals try first|apply spl<;>intro h|simp (disch:=first|assumption|omega|simp) [*]
 refine Xv (λm U H'=>∃(k:Nat)(gL:Gb),k<=S.length/\m=S.length-k/\H'=⟨.fn gL,n+1+1⟩/\Aa (∀b,b<n->gL b=g b)/\gL n=some (.cells [.li q,.li c1,c2,sv,.li c4,.li c5,c6] true 0)/\gL (n+1)=some (.map (B2 ((C0 (S.take k)).zipIdx)) k) /\
  Aa (∀j,j<k->C8 q S j (S.getD j [])=true)/\U 1=some (.ptr n 0)/\U 3=some (.map (n+1))/\U 8=some sv/\U 9=some (.li S.length)/\U 10=some (.li k)) (m0:=S.length) ?_ ?_
 .refine⟨0,_,W3 _,rfl,rfl,⟨λb f=>(Ad (by omega)).trans (Ad f)⟩,(Ad (by omega)).trans Ah,Ah,⟨λj hj=>by omega⟩,by simp[*]⟩
 rintro m U H' ⟨k,gL,hk,rfl,rfl,A,b5,g2,b6,w1,w3,w8,w9,h8⟩ ih;refine rnd [] ?_;by_cases Z:k<S.length
 .have g3:(k:Int)<(S.length:Int):=by omega
  obtain⟨q1,a0,a7⟩:=HR.out.2 k Z;obtain⟨a2,off,b7,b8,g4⟩:=HS.out.ia (P:=prog) Z 1;simp only[Xk] at g4;have g5:k<a5.length:=(W8.1 a0).1;have g6:=(b8.mono (A.out a2 b7)).one (k:=k) (s:=1) g5;rw[(W8.1 a0).2] at g6;have b9:Al gL (n+1+1) S[k] q1:=Xw (by omega) (λa ha=>A.out a ha) a7;have h9:=@Au prog _ _ _ _ _ a7;have a8:S.getD k []=S[k]:=by rw[Xo,W5 Z];rfl
  have c0:S.take (k+1)=S.take k++[S[k]]:=by rw[e6w,W5 Z];rfl
  have c7:C8 q S k S[k]=false->Q=false:=λh=>by
   rw[b4.out];unfold Mn;rw[e8u];left;rw[e8p];exact⟨k,by simp[Z],by rw[a8,h];simp⟩
  have c8:C8 q S k S[k]=true->∀j,j<k+1->C8 q S j (S.getD j [])=true:=λh j hj=>by
   by_cases e:j=k
   .subst e;rw[a8];exact h
   .exact b6.out j (by omega)
  have g7:=HW.out _ (W2 Z);have a9:=Xr b9;have HT:=Xr c0;have HB:=Xr c7;have HN:=Xr c8;clear c0 b8 a7 b9 a0 b7 c7 c8 a8;generalize S[k]=w at *;have c9:=Xr (Sr (A5 w) (C0 (S.take k)) 0);have HC:=Xr (Vg w g7 q gL (n+1+1) q1 a9.out);by_cases i0:w.length=0
  .have g8:(w.length:Int)=0:=by omega
   have D:Q=false:=HB.out (by unfold C8;rw[decide_eq_false (by omega:¬w.length≠0),e6g,e6g,e6g])
   iterate 8 all_goals try first|apply spl<;>intro h|simp (disch:=first|assumption|omega|simp) [*]
   exact⟨by show n<=n+1+1;omega,λb f=>A.out b f⟩
  have g8:¬(w.length:Int)=0:=by omega
  iterate 8 all_goals try first|apply spl<;>intro h|simp (disch:=first|assumption|omega|simp) [*]
  refine Xs HC.out ?_;rintro _ rfl;by_cases he:Bo w q=0
  .obtain⟨i1,e0⟩:=a5f he;have b0:=Xr (Ps w (by omega) e0 gL (n+1+1) q1 a9.out);clear e0;rw[he]
   iterate 8 all_goals try first|apply spl<;>intro h|simp (disch:=first|assumption|omega|simp) [*]
   refine Xs b0.out ?_;rintro _ rfl;by_cases a1:(C0 (S.take k)).contains (A5 w)=true
   .have g9:=c9.out.trans a1;have D:Q=false:=HB.out (by unfold C8;rw[a1,Bool.not_true,e7d,e6g]);clear a1
    iterate 8 all_goals try first|apply spl<;>intro h|simp (disch:=first|assumption|omega|simp) [*]
    exact⟨by show n<=n+1+1;omega,λb f=>A.out b f⟩
   have b1:(C0 (S.take k)).contains (A5 w)=false:=by simpa using a1
   have g9:=c9.out.trans b1;have e1:=Xr b1;have HE:=Xr he;clear a1 b1 he;by_cases b2:q<=(k:Int)
   .have h0:¬(k:Int)<q:=by omega
    have b3:Aa (C8 q S k w=true):=⟨by
     unfold C8;rw[decide_eq_true (by omega:w.length≠0),decide_eq_true HE.out,e1.out,decide_eq_true b2];rfl⟩
    iterate 8 all_goals try first|apply spl<;>intro h|simp (disch:=first|assumption|omega|simp) [*]
    refine Xs b0.out ?_;rintro _ rfl
    iterate 8 all_goals try first|apply spl<;>intro h|simp (disch:=first|assumption|omega|simp) [*]
    refine ih.out (S.length-(k+1)) _ _ (by omega) ⟨k+1,_,by omega,rfl,rfl,⟨λb f=>(Ad (by omega)).trans (A.out b f)⟩,(Ad (by omega)).trans b5,?_,⟨HN.out b3.out⟩,by simp[*]⟩;rw[HT.out,Ss (k:=k) _ _ (by rw[Xa];omega)];simp[e6i hk]
   .have h0:(k:Int)<q:=by omega
    by_cases a0:w.length=1
    .obtain⟨x,rfl⟩:∃x,w=[x]:=List.length_eq_one_iff.1 a0;obtain⟨a3,h1,h3,e5,e6⟩:=X4 (P:=prog) a9.out (k:=0) (by simp) 1;have e7:=e5.one (k:=0) (s:=1) (by simp[wdC]);have e8:(wdC [x])[0]'(by simp[wdC])=.li x:=rfl;rw[e8] at e7;clear e8 e5 h3;have i2:∀{H:Mem}{ev:Ev}{o:Oper}{t:TypeId},iaS prog H ev o t (some (none,1)) (some q1) (some (.li 0))=.val (.ptr a3 h1) H:=λ{H ev o t}=>e6;clear e6;simp only[Nat.add_zero,Nat.zero_mul] at e7;by_cases e9:x=(k:Int)
     .subst e9;have b3:Aa (C8 q S k [(k:Int)]=true):=⟨by
       unfold C8;rw[decide_eq_true (by simp:([(k:Int)]:Wd).length≠0),decide_eq_true HE.out,e1.out,decide_eq_true (rfl:[(k:Int)]=[(k:Int)]),e9j];rfl⟩
      iterate 8 all_goals try first|apply spl<;>intro h|simp (disch:=first|assumption|omega|simp) [*]
      refine Xs b0.out ?_;rintro _ rfl
      iterate 8 all_goals try first|apply spl<;>intro h|simp (disch:=first|assumption|omega|simp) [*]
      refine ih.out (S.length-(k+1)) _ _ (by omega) ⟨k+1,_,by omega,rfl,rfl,⟨λb f=>(Ad (by omega)).trans (A.out b f)⟩,(Ad (by omega)).trans b5,?_,⟨HN.out b3.out⟩,by simp[*]⟩;rw[HT.out,Ss (k:=k) _ _ (by rw[Xa];omega)];simp[e6i hk]
     .have D:Q=false:=HB.out (by unfold C8;rw[decide_eq_false b2,decide_eq_false (by simpa using e9:¬[x]=[(k:Int)]),e7y,e7d])
      iterate 8 all_goals try first|apply spl<;>intro h|simp (disch:=first|assumption|omega|simp) [*]
      exact⟨by show n<=n+1+1;omega,λb f=>A.out b f⟩
    .have i3:¬(w.length:Int)=1:=by omega
     have D:Q=false:=HB.out (by unfold C8;rw[decide_eq_false b2,decide_eq_false (λe=>a0 (by rw[e];rfl):¬w=[(k:Int)]),e7y,e7d])
     iterate 8 all_goals try first|apply spl<;>intro h|simp (disch:=first|assumption|omega|simp) [*]
     exact⟨by show n<=n+1+1;omega,λb f=>A.out b f⟩
  .have D:Q=false:=HB.out (by unfold C8;rw[decide_eq_false he,e7d,e6g,e6g])
   iterate 8 all_goals try first|apply spl<;>intro h|simp (disch:=first|assumption|omega|simp) [*]
   exact⟨by show n<=n+1+1;omega,λb f=>A.out b f⟩
 .have g3:¬(k:Int)<(S.length:Int):=by omega
  have h4:k=S.length:=by omega
  have g0:((List.range S.length).all λj=>C8 q S j (S.getD j []))=true:=by
   rw[W7];intro j hj;exact b6.out j (by rw[h4];simpa using hj)
  have i4:Q=decide (q<=(S.length:Int)):=by rw[b4.out];unfold Mn;rw[g0,e7o]
  clear g2 g0
  iterate 8 all_goals try first|apply spl<;>intro h|simp (disch:=first|assumption|omega|simp) [*]
  all_goals first|exact λb f=>A.out b f|exact⟨by show n<=n+1+1;omega,λb f=>A.out b f⟩|(show n<=n+1+1;omega)
def F8(S E:Wq):Int:=if S.length > 64\/E.length > 256\/longM S+1+longM E > 256 then 3 else 0
theorem a5g(q c1 c4 c5:Int)(c6:AV)(h6:oneC c6=true)(S E:Wq)(hl:S.length<=1000000)(hw:∀w∈S,w.length<=1000000)(a8:E.length<=1000000)(a2:∀w∈E,w.length<=1000000)(g:Gb)(n:Nat)(sv U:AV)(a3 a4:List AV)(Z:Af g n sv S.length a3)(A:RowsW g n S a3)(a0:Af g n U E.length a4)(a5:RowsW g n E a4):
  WC 0 prog 90 [.agg [.li q,.li c1,sv,U,.li c4,.li c5,c6]] ⟨.fn g,n⟩ λr=>r=.ret (.li (F8 S E)) ⟨.fn g,n⟩:=by
 refine X0 rfl ?_;have b2:=@Au prog _ _ _ _ _ Z;have b3:=@Au prog _ _ _ _ _ a0;have b4:=Z.one;have b5:=a0.one;have b6:allOne [.li q,.li c1,sv,U,.li c4,.li c5,c6]=true:=by simp_all
 have a6:=λg' (Q:∀b,b<n->g' b=g b)=>Vu S hl hw g' (n+1) sv a3 (Xw (by omega) (λa h=>Q a h) Z) (A.ext (by omega) λa x h hx=>(Q a h).trans hx);have a7:=λg' (Q:∀b,b<n->g' b=g b)=>Vu E a8 a2 g' (n+1) U a4 (Xw (by omega) (λa h=>Q a h) a0) (a5.ext (by omega) λa x h hx=>(Q a h).trans hx);have HA:=Xr a6;have HB:=Xr a7;have b7:longM S<=1000000:=Rj hw;have b8:longM E<=1000000:=Rj a2;clear Z A a0 a5 hw a2 a6 a7;obtain⟨a1,D⟩:∃b,b=F8 S E:=⟨_,rfl⟩;rw[<- D];unfold F8 at D;generalize hS:longM S=ls at *;generalize hE:longM E=le at *;by_cases t1:S.length > 64
 .have a9:64<(S.length:Int):=by omega
  have A:a1=3:=by grind
  clear D;refine ent pl90 func90 ?_;simp (disch:=first|omega|simp) [*]
  all_goals exact⟨W4 n,λb f=>Ad f⟩
 have a9:¬64<(S.length:Int):=by omega
 by_cases t2:E.length > 256
 .have b0:256<(E.length:Int):=by omega
  have A:a1=3:=by grind
  clear D;refine ent pl90 func90 ?_;simp (disch:=first|omega|simp) [*]
  all_goals exact⟨W4 n,λb f=>Ad f⟩
 have b0:¬256<(E.length:Int):=by omega
 by_cases t3:ls+1+le > 256
 .have b1:256<(ls:Int)+1+(le:Int):=by omega
  have A:a1=3:=by grind
  clear D;refine ent pl90 func90 ?_;simp (disch:=first|omega|simp) [*];refine Xs (HA.out _ λb f=>Ad f) ?_;rintro _ rfl;simp (disch:=first|omega|simp) [*];refine Xs (HB.out _ λb f=>Ad f) ?_;rintro _ rfl;simp (disch:=first|omega|simp) [*]
  all_goals exact⟨W4 n,λb f=>Ad f⟩
 have b1:¬256<(ls:Int)+1+(le:Int):=by omega
 have A:a1=0:=by grind
 clear D;refine ent pl90 func90 ?_;simp (disch:=first|omega|simp) [*];refine Xs (HA.out _ λb f=>Ad f) ?_;rintro _ rfl;simp (disch:=first|omega|simp) [*];refine Xs (HB.out _ λb f=>Ad f) ?_;rintro _ rfl;simp (disch:=first|omega|simp) [*]
 all_goals exact⟨W4 n,λb f=>Ad f⟩
def N4(q O:Int)(S E:Wq)(I2 O2:Int)(T:Tq):Int:=
 if q > 16\/O > 16\/S.length > 64\/E.length > 256\/longM S > 256\/longM E > 256 then 3
 else if q<1\/O<1\/Mm q S=false\/Mn q E=false then 1
 else if F8 S E≠0 then F8 S E
 else if D5 I2 O2 T≠0 then D5 I2 O2 T
 else if I2≠q\/O2≠O then 5 else 0
structure Pt (g:Gb) (n:Nat) (l:Wq) (sv:AV):Prop where
 len:l.length<=1000000
 words:∀w∈l,w.length<=1000000
 ex:∃svs,Af g n sv l.length svs/\RowsW g n l svs/\∀q∈svs,Av q
structure Vv (g:Gb) (n:Nat) (T:Tq) (sv:AV):Prop where
 len:T.length<=1000000
 rows:∀r∈T,r.length<=1000000
 ex:∃svs,Af g n sv T.length svs/\RowsK g n T svs
theorem Pt.mono{g:Gb}{n n': Nat}{l:Wq}{sv:AV}(h:Pt g n l sv)(f:n<=n')(A:∀a,a<n->g' a=g a):Pt g' n' l sv:=
 ⟨h.len,h.words,let ⟨D,Q,U,Z⟩:=h.ex;⟨D,Q.mono f A,U.ext f λa x ha hx=>(A a ha).trans hx,Z⟩⟩
theorem Vv.mono{g:Gb}{n n': Nat}{l:Tq}{sv:AV}(h:Vv g n l sv)(f:n<=n')(A:∀a,a<n->g' a=g a):Vv g' n' l sv:=
 ⟨h.len,h.rows,let ⟨D,Q,U⟩:=h.ex;⟨D,Q.mono f A,U.ext f λa x Z hx=>(A a Z).trans hx⟩⟩
theorem b5g(q O I2 O2:Int)(S E:Wq)(T:Tq)(g:Gb)(n:Nat)(sv se st:AV)(hS:Pt g n S sv)(hE:Pt g n E se)(hT:Vv g n T st):
  WC 0 prog 37 [.agg [.li q,.li O,sv,se,.li I2,.li O2,st]] ⟨.fn g,n⟩ λr=>r=.ret (.li (N4 q O S E I2 O2 T)) ⟨.fn g,n⟩:=by
 refine X0 rfl ?_;obtain⟨a5,a0,a2,a9⟩:=hS.ex;obtain⟨a6,a1,a3,b3⟩:=hE.ex;obtain⟨b4,a7,b0⟩:=hT.ex;have c1:=@Au prog _ _ _ _ _ a0;have c2:=@Au prog _ _ _ _ _ a1;have b1:=a0.one;have b2:=a1.one;have a4:=a7.one;have c6:allOne [.li q,.li O,sv,se,.li I2,.li O2,st]=true:=by simp[b1,b2,a4]
 have HG:=λ(g' : Gb)(A:∀b,b<n->g' b=g b)(a:Nat)(x:Blk)(ha:a<n) (hx:g a=some x)=>(A a ha).trans hx;have U:=Xr λg' (A:∀b,b<n->g' b=g b)=>Vu S hS.len hS.words g' (n+1) sv a5 (a0.mono (by omega) A) (a2.ext (by omega) (HG g' A));have Z:=Xr λg' (A:∀b,b<n->g' b=g b)=>Vu E hE.len hE.words g' (n+1) se a6 (a1.mono (by omega) A) (a3.ext (by omega) (HG g' A));have HC:=Xr λg' (A:∀b,b<n->g' b=g b)=>e1h q O I2 O2 se st b2 a4 S hS.len hS.words g' (n+1) sv a5 (a0.mono (by omega) A) (a2.ext (by omega) (HG g' A)) a9;have HD:=Xr λg' (A:∀b,b<n->g' b=g b)=>e1i q O I2 O2 sv st b1 a4 E hE.len hE.words g' (n+1) se a6 (a1.mono (by omega) A) (a3.ext (by omega) (HG g' A));have HE:=Xr λg' (A:∀b,b<n->g' b=g b)=>a5g q O I2 O2 st a4 S E hS.len hS.words hE.len hE.words g' (n+1) sv se a5 a6 (a0.mono (by omega) A) (a2.ext (by omega) (HG g' A)) (a1.mono (by omega) A) (a3.ext (by omega) (HG g' A));have HF:=Xr λg' (A:∀b,b<n->g' b=g b)=>b4v I2 O2 T hT.len hT.rows g' (n+1) st b4 (a7.mono (by omega) A) (b0.ext (by omega) (HG g' A));have c7:longM S<=1000000:=Rj hS.words;have c8:longM E<=1000000:=Rj hE.words;clear a0 a2 a9 a1 a3 b3 a7 b0 hS hE hT HG;obtain⟨Q,h⟩:∃b,b=N4 q O S E I2 O2 T:=⟨_,rfl⟩;rw[<- h];unfold N4 at h;generalize longM S=ls at *;generalize longM E=le at *;generalize Mm q S=ba at *;generalize Mn q E=bs at *;generalize F8 S E=li at *;generalize D5 I2 O2 T=te at *;by_cases t1:q > 16
 .have D:Q=3:=by rw[h,if_pos (.inl t1)]
  clear h;refine ent [] func37 ?_;simp (disch:=first|omega|simp) [*]
  all_goals exact⟨W4 n,λb f=>Ad f⟩
 by_cases t2:O > 16
 .have D:Q=3:=by rw[h,if_pos (.inr (.inl t2))]
  clear h;refine ent [] func37 ?_;simp (disch:=first|omega|simp) [*]
  all_goals exact⟨W4 n,λb f=>Ad f⟩
 by_cases t3:S.length > 64
 .have D:Q=3:=by rw[h,if_pos (.inr (.inr (.inl t3)))]
  have b5:64<(S.length:Int):=by omega
  clear h;refine ent [] func37 ?_;simp (disch:=first|omega|simp) [*]
  all_goals exact⟨W4 n,λb f=>Ad f⟩
 have b5:¬64<(S.length:Int):=by omega
 by_cases t4:E.length > 256
 .have D:Q=3:=by rw[h,if_pos (.inr (.inr (.inr (.inl t4))))]
  have b6:256<(E.length:Int):=by omega
  clear h;refine ent [] func37 ?_;simp (disch:=first|omega|simp) [*]
  all_goals exact⟨W4 n,λb f=>Ad f⟩
 have b6:¬256<(E.length:Int):=by omega
 by_cases t5:ls > 256
 .have D:Q=3:=by rw[h,if_pos (.inr (.inr (.inr (.inr (.inl t5)))))]
  have b7:256<(ls:Int):=by omega
  clear h;refine ent [] func37 ?_;simp (disch:=first|omega|simp) [*];refine Xs (U.out _ λb f=>Ad f) ?_;rintro _ rfl;simp (disch:=first|omega|simp) [*]
  all_goals exact⟨W4 n,λb f=>Ad f⟩
 have b7:¬256<(ls:Int):=by omega
 by_cases t6:le > 256
 .have D:Q=3:=by rw[h,if_pos (.inr (.inr (.inr (.inr (.inr t6)))))]
  have b8:256<(le:Int):=by omega
  clear h;refine ent [] func37 ?_;simp (disch:=first|omega|simp) [*];refine Xs (U.out _ λb f=>Ad f) ?_;rintro _ rfl;simp (disch:=first|omega|simp) [*];refine Xs (Z.out _ λb f=>Ad f) ?_;rintro _ rfl;simp (disch:=first|omega|simp) [*]
  all_goals exact⟨W4 n,λb f=>Ad f⟩
 have b8:¬256<(le:Int):=by omega
 rw[if_neg (by omega)] at h;by_cases t7:q<1
 .have D:Q=1:=by rw[h,if_pos (.inl t7)]
  clear h;refine ent [] func37 ?_;simp (disch:=first|omega|simp) [*];refine Xs (U.out _ λb f=>Ad f) ?_;rintro _ rfl;simp (disch:=first|omega|simp) [*];refine Xs (Z.out _ λb f=>Ad f) ?_;rintro _ rfl;simp (disch:=first|omega|simp) [*]
  all_goals exact⟨W4 n,λb f=>Ad f⟩
 by_cases t8:O<1
 .have D:Q=1:=by rw[h,if_pos (.inr (.inl t8))]
  clear h;refine ent [] func37 ?_;simp (disch:=first|omega|simp) [*];refine Xs (U.out _ λb f=>Ad f) ?_;rintro _ rfl;simp (disch:=first|omega|simp) [*];refine Xs (Z.out _ λb f=>Ad f) ?_;rintro _ rfl;simp (disch:=first|omega|simp) [*]
  all_goals exact⟨W4 n,λb f=>Ad f⟩
 by_cases t9:ba=false
 .have D:Q=1:=by rw[h,if_pos (.inr (.inr (.inl t9)))]
  subst t9;clear h;refine ent [] func37 ?_;simp (disch:=first|omega|simp) [*];refine Xs (U.out _ λb f=>Ad f) ?_;rintro _ rfl;simp (disch:=first|omega|simp) [*];refine Xs (Z.out _ λb f=>Ad f) ?_;rintro _ rfl;simp (disch:=first|omega|simp) [*];refine Xs (HC.out _ λb f=>Ad f) ?_;rintro _ rfl;simp (disch:=first|omega|simp) [*]
  all_goals exact⟨W4 n,λb f=>Ad f⟩
 have b9:ba=true:=by simpa using t9
 subst b9;clear t9;by_cases t10:bs=false
 .have D:Q=1:=by rw[h,if_pos (.inr (.inr (.inr t10)))]
  subst t10;clear h;refine ent [] func37 ?_;simp (disch:=first|omega|simp) [*];refine Xs (U.out _ λb f=>Ad f) ?_;rintro _ rfl;simp (disch:=first|omega|simp) [*];refine Xs (Z.out _ λb f=>Ad f) ?_;rintro _ rfl;simp (disch:=first|omega|simp) [*];refine Xs (HC.out _ λb f=>Ad f) ?_;rintro _ rfl;simp (disch:=first|omega|simp) [*];refine Xs (HD.out _ λb f=>Ad f) ?_;rintro _ rfl;simp (disch:=first|omega|simp) [*]
  all_goals exact⟨W4 n,λb f=>Ad f⟩
 have c0:bs=true:=by simpa using t10
 subst c0;clear t10;rw[if_neg (by simp;omega)] at h;by_cases t11:li=0
 .have D:Q=if te≠0 then te else if I2≠q\/O2≠O then 5 else 0:=by rw[h,if_neg (by omega)]
  subst t11;clear h;by_cases t12:te=0
  .subst t12;rw[if_neg (by omega)] at D;by_cases t13:I2=q
   .subst t13;by_cases t14:O2=O
    .subst t14;have a8:Q=0:=by rw[D,if_neg (by omega)]
     clear D;refine ent [] func37 ?_;simp (disch:=first|omega|simp) [*];refine Xs (U.out _ λb f=>Ad f) ?_;rintro _ rfl;simp (disch:=first|omega|simp) [*];refine Xs (Z.out _ λb f=>Ad f) ?_;rintro _ rfl;simp (disch:=first|omega|simp) [*];refine Xs (HC.out _ λb f=>Ad f) ?_;rintro _ rfl;simp (disch:=first|omega|simp) [*];refine Xs (HD.out _ λb f=>Ad f) ?_;rintro _ rfl;simp (disch:=first|omega|simp) [*];refine Xs (HE.out _ λb f=>Ad f) ?_;rintro _ rfl;simp (disch:=first|omega|simp) [*];refine Xs (HF.out _ λb f=>Ad f) ?_;rintro _ rfl;simp (disch:=first|omega|simp) [*]
     all_goals exact⟨W4 n,λb f=>Ad f⟩
    .have a8:Q=5:=by rw[D,if_pos (.inr t14)]
     clear D;refine ent [] func37 ?_;simp (disch:=first|omega|simp) [*];refine Xs (U.out _ λb f=>Ad f) ?_;rintro _ rfl;simp (disch:=first|omega|simp) [*];refine Xs (Z.out _ λb f=>Ad f) ?_;rintro _ rfl;simp (disch:=first|omega|simp) [*];refine Xs (HC.out _ λb f=>Ad f) ?_;rintro _ rfl;simp (disch:=first|omega|simp) [*];refine Xs (HD.out _ λb f=>Ad f) ?_;rintro _ rfl;simp (disch:=first|omega|simp) [*];refine Xs (HE.out _ λb f=>Ad f) ?_;rintro _ rfl;simp (disch:=first|omega|simp) [*];refine Xs (HF.out _ λb f=>Ad f) ?_;rintro _ rfl;simp (disch:=first|omega|simp) [*]
     all_goals exact⟨W4 n,λb f=>Ad f⟩
   .have a8:Q=5:=by rw[D,if_pos (.inl t13)]
    clear D;refine ent [] func37 ?_;simp (disch:=first|omega|simp) [*];refine Xs (U.out _ λb f=>Ad f) ?_;rintro _ rfl;simp (disch:=first|omega|simp) [*];refine Xs (Z.out _ λb f=>Ad f) ?_;rintro _ rfl;simp (disch:=first|omega|simp) [*];refine Xs (HC.out _ λb f=>Ad f) ?_;rintro _ rfl;simp (disch:=first|omega|simp) [*];refine Xs (HD.out _ λb f=>Ad f) ?_;rintro _ rfl;simp (disch:=first|omega|simp) [*];refine Xs (HE.out _ λb f=>Ad f) ?_;rintro _ rfl;simp (disch:=first|omega|simp) [*];refine Xs (HF.out _ λb f=>Ad f) ?_;rintro _ rfl;simp (disch:=first|omega|simp) [*]
    all_goals exact⟨W4 n,λb f=>Ad f⟩
  .have a8:Q=te:=by rw[D,if_pos t12]
   clear D;refine ent [] func37 ?_;simp (disch:=first|omega|simp) [*];refine Xs (U.out _ λb f=>Ad f) ?_;rintro _ rfl;simp (disch:=first|omega|simp) [*];refine Xs (Z.out _ λb f=>Ad f) ?_;rintro _ rfl;simp (disch:=first|omega|simp) [*];refine Xs (HC.out _ λb f=>Ad f) ?_;rintro _ rfl;simp (disch:=first|omega|simp) [*];refine Xs (HD.out _ λb f=>Ad f) ?_;rintro _ rfl;simp (disch:=first|omega|simp) [*];refine Xs (HE.out _ λb f=>Ad f) ?_;rintro _ rfl;simp (disch:=first|omega|simp) [*];refine Xs (HF.out _ λb f=>Ad f) ?_;rintro _ rfl;simp (disch:=first|omega|simp) [*]
   all_goals exact⟨W4 n,λb f=>Ad f⟩
 .have D:Q=li:=by rw[h,if_pos t11]
  clear h;refine ent [] func37 ?_;simp (disch:=first|omega|simp) [*];refine Xs (U.out _ λb f=>Ad f) ?_;rintro _ rfl;simp (disch:=first|omega|simp) [*];refine Xs (Z.out _ λb f=>Ad f) ?_;rintro _ rfl;simp (disch:=first|omega|simp) [*];refine Xs (HC.out _ λb f=>Ad f) ?_;rintro _ rfl;simp (disch:=first|omega|simp) [*];refine Xs (HD.out _ λb f=>Ad f) ?_;rintro _ rfl;simp (disch:=first|omega|simp) [*];refine Xs (HE.out _ λb f=>Ad f) ?_;rintro _ rfl;simp (disch:=first|omega|simp) [*]
  all_goals exact⟨W4 n,λb f=>Ad f⟩
theorem keyB_inj:∀{w v:Wd},(∀i∈w,0<=i/\i<16)->(∀i∈v,0<=i/\i<16)->Fl w=Fl v->w=v
 | [],[],_,_,_=>rfl
 | [],_::_,_,_,h=>by grind[Fl]
 | _::_,[],_,_,h=>by grind[Fl]
 | x::w,y::v,f,A,h=>by
  have D:UInt8.ofNat (x+1).toNat::Fl w=UInt8.ofNat (y+1).toNat::Fl v:=h;injection D with Q U;have hx:=f x (by simp);have hy:=A y (by simp);have Z:(UInt8.ofNat (x+1).toNat).toNat=(UInt8.ofNat (y+1).toNat).toNat:=by rw[Q]
  rw[UInt8.toNat_ofNat',UInt8.toNat_ofNat',e8i (by omega),e8i (by omega)] at Z;have:x=y:=by omega
  rw[this,keyB_inj (λi hi=>f i (by simp[hi])) (λi hi=>A i (by simp[hi])) U]
theorem b5h{w v:Wd}(f:∀i∈w,0<=i/\i<16)(A:∀i∈v,0<=i/\i<16)(h:A5 w=A5 v):w=v:=by
 grind[keyB_inj,A5]
theorem b5i{l:Wq}{w:Wd}(A:∀v∈l,∀i∈v,0<=i/\i<16)(D:∀i∈w,0<=i/\i<16):(C0 l).contains (A5 w)=decide (w∈l):=by
 haveI:=ba_lawful
 by_cases h:w∈l
 .rw[decide_eq_true h,List.contains_iff_mem];exact Xc.2 ⟨w,h,rfl⟩
 .rw[decide_eq_false h]
  cases Q:(C0 l).contains (A5 w) with
  | false=>rfl
  | true =>
   obtain⟨v,f,U⟩:=Xc.1 (List.contains_iff_mem.1 Q);exact absurd (b5h (A v f) D U ▸ f) h
theorem Vw{w:Wd}{q:Int}(f:¬q > 16)(h:¬q<1)(A:w.length<=256):Bo w q=0↔inW w q=true:=by
 simp_all[Bo,if_neg]
def Mo(q:Int)(S:Wq)(k:Nat)(w:Wd):Bool:=
 decide (w.length≠0)&&inW w q&&!(decide (w∈S.take k))&&decide (w.take (w.length-1)∈S.take k)
def Vx(q:Int)(S:Wq):Bool:=decide (0<S.length)&&decide ((S.getD 0 []).length=0)&&((List.range S.length).all λj=>decide (j=0)||Mo q S j (S.getD j []))
def Kz(q:Int)(E:Wq)(k:Nat)(w:Wd):Bool:=
 decide (w.length≠0)&&inW w q&&!(decide (w∈E.take k))&&(decide (q<=(k:Int))||decide (w=[(k:Int)]))
def Vy(q:Int)(E:Wq):Bool:=decide (q<=(E.length:Int))&&((List.range E.length).all λj=>Kz q E j (E.getD j []))
theorem e5s{w:Wd}{q:Int}{m:Nat}(h:inW w q=true):inW (w.take m) q=true:=
 W7.2 λi hi=>W7.1 h i (e6p hi)
theorem a5h{w:Wd}{q:Int}(f:¬q > 16)(h:inW w q=true):∀i∈w,0<=i/\i<16:=λi hi=>by
 have A:0<=i/\i<q:=by simpa using W7.1 h i hi
 omega
theorem b5j{S:Wq}{q:Int}{m:Nat}(h:¬q > 16)(D:¬q<1)(Q:∀w∈S,w.length<=256)(U:∀j,j<m->j<S.length->Bo (S.getD j []) q=0):∀v∈S.take m,∀i∈v,0<=i/\i<16:=λv Z=>by
 obtain⟨j,hj,rfl⟩:=e6a.1 Z;have f:j<m/\j<S.length:=by grind
 have A:=U j f.1 f.2;rw[Xo,W5 f.2] at A;rw[e7q];exact a5h h ((Vw h D (Q _ (W2 f.2))).1 A)
theorem e1j{q:Int}{S:Wq}{k:Nat}{w:Wd}(h:Cr q S k w=true):Bo w q=0:=by
 simp_all[Cr]
theorem e1k{q:Int}{S:Wq}{k:Nat}{w:Wd}(h:C8 q S k w=true):Bo w q=0:=by
 simp_all[C8]
theorem e1l{q:Int}{S:Wq}{m:Nat}(A:¬q > 16)(D:¬q<1)(Q:∀w∈S,w.length<=256)(hm:m<S.length)(U:∀j,j<m->j<S.length->Bo (S.getD j []) q=0):
  Cr q S m (S.getD m [])=if m=0 then decide ((S.getD 0 []).length=0) else Mo q S m (S.getD m []):=by
 have hw:(S.getD m []).length<=256:=by
  grind
 have ht:=b5j A D Q U;by_cases f:m=0
 .subst f;rw[if_pos rfl];generalize S.getD 0 []=w at *;unfold Cr;by_cases h:w.length=0
  .have Z:w=[]:=e6x.1 h;subst Z;have:Bo [] q=0:=(Vw A D (by simp)).2 rfl;grind[C0]
  grind
 .rw[if_neg f];generalize S.getD m []=w at *;unfold Cr Mo;rw[decide_eq_false f,Bool.false_or];by_cases h:w.length=0
  .grind
  .rw[show decide (m=0↔w.length=0)=true from decide_eq_true (by omega),decide_eq_true h,e7o,e7o];grind[a5h,b5i,Vw]
theorem e1m{q:Int}{S:Wq}{m:Nat}(f:¬q > 16)(h:¬q<1)(A:∀w∈S,w.length<=256)(Q:m<S.length)(D:∀j,j<m->j<S.length->Bo (S.getD j []) q=0):
  C8 q S m (S.getD m [])=Kz q S m (S.getD m []):=by
 have U:(S.getD m []).length<=256:=by
  grind
 have Z:=b5j f h A D;grind[Kz,C8,a5h,b5i,Vw]
theorem b5k{n:Nat}{f g:Nat->Bool}(h:∀m,m<n->(∀j,j<m->f j=true)->f m=g m)(A:∀m,m<n->(∀j,j<m->g j=true)->f m=g m):(List.range n).all f=(List.range n).all g:=by
 grind
theorem e1n{q:Int}{S:Wq}(D:¬q > 16)(Q:¬q<1)(h3:¬longM S > 256):Mm q S=Vx q S:=by
 have f:∀w∈S,w.length<=256:=λw f=>by have:=le_longM f;omega
 have U:∀m,m<S.length->(∀j,j<m->Cr q S j (S.getD j [])=true)->Cr q S m (S.getD m [])=if m=0 then decide ((S.getD 0 []).length=0) else Mo q S m (S.getD m []):=λm h A=>e1l D Q f h λj Z _=>e1j (A j Z);have a0:((List.range S.length).all λj=>Cr q S j (S.getD j []))=(List.range S.length).all λj=>if j=0 then decide ((S.getD 0 []).length=0) else Mo q S j (S.getD j []):=by
  refine b5k U λm h A=>?_;have:∀k,k<=m->∀j,j<k->Cr q S j (S.getD j [])=true:=λk=>by
   induction k with
   | zero=>grind
   | succ k ih =>
    grind
  grind
 unfold Mm Vx;grind
theorem e1o{q:Int}{S:Wq}(D:¬q > 16)(Q:¬q<1)(h3:¬longM S > 256):Mn q S=Vy q S:=by
 have f:∀w∈S,w.length<=256:=λw f=>by have:=le_longM f;omega
 have U:∀m,m<S.length->(∀j,j<m->C8 q S j (S.getD j [])=true)->C8 q S m (S.getD m [])=Kz q S m (S.getD m []):=λm h A=>e1m D Q f h λj Z _=>e1k (A j Z);have a0:((List.range S.length).all λj=>C8 q S j (S.getD j []))=(List.range S.length).all λj=>Kz q S j (S.getD j []):=by
  refine b5k U λm h A=>?_;have:∀k,k<=m->∀j,j<k->C8 q S j (S.getD j [])=true:=λk=>by
   induction k with
   | zero=>grind
   | succ k ih =>
    grind
  grind
 grind[Vy,Mn]
def Pu(l:Wq)(w:Wd):Wq:=if w∈l then l else l++[w]
theorem e1p{l:Wq}{x:Wd}{k:Nat}(h:k<l.length):(l++[x]).getD k []=l.getD k []:=by
 grind
theorem e5t{l:Wq}{x:Wd}:(l++[x]).getD l.length []=x:=by
 grind
theorem e1q{l:Wq}{k:Nat}(h:k<l.length):l.getD k []∈l:=by
 grind
theorem Vz{k:Nat}:∀{l:Wq},(∀w∈l,w.length<=k)->longM l<=k
 | [],_=>W3 _
 | w::l,h=>by
  have f:=Vz (l:=l) λx hx=>h x (by grind);grind[longM]
structure SOK (q d:Nat) (S:Wq):Prop where
 pos:0<S.length
 hd:S.getD 0 []=[]
 len:S.length<=d+1
 wl:∀w∈S,w.length<=d/\inW w q=true
 ref:∀k,k<S.length->k≠0->Mo q S k (S.getD k [])=true
theorem SOK.step{q d:Nat}{S:Wq}(h:SOK q d S){p i:Nat}(D:p<S.length)(hi:i<q):SOK q (d+1) (Pu S (S.getD p []++[(i:Int)])):=by
 have Q:=e1q D;have a1:=h.len;have U:=h.pos;unfold Pu;split
 .exact⟨h.pos,h.hd,by omega,λw f=>⟨e7l (h.wl w f).1,(h.wl w f).2⟩,h.ref⟩
 .rename_i hn;generalize hx:S.getD p []=x at *;have a2:=h.wl x Q;have a3:inW (x++[(i:Int)]) q=true:=by
   simp_all[inW]
  refine⟨by simp,by rw[e1p U];exact h.hd,by grind,λw f=>?_,λk Z h0=>?_⟩
  .rcases W9.1 f with A|A
   .exact⟨e7l (h.wl w A).1,(h.wl w A).2⟩
   grind
  .rw[W1,Xj] at Z;by_cases a0:k<S.length
   .have A:=h.ref k a0 h0;grind[Mo]
   (simp_all[Mo];grind)
theorem SOK.base{q:Nat}:SOK q 0 [[]]:=⟨by simp,rfl,by simp,λw f=>by rw[Xf.1 f];exact⟨Wy _,rfl⟩,λk h A=>by grind⟩
abbrev Yt:=@SOK.base
theorem SOK.acc{q d:Nat}{S:Wq}(h:SOK q d S):Vx q S=true:=by
 unfold Vx;rw[h.hd,decide_eq_true h.pos,W0];refine⟨rfl,W7.2 λj D=>?_⟩;have f:j<S.length:=by grind
 by_cases A:j=0
 .grind
 .rw[h.ref j f A,e9j]
structure EOK (q d m:Nat) (E:Wq):Prop where
 low:q<=E.length
 len:E.length<=q+d
 wl:∀w∈E,0<w.length/\w.length<=m/\inW w q=true
 ref:∀k,k<E.length->Kz q E k (E.getD k [])=true
theorem EOK.step{q d m:Nat}{E:Wq}(h:EOK q d m E){w:Wd}(Q:w.length<=m)(U:inW w q=true):EOK q (d+1) m (if w.length=0 then E else Pu E w):=by
 have Z:=h.len;have a0:=h.low;have a1:EOK q (d+1) m E:=⟨h.low,by omega,h.wl,h.ref⟩;split
 .grind
 .rename_i h0;unfold Pu;split
  .grind
  .rename_i hn;refine⟨by grind,by grind,λx hx=>?_,λk A=>?_⟩
   .rcases W9.1 hx with f|f
    .exact h.wl x f
    grind
   .rw[W1,Xj] at A;by_cases D:k<E.length
    .have f:=h.ref k D;grind[Kz]
    (simp_all[Kz];grind)
def qE0(q:Nat):Wq:=(List.range q).map λi:Nat=>[(i:Int)]
theorem e1r{q k:Nat}(h:k<q):(qE0 q).getD k []=[(k:Int)]:=by
 grind[qE0]
theorem EOK.base{q m:Nat}(D:1<=m):EOK q 0 m (qE0 q):=by
 have h:(qE0 q).length=q:=by simp[qE0]
 refine⟨by omega,by omega,λw A=>?_,λk f=>?_⟩
 .obtain⟨i,hi,rfl⟩:=Xc.1 A;grind[inW]
 .rw[h] at f;rw[e1r f];have Q:inW [(k:Int)] q=true:=by grind[inW]
  have U:[(k:Int)] ∉ (qE0 q).take k:=by
   grind[List.mem_iff_getElem,qE0]
  grind[Kz]
abbrev Yu:=@EOK.base
theorem EOK.suf{q d m:Nat}{E:Wq}(h:EOK q d m E):Vy q E=true:=by
 have f:=h.low;unfold Vy;rw[W0];exact⟨decide_eq_true (by omega),W7.2 λj A=>h.ref j (by grind)⟩
theorem b5l(hN:Nod V ws)(A:∀x o,V x=some o->o ≠ -1->0<=o/\o<O):∀(m n:Nat)(f:Wq),ws.length<=n+m->Bfs V ws I O n f->n<=f.length->∃D,Bfs V ws I O D.length D
 | m,n,f,hm,h,hn=>by
  by_cases Q:n=f.length
  .subst Q;exact⟨f,h⟩
  .have U:n<f.length:=by omega
   have a0:=h.len
   cases m with
   | zero=>omega
   | succ m =>
    have Z:=(h.step hN A U).1;exact b5l hN A m (n+1) _ (by omega) Z (by rw[W1];omega)
theorem e1s(f:∀t∈ts,B0 I O t=true)(A:Ej ts):goT I O (Aj I ts) 0 1=some (Aj I ts).length:=by
 have hN:=a5e f A;have D:Bfs (valT ts) (Dm ts) I O 0 [[]]:=Bfs.zero ((hN.mem []).2 (.inl rfl));obtain⟨Z,h⟩:=b5l hN (λx o Q U=>b4o f Q U) (Dm ts).length 0 _ (by omega) D (by simp);exact(b4p f A hN h).2.2
def Fm(M:Az)(ts:Lq):Prop:=∀t∈ts,t.2=Bl M 0 t.1/\inW t.1 M.inp=true
theorem Fm.valid{M:Az}(f:M.ok){ts:Lq}(h:Fm M ts):∀t∈ts,B0 M.inp M.out t=true:=λt D=>by
 have U:=f.2.2.2.2.1;obtain⟨Q,A⟩:=h t D;refine b3z (by grind[Nz]) A ?_;rw[Q];exact b3x f _ 0 false (.inr ⟨0,rfl,by omega⟩) (λh=>by cases h) A
theorem Fm.cons{M:Az}(h:Fm M ts):Ej ts:=
 (Sl λt A=>by rw[(h t A).1];grind[Nz]).1 (b4c (λu f=>(h u f).1) _ _ λu f=>(h u f).1)
theorem Fm.go{M:Az}(f:M.ok){I:Nat}(A:M.inp=I){ts:Lq}(h:Fm M ts):goT I M.out (Aj I ts) 0 1=some (Aj I ts).length:=
 e1s (by rw[<- A];exact h.valid f) h.cons
theorem Fm.err{M:Az}(f:M.ok){I:Nat}(A:M.inp=I){ts:Lq}(h:Fm M ts)(U:(Aj I ts).length<=65537):D5 I M.out (Aj I ts)=0:=by
 have Z:0<(Aj I ts).length:=by
  have e:(Aj I ts).length=(Dm ts).length:=G7;rw[e];exact e7k ((Pq (h.valid f) h.cons []).2 (.inl rfl))
 have D:=f.1;have Q:=f.2.1;have h3:=f.2.2.1;have h4:=f.2.2.2.1;rw[A] at D Q;unfold D5;rw[if_neg (by omega),if_neg (by omega),if_pos (h.go f A)]
theorem Su{T:Tq}:∀(w:Wd)(a:Int)(r:Wd),Bd T a w=some r->r.length=w.length
 | [],a,r,h=>by
  grind[Bd]
 | i::w,a,r,h=>by
  rw[Bd] at h;split at h
  .split at h
   .cases h;simp
   .cases h
  .cases f:Bd T ((T.getD a.toNat []).getD i.toNat (-1,-1)).1 w with
   | none=>rw[f] at h;cases h
   | some x =>
    rw[f] at h;cases h;rw[Xi,Xi,Su w _ x f]
def Cl(T:Tq)(w:Wd):Wq->Option (Wd)
 | []=>some []
 | e::E=>match Bd T 0 (w++e) with
  | none=>none
  | some r=>(Cl T w E).map (r.drop w.length ++ ·)
theorem e1t{T:Tq}{w:Wd}{E:Wq}{k:Nat}(h:k<E.length):Cl T w (E.drop k)=match Bd T 0 (w++E[k]) with
  | none=>none
  | some r=>(Cl T w (E.drop (k+1))).map (r.drop w.length ++ ·):=by
 rw[Xh h];rfl
def Hv(q:Nat)(S:Wq):Wq:=S.flatMap λs=>(List.range q).map λi:Nat=>s++[(i:Int)]
def Aq(q:Nat)(S:Wq):Wq:=S++Hv q S
def runT(M:Az)(u:Wd):List Int×Wd:=(u,Bl M 0 u)
theorem b5m{q:Nat}:∀{S:Wq},(Hv q S).length=S.length*q
 | []=>by simp[Hv]
 | s::S=>by
  have:=@b5m q S;unfold Hv at this |-;rw[e7i,W1,this,Xi,e6d];simp;omega
theorem N5{q:Int}(f:inW a q=true)(h:inW b q=true):inW (a++b) q=true:=by
 grind[inW]
structure QOK (M:Az) (S E:Wq) (L:Lq):Prop where
 s:SOK M.inp.toNat 5 S
 e:EOK M.inp.toNat 3 4 E
 runs:Fm M L
 wl:∀t∈L,t.1.length<=10
 len:L.length<=156
 nod:(Dm L).length<=1561
theorem Al.of{g:Gb}{n B:Nat}{w:Wd}{own:Bool}{z:Nat}(h:g B=some (.cells (wdC w) own z))(f:B<n){c:Nat}:Al g n w (.sl B 0 w.length c):=Ez h f
theorem RowsW.len{g:Gb}{n:Nat}{l:Wq}{f:List AV}(h:RowsW g n l f):f.length=l.length:=h.1
theorem RowsW.allOne{g:Gb}{n:Nat}{l:Wq}{D:List AV}(h:RowsW g n l D):allOne D=true:=by
 have key:∀(f:List AV),(∀(k:Nat)(A:k<f.length),oneC f[k]=true)->Go.Ai.allOne f=true:=by
  intro f
  induction f with
  | nil=>intro _;rfl
  | cons x f U =>
   intro hx;have Z:=hx 0 (by simp);have Q:=U λk A=>hx (k+1) (by simpa using A);show (match oneC x with|true=>Go.Ai.allOne f|false=>false)=true;have a0:oneC x=true:=Z;rw[a0];exact Q
 refine key D λk A=>?_;obtain⟨sv,Q,h2⟩:=h.2 k (by rw[<- h.1];exact A);have:D[k]=sv:=by rw[W5 A] at Q;exact Option.some.inj Q
 rw[this];exact h2.one
theorem apZ65:Ux prog 65 3=some (1,8,[.li 0]):=by kernel_rfl
theorem e1u{k:Nat}(f:0<k)(h:k<=100000)(g:Gb)(n:Nat):
  WC 0 prog 144 [.nl,.li (k:Int)] ⟨.fn g,n⟩ λr=>r=.ret (.slq n 0 0 0) ⟨.fn (Ak g n (some (.cells (rep [.li 0] k) true 1))),n+1⟩:=by
 have A:=λ{H:Mem}{ev:Ev}{d:Option Tmp}{ty:TypeId}{p:String} {af:Array Edge} {gd:Option (Nat×Bool)} {x y:Operand} {hx:ev x=some (.nl)} {hy:ev y=some (.li (k:Int))}=>d5f (P:=prog) (H:=H) (ev:=ev) (d:=d) (ty:=ty) (p:=p) (af:=af) (g:=gd) (x:=x) (y:=y) (hx:=hx) (hy:=hy) 1 8 apZ65 f (by omega) (by omega) (by omega) rfl;have D:=λ{H:Mem}{ev:Ev}{d:Option Tmp}{ty:TypeId}{p:String} {af:Array Edge} {gd:Option (Nat×Bool)} {x hi:Operand} {hx:ev x=some (.nl)} {hh:ev hi=some (.li 0)}=>b1m (P:=prog) (H:=H) (ev:=ev) (d:=d) (ty:=ty) (p:=p) (af:=af) (g:=gd) (x:=x) (hi:=hi) (hx:=hx) (hh:=hh) (t:=65) (by kernel_rfl);have Q:(0:Int)<(k:Int):=by omega
 have U:¬(k:Int)<0:=by omega
 refine ent [] func144 ?_;simp (disch:=first|omega|simp) [*]
theorem e1v{l new:List AV}(h:new.length<=l.length):Am l 0 new=new++l.drop new.length:=by simp[Am]
theorem e1w(b0:a.length<=10000)(b1:b.length<=10000)(a1:0<b.length)(g:Gb)(n A:Nat)(hA:A<n)(f bv:AV)(own:Bool)(z:Nat)(hg:g A=some (.cells [f,bv] own z))(D:Al g n a f)(Q:Al g n b bv):
  WC 0 prog 126 [.sl A 0 2 2] ⟨.fn g,n⟩ λr=>∃g' n',r=.ret (.slq n 0 (a.length+b.length) 0) ⟨.fn g',n'⟩/\n<n'/\(∀x,x<n->g' x=g x)/\g' n=some (.cells (wdC (a++b)) true 1):=by
 have b2:=D.one;have b3:=Q.one;have b4:=@Au prog _ _ _ _ _ D;have b5:=@Au prog _ _ _ _ _ Q;have a2:=Xr (e1u (k:=a.length+b.length) (by omega) (by omega) g n);have a3:(wdC b).length=b.length*1:=by rw[Cb,Xk]
 have U:(wdC a).length=a.length*1:=by rw[Cb,Xk]
 obtain⟨a9,b6,b7,b8,b9⟩:=Af.aps (P:=prog) (sz:=1) Q a1 a3;have c0:¬((a.length:Int)+(b.length:Int)<0):=by omega
 have c1:(a.length:Int)<=10000:=by omega
 have c2:(b.length:Int)<=10000:=by omega
 have c6:¬((a.length:Int)<0):=by omega
 clear Q;have Z:=Xr D;clear D;refine ent [] func126 ?_;simp (disch:=first|omega|simp) [*];refine rnd [] ?_;simp (disch:=first|omega|simp) [*];refine rnd [] ?_;simp (disch:=first|omega|simp) [*];refine rnd [] ?_;simp (disch:=first|omega|simp) [*];refine Xs a2.out ?_;rintro _ rfl;have c7:Ak g n (some (.cells (rep [.li 0] (a.length+b.length)) true 1)) A=some (.cells [f,bv] own z):=(Ad hA).trans hg;simp (disch:=first|omega|simp) [*];refine rnd [] ?_;by_cases a0:a.length=0
 .have h:Af g n f 0 (wdC a):=by have:=Z.out;rw[<- a0];exact this
  have c8:=λ{H:Mem}{ev:Ev}{d:Option Tmp}{ty:TypeId}{p:String} {af:Array Edge} {gd:Option (Nat×Bool)} {x y:Operand} {s t:TypeId} {q off k c:Nat} {hx:ev x=some (.slq q off k c)} {hy:ev y=some f} (hp:(apI prog s t).isSome=true)=>Af.apq0 (P:=prog) h (H:=H) (ev:=ev) (d:=d) (ty:=ty) (p:=p) (af:=af) (gd:=gd) (x:=x) (y:=y) (a:=q) (off:=off) (k:=k) (c:=c) (hx:=hx) (hy:=hy) hp;have a4:Aa (a=[]):=⟨e6x.1 a0⟩;have a5:(rep [AV.li 0] b.length).length=b.length:=by rw[Fj];simp
  have a6:(0+b.length)*1<=(rep [AV.li 0] b.length).length:=by omega
  have a7:=wdC_one b;clear h;simp (disch:=first|omega|simp) [*];refine rnd [] ?_;simp (disch:=first|omega|simp) [*];refine rnd [] ?_;simp (disch:=first|omega|simp) [*];refine⟨_,_,⟨rfl,rfl⟩,by omega,λx hx=>Ad hx,Ah.trans ?_⟩;rw[a4.out,List.nil_append,e1v (by omega),e6f (by omega),e5x]
 .have h:Af g n f a.length (wdC a):=Z.out;obtain⟨a8,c9,e0,e5,e6⟩:=Af.aps (P:=prog) (sz:=1) h (by omega) U;have a5:(rep [AV.li 0] (a.length+b.length)).length=a.length+b.length:=by rw[Fj];simp
  have a6:(0+a.length)*1<=(rep [AV.li 0] (a.length+b.length)).length:=by omega
  have e7:(a.length+b.length)*1<=(Am (rep [AV.li 0] (a.length+b.length)) 0 (wdC a)).length:=by rw[C7 (by omega)];omega
  have a7:=wdC_one b;have e8:=wdC_one a;clear h;simp (disch:=first|omega|simp) [*];refine rnd [] ?_;simp (disch:=first|omega|simp) [*];refine rnd [] ?_;simp (disch:=first|omega|simp) [*];refine⟨_,_,⟨rfl,rfl⟩,by omega,λx hx=>Ad hx,Ah.trans ?_⟩;have e1:(Am (rep [AV.li 0] (a.length+b.length)) 0 (wdC a)).take a.length=wdC a:=by
   have:=Eg (l:=rep [AV.li 0] (a.length+b.length)) (new:=wdC a) (off:=0) (by omega);rw[U,e6s,Xk] at this;simpa using this
  have e2:(Am (rep [AV.li 0] (a.length+b.length)) 0 (wdC a)).drop (a.length+(wdC b).length)=[]:=e6f (by rw[C7 (by omega)];omega);have e3:Am (Am (rep [AV.li 0] (a.length+b.length)) 0 (wdC a)) a.length (wdC b)=wdC (a++b):=by
   rw[Am,e1,e2];simp[wdC]
  rw[e3]
theorem e1x{k:Nat}(f:0<k)(h:k<=100000)(g:Gb)(n B:Nat):
  WC 0 prog 93 [.slq B 0 k 0] ⟨.fn g,n⟩ λr=>r=.ret (.sl B 0 k k) ⟨.fn g,n⟩:=by
 refine ent [] func93 ?_;simp (disch:=first|omega|simp) [*]
theorem V0(a0:a.length<=10000)(a1:b.length<=10000)(a2:0<b.length)(g:Gb)(n:Nat)(f bv:AV)(h:Al g n a f)(A:Al g n b bv):
  WC 0 prog 85 [f,bv] ⟨.fn g,n⟩ λr=>∃Q g' n',r=.ret Q ⟨.fn g',n'⟩/\n<=n'/\(∀x,x<n->g' x=g x)/\E0 g' n n' (a++b) Q/\Av Q:=by
 have a3:=h.one;have a4:=A.one;have a8:allOne [f,bv]=true:=by simp[a3,a4]
 have a9:=h.cell;have b0:=A.cell;have a5:=Xr (e1w a0 a1 a2 (Ak g n (some (.cells [f,bv] true 0))) (n+1) n (by omega) f bv true 0 Ah (Xw (by omega) (λx hx=>Ad hx) h) (Xw (by omega) (λx hx=>Ad hx) A));clear h A;refine ent [] func85 ?_;simp (disch:=first|omega|simp) [*];refine Xs a5.out ?_;rintro _ ⟨D,n2,rfl,b1,Z,a6⟩;have a7:=Xr Z;clear Z;simp (disch:=first|omega|simp) [*];refine Xs (e1x (by omega) (by omega) D n2 (n+1)) ?_;rintro _ rfl;simp (disch:=first|omega|simp) [*];refine⟨_,_,_,⟨rfl,rfl,rfl⟩,by omega,λx hx=>(a7.out x (by omega)).trans (Ad hx),?_,λ_ _ _ _ e=>by cases e;exact Wy _⟩;have h5:(wdC (a++b)).length=a.length+b.length:=by rw[Cb,W1]
 refine⟨λx=>if x=n+1 then D x else none,λx y hx=>?_,?_⟩
 .have U:(if x=n+1 then D x else none)=some y:=hx;split at U
  .exact⟨U,by omega,by omega⟩
  .cases U
 .have h6:Al (λx=>if x=n+1 then D x else none) n2 (a++b) (.sl (n+1) 0 (a++b).length (a.length+b.length)):=Al.of (own:=true) (z:=1) ((if_pos rfl).trans a6) (by omega);rw[W1] at h6;exact h6
end Go.Ai
