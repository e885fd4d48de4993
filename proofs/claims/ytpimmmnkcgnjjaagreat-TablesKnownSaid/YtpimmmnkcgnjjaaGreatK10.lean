/- Parts of an interpreter and of a proof. No condition. -/
import Derived.Test.YtpimmmnkcgnjjaaGreatK09
import Derived.Test.YtpimmmnkcgnjjaaGreatK08
set_option linter.all false
set_option maxHeartbeats 40000000
set_option maxRecDepth 10000
open Go.Proofs Go.Proofs.Tryz
namespace Go.Ai
variable {ts:Lq}{g':Gb}{n':Nat}{O:Int}{sv:AV}{svs:List AV}
def Hu(ws os:Wq):Wd:=os.map λx=>((ws.idxOf x:Nat):Int)
structure RowsC (g:Gb) (lo n I:Nat) (rows:Tq) (bs:List Nat):Prop where
 len:bs.length=rows.length
 at' : ∀(k:Nat)(h:k<bs.length)(h' : k<rows.length),lo<=bs[k]/\bs[k] < n/\g bs[k]=some (.cells (Ar rows[k]) true 2)/\rows[k].length=I
theorem RowsC.snoc{g:Gb}{lo n I:Nat}{rows:Tq}{f:List Nat}(h:RowsC g lo n I rows f)(hn:n<=n')(Q:∀a,lo<=a->a<n->g' a=g a){b:Nat}{row:List (Int×Int)}(U:lo<=b)(Z:b<n')(h3:g' b=some (.cells (Ar row) true 2))(h4:row.length=I):RowsC g' lo n' I (rows++[row]) (f++[b]):=by
 have hl:=h.len;refine⟨by simp[hl],λk k1 k2=>?_⟩;rw[W1,Xj] at k1;by_cases A:k<f.length
 .obtain⟨D,e2,e3,e4⟩:=h.at' k A (by omega);rw[e6b A,e6b (by omega)];exact⟨D,by omega,(Q _ D e2).trans e3,e4⟩
 .rw[e7e (by omega),e7e (by omega)];simp;exact⟨U,Z,h3,h4⟩
theorem e0v{V:Wd->Option Int}{ws:Wq}{I:Nat}(k8:1<=I)(hI:I<=16)(hN:Nod V ws)(hV:∀x o,V x=some o->o ≠ -1->0<=o/\o<O)(b3:∀(x:Wd)(i o:Int),V (x++[i])=some o->0<=i/\i<(I:Int))(h0:ws[0]?=some [])(k9:ws.length<=100000)(lo n B:Nat)(g:Gb)(sv:AV)(bs:List Nat)
  (a8:RowsB g lo n I (Bg V ws I) bs) (hB:B<n) (b4:(ws.length=1/\sv=.sl B 0 1 1/\g B=some (.cells (Ce I bs) true 0))\/(sv=.slq B 0 ws.length 0/\g B=some (.cells (Ce I bs) true 1))) :
  WC 0 prog 107 [sv] ⟨.fn g,n⟩ λr=>∃g' n' b5 f,r=.ret (.sl (n+1) 0 ws.length ws.length) ⟨.fn g',n'⟩/\n+2<=n'/\(∀b,b<n->g' b=g b)/\Bfs V ws I O f.length f/\f.length=ws.length/\RowsC g' n n' I (Bg V f I) b5/\g' (n+1)=some (.cells (Ce I b5) true 0):=by
 have hv:Af g n sv ws.length (Ce I bs):=by
  rcases b4 with⟨e1,rfl,e3⟩|⟨rfl,e3⟩
  .rw[e1];exact Ez e3 hB
  .exact .inr ⟨B,0,hB,.inr ⟨0,rfl⟩,Ce I bs,true,1,e3,by simp[*]⟩
 have h8:=@Au prog _ _ _ _ _ hv;have HV:=Xr hv;have l0:bs.length=ws.length:=by rw[a8.len,G7]
 have h9:=Xr a8;have HN:=Xr hN;have i0:=Xr hV;have i1:=Xr b3;have i2:1<=ws.length:=by
  have:=W8.1 h0;obtain⟨h,_⟩:=this;omega
 have i3:Aa ([]∈ws):=⟨e5w h0⟩;have i4:Aa (ws.idxOf []=0):=⟨by
  cases ws with
  | nil=>simp at h0
  | cons a l=>simp at h0;subst h0;simp⟩
 have l6:(ws.length:Int)<=1048576:=by omega
 have l7:(1:Int)<=(ws.length:Int):=by omega
 clear hv b4 a8 hN hV b3 h0;refine ent [] func107 ?_;simp (disch:=first|omega|simp) [*];refine Xv (λm D H'=>∃(q n' : Nat)(gL:Gb)(f:Wq)(bk:List Nat)(A U:List AV),q<=f.length/\f.length<=ws.length/\m=ws.length-q/\H'=⟨.fn gL,n'⟩/\n+1+1<=n'/\Aa (∀b,b<n->gL b=g b) /\
  gL n=some (.cells A true 0)/\A.length=ws.length/\Aa (A.take f.length=wdC (Hu ws f))/\gL (n+1)=some (.cells U true 0)/\U.length=ws.length/\Aa (U.take q=Ce I bk)/\Aa (RowsC gL (n+1+1) n' I ((f.take q).map (Bb V f I)) bk)/\Aa (Bfs V ws I O q f) /\
  D 0=some sv/\D 3=some (.sl n 0 f.length ws.length)/\D 4=some (.sl (n+1) 0 q ws.length)/\D 5=some (.li q)) (m0:=ws.length) ?_ ?_
 .refine⟨0,_,_,[[]],[],rep [.li 0] ws.length,rep [.nl] ws.length,by simp,by simpa using i2,rfl,rfl,Wy _,⟨λb hb=>?_⟩,?_,?_,⟨?_⟩,?_,?_,⟨rfl⟩,⟨⟨rfl,λk h=>by cases h⟩⟩,⟨Bfs.zero i3.out⟩,by simp[*]⟩
  .simp (disch:=omega) only[Ad]
  .simp (disch:=omega) only[Ad,Ah]
  .rw[Fj];simp
  .have e:Hu ws [[]]=[0]:=by unfold Hu;simp[i4.out]
   rw[e];obtain⟨W,hW⟩:∃W,ws.length=W+1:=⟨ws.length-1,by omega⟩;rw[hW,Ug];rfl
  .simp (disch:=omega) only[Ad,Ah]
  .rw[Fj];simp
 rintro m D H' ⟨q,n',gL,f,bk,A,U,hq,i5,rfl,rfl,l8,HG,b6,a3,a1,b7,i6,b8,b9,a4,w0,w3,w4,w5⟩ ih;refine rnd [] ?_;by_cases a5:q<f.length
 .have i7:(q:Int)<(f.length:Int):=by omega
  have c0:f[q]∈ws:=a4.out.sub _ (W2 a5);have ha:ws.idxOf f[q] < ws.length:=List.idxOf_lt_length_of_mem c0;have c1:ws[ws.idxOf f[q]]=f[q]:=List.getElem_idxOf ha;have c2:A[q]?=some (.li ((ws.idxOf f[q]:Nat):Int)):=by
   have Q:(A.take f.length)[q]?=A[q]?:=by rw[e7r,if_pos a5]
   rw[<- Q,a1.out,Kq _ q (by simp[Hu];exact a5)];simp[Hu]
  have a9:ws.idxOf f[q] < bs.length:=by omega
  obtain⟨l1,l2,l3,l4⟩:=h9.out.at' _ a9 (by rw[G7];exact ha);have c6:(Bg V ws I)[ws.idxOf f[q]]'(by rw[G7];exact ha)=Bb V ws I f[q]:=by simp only[Bg,e6e,c1]
  rw[c6] at l3 l4;clear c6 c1 c0;obtain⟨a2,off,l9,c7,c8⟩:=X4 (P:=prog) (Xw (Wy n) HG.out HV.out) ha 1;simp only[Xk] at c8;have c9:=c7.one (k:=ws.idxOf f[q]) (s:=1) (by rw[Pr];exact a9);rw[a5a a9] at c9;clear c7;have Z:=Xr (a4.out.step HN.out i0.out a5);have i8:=Xr Z.out.1.len;have e0:Aa (oldE (Bb V ws I f[q])=Hu ws (chL V f[q] (List.range I))):=⟨b4k (List.range I)⟩;have e5:=(HG.out _ l2).trans l3;have i9:Aa ((f++chL V f[q] (List.range I)).take (q+1)=f.take q++[f[q]]):=⟨by rw[List.take_append_of_le_length (by omega)];exact Df a5⟩;have j0:=Xr (a4.out.rows (chL V f[q] (List.range I)));have j1:Aa (numE f.length (Bb V ws I f[q])=Bb V (f++chL V f[q] (List.range I)) I f[q]):=⟨Z.out.2⟩;have j2:Aa (Bfs V ws I O (q+1) (f++chL V f[q] (List.range I))):=⟨Z.out.1⟩;clear Z;generalize j3:Bb V ws I f[q]=row at *;generalize bs[ws.idxOf f[q]]=b at *;generalize ws.idxOf f[q]=a at *;generalize chL V f[q] (List.range I)=cs at *;clear l3 l1 j3;have j4:A[q]'(by omega)=.li (a:Int):=(W8.1 c2).2;have l5:gL b=some (.cells (Ar row) true 0):=e5;clear e5;have e6:=i8.out;rw[W1] at e6;have j5:(oldE row).length=cs.length:=by rw[e0.out];simp[Hu]
  have e7:∀i,(oldE (row.take i)).length<=cs.length:=λi=>by rw[<- j5];exact oldE_take row i
  have j6:=Xr e7;clear e7;subst l4;have j7:b<n':=by omega
  simp (disch:=first|omega|simp) [*];refine Xs (e0p (by omega) (by omega) gL n' b j7 l5) ?_;rintro _ ⟨g2,rfl,e8,e9⟩;have g0:=Xr e8;clear e8;simp (disch:=first|omega|simp) [*];refine Xs (b4r (by omega) _) ?_;rintro _ rfl;simp (disch:=first|omega|simp) [*];refine Xv (λm D H'=>∃(i n2 c:Nat)(gI:Gb)(A:List AV),i<=row.length/\m=row.length-i/\H'=⟨.fn gI,n2⟩/\n'+1+1<=n2/\Aa (∀x,x<n'->x≠n->gI x=gL x)/\gI n=some (.cells A true 0)/\A.length=ws.length/\Aa (c=f.length+(oldE (row.take i)).length)/\c<=ws.length/\Aa (A.take c=wdC (Hu ws f++oldE (row.take i))) /\
   gI (n'+1)=some (.cells (Ar (El f.length row i)) true 2)/\D 0=some sv/\D 3=some (.sl n 0 c ws.length)/\D 4=some (.sl (n+1) 0 q ws.length)/\D 5=some (.li q)/\D 6=some (.sl (n'+1) 0 row.length row.length)/\D 30=some (.sl (n'+1) 0 row.length row.length)/\D 31=some (.li row.length)/\D 32=some (.li i)) (m0:=row.length) ?_ ?_
  .refine⟨0,_,f.length,g2,A,W3 _,rfl,rfl,by omega,⟨λx h _=>g0.out x h⟩,(g0.out n (by omega)).trans b6,a3,⟨by simp[oldE]⟩,i5,⟨by rw[a1.out];simp[oldE]⟩,?_,by simp[*]⟩;rw[e9];simp[El,numE]
  clear a1 a3 b6 c2 j4 e9 w0 w3 w4 w5 h8 c9 c8;rintro m D H' ⟨i,n2,c,gI,A,hi,rfl,rfl,m1,a6,g1,a3,HC,j8,a1,g3,v0,v3,v4,v5,v6,m2,m3,m4⟩ g4;refine rnd [] ?_;by_cases b0:i<row.length
  .have j9:(i:Int)<(row.length:Int):=by omega
   have k0:=@b4s f.length row i;have b1:=e0r (k:=f.length) b0;have Z:=Xr (e0s (k:=f.length) b0);have a0:Aa (oldE (row.take (i+1))=oldE (row.take i)++(if row[i].1 = -1 then [] else [row[i].1])):=⟨by rw[Df b0,a5c]⟩;have g5:i<(El f.length row i).length:=by omega
   have k1:=rowC_at (El f.length row i) i g5;rw[b1] at k1;have g6:=Xr (e0u g5);rw[b1] at g6;have a7:=j6.out (i+1);rw[a0.out,W1] at a7;have b2:=HC.out;have k2:=rowC_len (El f.length row i);rw[k0] at k2;have m5:i*2+2<=(Ar (El f.length row i)).length:=by omega
   have m6:i*2<(Ar (El f.length row i)).length:=by omega
   clear b1;generalize row[i]=e at *;generalize El f.length row i=pe at *;by_cases he:e.1 = -1
   .rw[if_pos he] at Z a0;rw[e5x] at a0;clear b2 a7;simp (disch:=first|omega|simp) [*];refine g4.out (row.length-(i+1)) _ _ (by omega) ⟨i+1,n2+1,c,_,A,by omega,rfl,rfl,by omega,⟨λx Q h2=>?_⟩,?_,a3,⟨by rw[a0.out];exact HC.out⟩,j8,⟨by rw[a0.out];exact a1.out⟩,?_,by simp[*]⟩
    .simp (disch:=omega) only[Ad];exact a6.out x Q h2
    .simp (disch:=omega) only[Ad];exact g1
    .simp (disch:=omega) only[Ad];rw[Z.out];exact g3
   .rw[if_neg he] at Z a0;rw[if_neg he] at a7;simp at a7;have m7:c<ws.length:=by omega
    have g7:c+([.li e.1]:List AV).length<=A.length:=by simp;omega
    have g8:Aa ((Am A c [.li e.1]).length=ws.length/\(Am A c [.li e.1]).take (c+1)=wdC (Hu ws f++oldE (row.take (i+1)))):=⟨by
     refine⟨by rw[C7 g7];exact a3,?_⟩;have Q:=Eg g7;rw[a1.out] at Q;rw[a0.out];exact Q.trans (by simp[wdC])⟩
    rw[<- b2] at Z;clear b2 a7;simp (disch:=first|omega|simp) [*];refine g4.out (row.length-(i+1)) _ _ (by omega) ⟨i+1,n2+1+1,c+1,_,Am A c [.li e.1],by omega,rfl,rfl,by omega,⟨λx Q h2=>?_⟩,?_,g8.out.1,⟨by rw[a0.out,HC.out];simp;omega⟩,by omega,⟨g8.out.2⟩,?_,by simp[*]⟩
    .simp (disch:=omega) only[Ad,Ae];exact a6.out x Q h2
    .simp (disch:=omega) only[Ah]
    .simp (disch:=omega) only[Ad,Ae,Ah];rw[Z.out,g6.out]
  .have j9:¬(i:Int)<(row.length:Int):=by omega
   have g9:i=row.length:=by omega
   have m8:gI (n+1)=some (.cells U true 0):=(a6.out (n+1) (by omega) (by omega)).trans b7;have m9:q<ws.length:=by omega
   simp (disch:=first|omega|simp) [*];have k3:El f.length row i=numE f.length row:=by rw[g9];unfold El;rw[Xl,e9c,e5x]
   have h3:oldE (row.take i)=Hu ws cs:=by rw[g9,Xl];exact e0.out
   have k4:c=(f++cs).length:=by rw[HC.out,h3,W1];simp[Hu]
   have h4:q+([.sl (n'+1) 0 row.length row.length]:List AV).length<=U.length:=by simp;omega
   have h5:Aa ((Am U q [.sl (n'+1) 0 row.length row.length]).length=ws.length/\(Am U q [.sl (n'+1) 0 row.length row.length]).take (q+1)=Ce row.length (bk++[n'+1])):=⟨by
    refine⟨by rw[C7 h4];exact i6,?_⟩;have Q:=Eg h4;rw[b8.out] at Q;exact Q.trans (by simp[Ce])⟩
   subst k4;refine ih.out (ws.length-(q+1)) _ _ (by omega) ⟨q+1,n2+1,_,f++cs,bk++[n'+1],A,Am U q [.sl (n'+1) 0 row.length row.length],by rw[W1];omega,by rw[W1];exact e6,rfl,rfl,by omega,⟨λb hb=>?_⟩,?_,a3,⟨?_⟩,?_,h5.out.1,⟨h5.out.2⟩,⟨?_⟩,j2,by simp[*]⟩
   .simp (disch:=omega) only[Ad,Ae];exact(a6.out b (by omega) (by omega)).trans (HG.out b hb)
   .simp (disch:=omega) only[Ad,Ae];exact g1
   .rw[a1.out,h3];simp[Hu]
   .exact Ah
   .rw[i9.out,e6z,List.map_singleton,j0.out,<- j1.out];refine b9.out.snoc (by omega) (λa Q h2=>?_) (by omega) (by omega) ?_ (numE_len _ _)
    .simp (disch:=omega) only[Ad,Ae];exact a6.out a h2 (by omega)
    .simp (disch:=omega) only[Ad,Ae];rw[<- k3];exact g3
 .have i7:¬(q:Int)<(f.length:Int):=by omega
  have h6:q=f.length:=by omega
  have k5:=Xr ((h6 ▸ a4.out).done HN.out i1.out);have n1:ws.length=f.length:=by
   have Q:=nodup_len HN.out.nd λx hx=>(k5.out.mem x).2 ((HN.out.mem x).1 hx);omega
  subst h6;have k6:U=Ce I bk:=by rw[<- b8.out,Xn (by omega)]
  have k7:(f.take f.length).map (Bb V f I)=Bg V f I:=by rw[Xl];rfl
  simp (disch:=first|omega|simp) [*];have h7:=k7 ▸ b9.out;refine⟨_,_,⟨rfl,rfl⟩,by omega,HG.out,bk,f,a4.out,rfl,⟨h7.len,λk Q h2=>?_⟩,by rw[<- k6];exact b7⟩;obtain⟨e1,e2,e3,e4⟩:=h7.at' k Q h2;exact⟨by omega,e2,e3,e4⟩
theorem e0w{I:Nat}{k:Nat}(h:k<ts.length):Po I (ts.take (k+1))=F6 I (Po I (ts.take k)) 0 ts[k].1 ts[k].2:=by
 unfold Po;rw[Df h,List.foldl_append];rfl
theorem b4t{I:Nat}(A:Cc I O ts)(hD:Dv ts ts 0=none)(g:Gb)(n:Nat)(sv:AV)(hT:Du g n ts sv)(b2:Av sv):
  WC 0 prog 49 [.agg [.li I,.li O,sv]] ⟨.fn g,n⟩ λr=>∃g' n' bs B,r=.ret (.tup [.agg [.li I,.li O,.sl B 0 (Aj I ts).length (Aj I ts).length],.li 0]) ⟨.fn g',n'⟩/\n<=n'/\(∀b,b<n->g' b=g b)/\n<=B/\B<n'/\RowsC g' n n' I (Aj I ts) bs/\g' B=some (.cells (Ce I bs) true 0)/\goT I O (Aj I ts) 0 1=some (Aj I ts).length:=by
 have h8:=@Au prog _ _ _ _ _ hT.choose_spec.1;have e8:=hT.choose_spec.1.one;have h9:allOne [.li I,.li O,sv]=true:=by simp[e8]
 have b3:=Xr λ(gX:Gb)(n2:Nat)(hn:n<=n2)(hX:∀b,b<n->gX b=g b)=>b4d A gX n2 sv (hT.mono hn hX) b2;rw[hD] at b3;have HT:=Xr hT;have HL:=Xr A;have i0:=A.len;have i3:=A.i1;have i4:=A.i2;have b4:I<=16:=by omega
 obtain⟨us,hN,b5⟩:=a4y _ ts rfl ((Sl λt ht=>(A.lens ht).1).1 hD) A.ok;have HC:=Xr ((Sl λt ht=>(A.lens ht).1).1 hD);have HN:=Xr hN;have e9:=Xr b5;clear hT A b2 hD hN b5;refine ent pl49 func49 ?_;simp (disch:=first|omega|simp) [*];refine Xs (b3.out _ _ (by omega) λb (f:b<n)=>by simp (disch:=omega) only[Ad]) ?_;rintro _ ⟨gX,n',rfl,i5,hX⟩;have i6:n<=n':=by omega
 have HX:Aa (∀b,b<n->gX b=g b):=⟨λb f=>(hX b (by omega)).trans (by simp (disch:=omega) only[Ad])⟩;have hB:gX n=some (.cells [.li I,.li O,sv] true 0):=(hX n (by omega)).trans (by simp (disch:=omega) only[Ad,Ah]);have b6:=(hX (n+1) (by omega));simp only[Ah] at b6;clear hX;simp only[conC,Option.isSome];simp (disch:=first|omega|simp) [*];refine Xs (a4z I (by omega) _ _) ?_;rintro _ rfl;simp (disch:=first|omega|simp) [*];refine Xv (λm D H'=>∃(k n2:Nat)(gL:Gb)(rk:Tq)(bk:List Nat)(B:Nat) (tv:AV),k<=ts.length/\m=ts.length-k/\H'=⟨.fn gL,n2⟩/\n'+1+1+1+1<=n2/\Aa (∀b,b<n'->gL b=gX b)/\Aa (F7 gL (n'+1) n2 (n'+1+1+1) I rk bk B tv)/\Aa (Ir I rk)/\rk.length<=1+256*k/\Aa (rk=Po I (ts.take k)) /\
  D 1=some (.ptr n 0)/\D 2=some (.ptr (n+1) 0)/\D 7=some (.ptr (n'+1+1+1) 0)/\D 8=some (.func (.func 106) [] [.ptr (n'+1+1+1) 0,.ptr n 0])/\D 33=some sv/\D 34=some (.li ts.length)/\D 35=some (.li k)) (m0:=ts.length) ?_ ?_
 .refine⟨0,_,_,[List.replicate I (-1,-1)],[n'+1],n'+1+1,.sl (n'+1+1) 0 1 1,W3 _,rfl,rfl,Wy _,⟨λb f=>?_⟩,⟨⟨⟨rfl,by simp,λk h1 h2=>?_⟩,by simp,⟨by omega,by omega⟩,⟨by omega,by omega⟩,by omega,by simp;omega,by simp,Ah,.inl ⟨rfl,rfl,?_⟩⟩⟩,⟨λrow hr=>?_⟩,by simp,⟨rfl⟩,by simp[*]⟩
  .simp (disch:=omega) only[Ad]
  .have e:k=0:=by simp at h1;omega
   subst e;exact⟨by simp,by simp,by simp (disch:=omega) [Ad,Ah],by simp⟩
  .simp (disch:=omega) [Ad,Ah,Ce]
  .rw[Xf.1 hr];exact⟨by simp,λe he=>.inl (by rw[(e9g.1 he).2])⟩
 rintro m D H' ⟨k,n2,gL,rk,bk,B,tv,hk,rfl,rfl,i7,HG,a0,g0,i8,b7,w1,w2,w7,w8,i9,j0,j1⟩ ih;have a3:=(HG.out n (by omega)).trans hB;have a5:=(HG.out (n+1) (by omega)).trans b6;have a6:=a0.out.gt;refine rnd pl49 ?_;by_cases a1:k<ts.length
 .have g1:(k:Int)<(ts.length:Int):=by omega
  obtain⟨a2,off,s1,s2,b8⟩:=(HT.out.mono (n':=n'+1) (g':=gL) (show n<=n'+1 by omega) λb f=>(HG.out b (by omega)).trans (HX.out b f)).at a1;have Q:=Xr b8;clear b8;have g2:∀{H:Mem}{ev:Ev}{o:Oper}{ty:TypeId},iaS prog H ev o ty (some (none,2)) (some sv) (some (.li (k:Int)))=.val (.ptr a2 (off+k*2)) H:=λ{H ev o ty}=>Q.out.ia;have j2:a2<n'+1:=Q.out.an;have g3:=Q.out.agg;have g4:oneC s1=true:=Q.out.r1.one;have g5:oneC s2=true:=Q.out.r2.one;have j3:allOne [s1,s2]=true:=by simp[g4,g5]
  have a4:=HL.out.ok _ (W2 a1);unfold B0 at a4;rw[W0,W0] at a4;have g6:Aa (inW ts[k].1 I=true):=⟨a4.1.2⟩;clear a4;have g7:=Xr (HL.out.lens (W2 a1));have g8:=HL.out.wl _ (W2 a1);have b9:=Xr (e0w (I:=I) a1);rw[<- b7.out] at b9;have c0:=Xr λ(U:Gb)(n3:Nat)(h1:n2<=n3)(h2:∀b,b<n2->U b=gL b)=>e0o b4 g7.out.1 g6.out g8 (n'+1) n3 (n'+1+1+1) n U (a0.out.keep (g':=U) h1 λa _ h=>h2 a h) g0.out (by omega) (by omega) ((h2 n (by omega)).trans a3) (by omega) (Xw (Wy _) (λb f=>h2 b (by omega)) Q.out.r1) (Xw (Wy _) (λb f=>h2 b (by omega)) Q.out.r2);clear Q;generalize ts[k]=t at *;simp (disch:=first|omega|simp) [*];refine Xs (c0.out _ _ (by omega) λb f=>Ad f) ?_;rintro _ ⟨U,n3,bF,BF,tF,rfl,g9,Z,a7,a8,h0⟩;rw[<- b9.out] at a7 a8 h0;have h3:=Xr a7;have h4:=Xr a8;have a9:=Xr Z;clear a7 a8 Z c0 a6 a3 a5 g2 g3;simp (disch:=first|omega|simp) [*];exact ih.out (ts.length-(k+1)) _ _ (by omega) ⟨k+1,n3,U,_,bF,BF,tF,by omega,rfl,rfl,by omega,⟨λb f=>(a9.out b (by omega)).trans ((Ad (by omega)).trans (HG.out b f))⟩,h3,h4,by omega,⟨rfl⟩,by simp[*]⟩
 .have g1:¬(k:Int)<(ts.length:Int):=by omega
  have h5:k=ts.length:=by omega
  have c1:rk=Bg (valT ts) ([]::us) I:=by rw[b7.out,h5,Xl];exact e9.out
  have c2:([]::us).length<=100000:=by rw[<- @G7 (valT ts) ([]::us) I,<- c1];omega
  rw[c1] at a0;have c6:=Xr (e0v (V:=valT ts) (ws:=[]::us) (O:=O) (by omega) b4 HN.out (λx o h=>b4o HL.out.ok h) (λx i o h=>(Vq HL.out.ok h).1) rfl c2 (n'+1) n2 B gL tv bk a0.out.rb a0.out.bl.2 (by have:=a0.out.gb;rwa [G7] at this));clear c2;simp (disch:=first|omega|simp) [*];refine Xs c6.out ?_;rintro _ ⟨U,n3,bF,os,rfl,g9,Z,c7,c8,b0,c9⟩;obtain⟨b1,_,e0⟩:=b4p HL.out.ok HC.out HN.out c7;have e5:RowsC U n2 n3 I (Aj I ts) bF:=by rw[b1] at b0;exact b0
  have e6:([]::us).length=(Aj I ts).length:=by rw[<- c8,b1];unfold Aj;rw[G7]
  rw[e6];have e7:=Xr e5;have a9:=Xr Z;have j4:U (n+1)=some (.cells [.li 0,.li 0,.nl] true 0):=(Z _ (by omega)).trans a5;have j5:=(Z n (by omega)).trans a3;have j6:=(Z (n'+1+1+1) (by omega)).trans a6;have h6:=Xr c9;have h7:=Xr e0;clear e5 b0 Z c9 a6 a3 a5 e0 c7 c8 b1 c6 e6 a0;simp (disch:=first|omega|simp) [*];refine⟨_,_,bF,_,⟨rfl,rfl,rfl⟩,by omega,λb f=>?_,by omega,by omega,⟨e7.out.len,λj h1 h2=>?_⟩,?_,h7.out⟩
  .rw[Ad (by omega),a9.out b (by omega),HG.out b (by omega)];exact HX.out b f
  .obtain⟨e1,e2,e3,e4⟩:=e7.out.at' j h1 h2;exact⟨by omega,e2,(Ae (by omega)).trans e3,e4⟩
  .rw[Ae (by omega)];exact h6.out
theorem e0x(g:Gb)(n:Nat):WC 0 prog 104 [.lit (.bool true)] ⟨.fn g,n⟩ λr=>r=.ret (.li 18) ⟨.fn g,n⟩:=by
 refine ent [] func104 ?_;simp (disch:=first|omega|simp) [*]
theorem e0y{I:Nat}(Q:Cc I O ts){D:Nat×Nat×Nat}(U:Dv ts ts 0=some D)(g:Gb)(n:Nat)(sv:AV)(h:Du g n ts sv)(Z:Av sv):
  WC 0 prog 49 [.agg [.li I,.li O,sv]] ⟨.fn g,n⟩ λr=>∃f n',r=.ret (.tup [.agg [.li 0,.li 0,.nl],.li 18]) ⟨.fn f,n'⟩/\n<=n'/\∀b,b<n->f b=g b:=by
 have a3:=@Au prog _ _ _ _ _ h.choose_spec.1;have a1:=h.choose_spec.1.one;have a4:allOne [.li I,.li O,sv]=true:=by simp[a1]
 have a0:=Xr λ(f:Gb)(n2:Nat)(hn:n<=n2)(hX:∀b,b<n->f b=g b)=>b4d Q f n2 sv (h.mono hn hX) Z;rw[U] at a0;clear h Q Z U;refine ent pl49 func49 ?_;simp (disch:=first|omega|simp) [*];refine Xs (a0.out _ _ (by omega) λb (A:b<n)=>by simp (disch:=omega) only[Ad]) ?_;rintro _ ⟨f,n',rfl,a5,hX⟩;have a6:n<=n':=by omega
 have HX:Aa (∀b,b<n->f b=g b):=⟨λb A=>(hX b (by omega)).trans (by simp (disch:=omega) only[Ad])⟩;have hB:f n=some (.cells [.li I,.li O,sv] true 0):=(hX n (by omega)).trans (by simp (disch:=omega) only[Ad,Ah]);have a2:=(hX (n+1) (by omega));simp only[Ah] at a2;clear hX;obtain⟨d1,d2,d3⟩:=D;simp only[conC,Option.isSome];simp (disch:=first|omega|simp) [*];refine Xs (e0x _ _) ?_;rintro _ rfl;simp (disch:=first|omega|simp) [*];exact⟨_,_,⟨rfl,rfl⟩,by omega,λb (A:b<n)=>by rw[Ad (by omega),Ad (by omega)];exact HX.out b A⟩
theorem e0z(a b:Wd)(c8:a.length<=1000000)(b1:b.length<=1000000)(g:Gb)(n:Nat)(sa sb:AV)(ha:Al g n a sa)(hb:Al g n b sb):
  WC 0 prog 80 [sa,sb] ⟨.fn g,n⟩ λr=>∃z:Int,r=.ret (.li z) ⟨.fn g,n⟩/\decide (z=0)=decide (a=b):=by
 have c9:=@Au prog _ _ _ _ _ ha;have b3:=@Au prog _ _ _ _ _ hb;have HA:=Xr ha;have HB:=Xr hb;clear ha hb;obtain⟨D,a0⟩:∃c,c=decide (a=b):=⟨_,rfl⟩;rw[<- a0];have Q:=Xr a0;clear a0;by_cases t1:a.length<b.length
 .have b4:(a.length:Int)<(b.length:Int):=by omega
  have U:D=false:=by
   rw[Q.out];exact decide_eq_false λh=>by rw[h] at t1;omega
  refine ent pl80 func80 ?_;simp (disch:=first|omega|simp) [*]
 by_cases t2:b.length<a.length
 .have e0:(b.length:Int)<(a.length:Int):=by omega
  have b4:¬(a.length:Int)<(b.length:Int):=by omega
  have U:D=false:=by
   rw[Q.out];exact decide_eq_false λh=>by rw[h] at t2;omega
  refine ent pl80 func80 ?_;simp (disch:=first|omega|simp) [*]
 have hL:b.length=a.length:=by omega
 have HL:=Xr hL;rw[hL] at b3;clear t1 t2 hL b1;refine ent pl80 func80 ?_;simp (disch:=first|omega|simp) [*];refine Xv (λm Z H'=>∃(k:Nat),k<=a.length/\m=a.length-k/\H'=⟨.fn g,n⟩/\Aa (a.take k=b.take k)/\Z 0=some sa/\Z 1=some sb/\Z 5=some (.li k)) (m0:=a.length) ?_ ?_
 .exact⟨0,W3 _,rfl,rfl,⟨by simp⟩,by simp[*]⟩
 rintro m Z H' ⟨k,hk,rfl,rfl,a1,w0,w1,w5⟩ ih;refine rnd pl80 ?_;by_cases f:k<a.length
 .have b5:(k:Int)<(a.length:Int):=by omega
  have A:k<b.length:=by rw[HL.out];exact f
  obtain⟨a2,off,b6,a3,b7⟩:=X4 (P:=prog) HA.out f 1;obtain⟨b2,e1,b8,a4,b9⟩:=X4 (P:=prog) HB.out A 1;simp only[Xk] at b7 b9;have c0:=a3.one (k:=k) (s:=1) (by rw[Cb];exact f);have c1:=a4.one (k:=k) (s:=1) (by rw[Cb];exact A);rw[(W8.1 (Kq a k f)).2] at c0;rw[(W8.1 (Kq b k A)).2] at c1;have a5:a.take (k+1)=a.take k++[a[k]]:=by rw[e6w,W5 f];rfl
  have a6:b.take (k+1)=b.take k++[b[k]]:=by rw[e6w,W5 A];rfl
  have a7:a=b->a[k]=b[k]:=λh=>by subst h;rfl
  have c2:=Xr a5;have c6:=Xr a6;have HN:=Xr a7;clear a5 a6 a7 a3 a4 b6 b8;generalize a[k]=u at *;generalize b[k]=v at *;clear A;have a8:u≠v->D=false:=λh=>by rw[Q.out];exact decide_eq_false λe=>h (HN.out e)
  have a9:=Xr a8;clear a8;by_cases t1:u<v
  .have U:=a9.out (by omega);simp (disch:=first|omega|simp) [*]
  by_cases t2:v<u
  .have U:=a9.out (by omega);simp (disch:=first|omega|simp) [*]
  .have c7:=Xr (show u=v by omega);simp (disch:=first|omega|simp) [*];refine ih.out (a.length-(k+1)) _ _ (by omega) ⟨k+1,by omega,rfl,rfl,⟨?_⟩,by simp[*]⟩;rw[c2.out,c6.out,a1.out,c7.out]
 .have b5:¬(k:Int)<(a.length:Int):=by omega
  have b0:k=a.length:=by omega
  have U:D=true:=by
   rw[Q.out];have h1:=a1.out;rw[b0,Xl,<- HL.out,Xl] at h1;exact decide_eq_true h1
  clear b0;simp (disch:=first|omega|simp) [*]
theorem e1a(a b:Wd)(a1:a.length<=1000000)(a2:b.length<=1000000)(g:Gb)(n:Nat)(h A:AV)(D:Al g n a h)(Q:Al g n b A):
  WC 0 prog 29 [h,A] ⟨.fn g,n⟩ λr=>r=.ret (.lit (.bool (decide (a=b)))) ⟨.fn g,n⟩:=by
 have U:=Xr (e0z a b a1 a2 g n h A D Q);clear D Q;obtain⟨a3,Z⟩:∃c,c=decide (a=b):=⟨_,rfl⟩;rw[<- Z] at U |-;clear Z;refine ent [] func29 ?_;simp (disch:=first|omega|simp) [*];refine Xs U.out ?_;rintro _ ⟨z,rfl,f⟩
 cases a3 with
 | true =>
  have a0:z=0:=of_decide_eq_true f;clear f;subst a0;simp (disch:=first|omega|simp) [*]
 | false =>
  have a0:¬z=0:=of_decide_eq_false f;clear f;simp (disch:=first|omega|simp) [*]
def Jz(g:Gb)(n:Nat)(ts:Lq)(sv:AV):Prop:=∃cs,Af g n sv ts.length cs/\RowsT g n ts cs/\∀v∈cs,Av v
theorem Jz.log{g:Gb}{n:Nat}(h:Jz g n ts sv):Du g n ts sv:=let ⟨cs,f,A,_⟩:=h;⟨cs,f,A⟩
theorem Jz.mono{g:Gb}{n:Nat}(h:Jz g n ts sv)(f:n<=n')(A:∀a,a<n->g' a=g a):Jz g' n' ts sv:=
 let ⟨cs,D,Q,U⟩:=h;⟨cs,D.mono f A,Q.ext f λa x Z hx=>(A a Z).trans hx,U⟩
theorem Jz.at{g:Gb}{n:Nat}(h:Jz g n ts sv){k:Nat}(D:k<ts.length):∃a off s1 s2,AtT g n sv k ts[k] a off s1 s2/\Av s1/\Av s2:=by
 obtain⟨cs,Z,Q,U⟩:=h;obtain⟨s1,s2,f,e2,r1,r2⟩:=Q.2 k D;obtain⟨a,off,ha,A,a0⟩:=X4 (P:=prog) Z D 2;have hl:=Q.1;refine⟨a,off,s1,s2,⟨ha,a0,?_,?_,?_,r1,r2⟩,U _ (e5w f),U _ (e5w e2)⟩
 .rw[A.agg (k:=k*2) (s:=2) (by omega),a4l f e2]
 .have:=A.one (k:=k*2) (s:=1) (by omega)
  rwa [(W8.1 f).2] at this
 .have:=A.one (k:=k*2+1) (s:=1) (by omega);rw[(W8.1 e2).2] at this;rw[e7w];exact this
theorem RowsW.snoc{g:Gb}{n:Nat}{l:Wq}(h:RowsW g n l svs){x:Wd}{q:AV}(A:Al g n x q):RowsW g n (l++[x]) (svs++[q]):=by
 refine⟨by simp[h.1],λk D=>?_⟩;have Q:=h.1;rw[W1,Xj] at D;by_cases f:k<l.length
 .obtain⟨sv,U,e2⟩:=h.2 k f;exact⟨sv,by rw[e5v (by omega)];exact U,by rw[e6b f];exact e2⟩
 .have e:k=l.length:=by omega
  subst e;exact⟨q,by rw[<- Q,Xm (Wy _)];simp,by rw[e7e (Wy _)];simpa using A⟩
theorem b4u{w:Wd}:∀{l:Wq},(Ek w l).length<=l.length+1
 | []=>Wy _
 | x::l=>by
  have:=@b4u w l;unfold Ek;split
  .simp
  .split
   .simp
   .simp;omega
def RowsG(g:Gb)(n:Nat)(rows:Tq)(svs:List AV):Prop:=svs.length=rows.length/\∀(k:Nat)(h:k<rows.length),∃sv,svs[k]?=some sv/\Af g n sv rows[k].length (Ar rows[k])
def Cf(g:Gb)(n:Nat)(rows:Tq)(tv:AV):Prop:=∃svs,Af g n tv rows.length svs/\RowsG g n rows svs
theorem RowsG.snoc{g:Gb}{n:Nat}{l:Tq}(h:RowsG g n l svs){x:List (Int×Int)}{q:AV}(A:Af g n q x.length (Ar x)):RowsG g n (l++[x]) (svs++[q]):=by
 refine⟨by simp[h.1],λk D=>?_⟩;have Q:=h.1;rw[W1,Xj] at D;by_cases f:k<l.length
 .obtain⟨sv,U,e2⟩:=h.2 k f;exact⟨sv,by rw[e5v (by omega)];exact U,by rw[e6b f];exact e2⟩
 .have e:k=l.length:=by omega
  subst e;exact⟨q,by rw[<- Q,Xm (Wy _)];simp,by rw[e7e (Wy _)];simpa using A⟩
theorem RowsG.ext{g:Gb}{n:Nat}{l:Tq}(h:RowsG g n l svs)(f:n<=n')(A:∀a x,a<n->g a=some x->g' a=some x):RowsG g' n' l svs:=
 ⟨h.1,λk D=>let ⟨sv,Q,U⟩:=h.2 k D;⟨sv,Q,Xx f A U⟩⟩
theorem Cf.mono{g:Gb}{n:Nat}{rows:Tq}{f:AV}(h:Cf g n rows f)(A:n<=n')(D:∀a,a<n->g' a=g a):Cf g' n' rows f:=
 let ⟨svs,Q,U⟩:=h;⟨svs,Q.mono A D,U.ext A λa x Z hx=>(D a Z).trans hx⟩
theorem RowsC.tree{g:Gb}{lo n I B:Nat}{rows:Tq}{f:List Nat}(h:RowsC g lo n I rows f)(D:B<n)(Q:g B=some (.cells (Ce I f) true 0)):Cf g n rows (.sl B 0 rows.length rows.length):=by
 refine⟨Ce I f,Ez Q D,by rw[Pr];exact h.len,λk U=>?_⟩;have A:k<f.length:=by have:=h.len;omega
 obtain⟨Z,e2,e3,e4⟩:=h.at' k A U;refine⟨.sl f[k] 0 I I,by rw[W5 (by rw[Pr];exact A),a5a A],?_⟩;rw[e4];exact Ez e3 e2
theorem Cf.at{g:Gb}{n:Nat}{rows:Tq}{f:AV}(h:Cf g n rows f){k:Nat}(A:k<rows.length):∃a off q,a<n/\(∀{H:Mem}{ev:Ev}{o:Oper}{t:TypeId},iaS prog H ev o t (some (none,1)) (some f) (some (.li (k:Int)))=.val (.ptr a (off+k)) H)/\Bf (some (false,1)) (g a) (off+k)=some q/\Af g n q rows[k].length (Ar rows[k]):=by
 obtain⟨svs,U,h2,Z⟩:=h;obtain⟨q,e1,e2⟩:=Z k A;obtain⟨a,off,ha,a0,D⟩:=U.ia (P:=prog) A 1;simp only[Xk] at D;have Q:=a0.one (k:=k) (s:=1) (by omega);rw[(W8.1 e1).2] at Q;exact⟨a,off,q,ha,D,Q,e2⟩
theorem Vr{g:Gb}{n:Nat}{row:List (Int×Int)}{q:AV}(h:Af g n q row.length (Ar row)){i:Nat}(hi:i<row.length):∃a off,a<n/\(∀{H:Mem}{ev:Ev}{o:Oper}{t:TypeId},iaS prog H ev o t (some (none,2)) (some q) (some (.li (i:Int)))=.val (.ptr a (off+i*2)) H)/\Bf (some (true,2)) (g a) (off+i*2)=some (.agg [.lit (.int .i64 row[i].1),.lit (.int .i64 row[i].2)]):=by
 obtain⟨a,off,A,D,Q⟩:=h.ia (P:=prog) hi 2;have f:=D.agg (k:=i*2) (s:=2) (by rw[rowC_len];omega);rw[rowC_at row i hi] at f;exact⟨a,off,A,Q,f⟩
end Go.Ai
