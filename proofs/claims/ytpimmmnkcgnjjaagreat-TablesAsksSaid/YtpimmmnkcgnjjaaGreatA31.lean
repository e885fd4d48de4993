/- Parts of an interpreter and of a proof. No condition. -/
import Derived.Test.YtpimmmnkcgnjjaaGreatA28
import Derived.Test.YtpimmmnkcgnjjaaGreatA09
import Derived.Test.YtpimmmnkcgnjjaaGreatA12
set_option linter.all false
set_option maxHeartbeats 40000000
set_option maxRecDepth 10000
open Go.Proofs Go.Proofs.Tryz
namespace Go.Ai
theorem mkI128:mkI prog 152=none:=by kernel_rfl
theorem e4f{H:Mem}{a b:Int}(h:0<=a)(A:a<=b)(D:b<=1048576):F0 prog H 152 none (some (.li a)) (some (.li b))=.val (.sl H.next 0 a.toNat b.toNat) (H.add (.cells (rep [.li 0,.li 0] b.toNat) true 0)):=
 Pd (e:=156) (size:=2) (bytes:=16) (z:=[.li 0,.li 0]) (by kernel_rfl) (by decide) (by decide) (by kernel_rfl) h A D
attribute [simp] mkI128 e4f
theorem b6w{T:Tq}{W:Wq}:∀(E:List (Nat×Int)),sumT (E.map λs=>(eW W s,Bm T 0 (eW W s)))=Ca W E
 | []=>rfl
 | s::E=>by show (eW W s).length+sumT (E.map _)=(eW W s).length+Ca W E;rw[b6w E]
theorem Wa(g:Gb)(n:Nat):WC 0 prog 93 [.nl] ⟨.fn g,n⟩ λr=>r=.ret (.nl) ⟨.fn g,n⟩:=by
 refine ent [] func93 ?_;simp (disch:=first|omega|simp) [*]
theorem Wb(g:Gb)(n b k:Nat)(h:0<k)(A:k<=100000):WC 0 prog 93 [.sl b 0 k k] ⟨.fn g,n⟩ λr=>r=.ret (.sl b 0 k k) ⟨.fn g,n⟩:=by
 have D:¬k=0:=by omega
 refine ent [] func93 ?_;simp (disch:=first|omega|simp) [*]
theorem Wc(g:Gb)(n b k:Nat)(h:0<k)(A:k<=100000):WC 0 prog 93 [.slq b 0 k 0] ⟨.fn g,n⟩ λr=>r=.ret (.sl b 0 k k) ⟨.fn g,n⟩:=by
 have D:¬k=0:=by omega
 refine ent [] func93 ?_;simp (disch:=first|omega|simp) [*]
def Sh(g:Gb)(lo n:Nat)(wv rv:AV)(aw ar:Wd)(bw br:Nat):Prop:=
 (aw=[]/\ar=[]/\wv=.nl/\rv=.nl) \/
 (∃x y,aw=[x]/\ar=[y]/\wv=.sl bw 0 1 1/\rv=.sl br 0 1 1/\lo<=bw/\bw<br/\br<n/\g bw=some (.cells [.li x] true 0)/\g br=some (.cells [.li y] true 0)) \/
 (aw≠[]/\wv=.slq bw 0 aw.length 0/\rv=.slq br 0 aw.length 0/\lo<=bw/\bw<br/\br<n/\g bw=some (.cells (wdC aw) true 1)/\g br=some (.cells (wdC ar) true 1))
theorem Ba.of{g:Gb}{lo n B b:Nat}{w:Wd}{own:Bool}{z c:Nat}(h:g b=some (.cells (wdC w) own z))(Q:lo<=b)(D:b<n)(U:b≠B):Ba g lo n B w (.sl b 0 w.length c):=
 ⟨λa=>if a=b then g a else none,⟨λa x hx=>(by
  have A:(if a=b then g a else none)=some x:=hx;split at A
  .rename_i e;subst e;exact⟨A,Q,D,U⟩
  .cases A),Yj ((if_pos rfl).trans h) D⟩⟩
abbrev Yk:=@Ba.of
theorem Ba.nil2{g:Gb}{lo n B:Nat}:Ba g lo n B [] (.nl):=⟨λ_=>none,λa x hx=>(by cases hx),.inl ⟨rfl,rfl,.inl rfl⟩⟩
abbrev Y8:=@Ba.nil2
theorem e4g{I:Nat}{O:Int}{T:Tq}{W:Wq}(hI1:1<=I)(hI2:I<=16)(hO1:1<=O)(hO2:O<=16)(h0:0<T.length)(hl:T.length<=65537)(hgo:goT I O T 0 1=some T.length)(hLab:Lab T W)(hE:(endsM T 0).length<=1024)(hW:∀t,t<T.length->(W.getD t []).length<=256)(hWe:∀s∈endsM T 0,(eW W s).length<=256)(hS:Ca W (endsM T 0)<=65536)(g:Gb)(n:Nat)(tv:AV)(hT:Dv g n T tv):
  WC 0 prog 67 [.agg [.li I,.li O,tv]] ⟨.fn g,n⟩ λr=>∃us cs B g' n',r=.ret (.tup [.agg [.li I,.li O,.sl B 0 (endsM T 0).length (endsM T 0).length],.li 0]) ⟨.fn g',n'⟩/\us.Perm (bkM T W)/\(∀(i j:Nat)(_:i<j)(hj:j<us.length),¬ A4 us[j].1 (us[i]'(by omega)).1<0)/\n<=n'/\(∀b,b<n->g' b=g b)/\n<=B/\B<n'/\g' B=some (.cells cs true 0)/\RowsF g' n n' B us cs/\∀v∈cs,Ay v:=by
 have hlen:=@Ap prog _ _ _ _ _ hT.choose_spec.1;have h1t:=hT.choose_spec.1.one;have hone:allOne [.li I,.li O,tv]=true:=by simp[h1t]
 have HOK:=Xu (okT_of hgo);have HT:=Xu hT;have HLB:=Xu hLab;have HNE:Aa (0<(endsM T 0).length):=⟨a5r (I:=I) (O:=O) hLab h0 λr hr=>(okT_of hgo r hr).2⟩;have HCK:=Xu λ(gX:Gb)(n2:Nat)(hn:n<=n2)(hX:∀b,b<n->gX b=g b)=>e1a hI1 hI2 hO1 hO2 h0 hl hgo (λr hr=>by have:=(okT_of hgo r hr).1;omega) gX n2 tv (hT.mono hn hX);have HEN:=Xu λ(gX:Gb)(n2:Nat)(hn:n<=n2)(hX:∀b,b<n->gX b=g b)=>e3y hI1 hI2 h0 hl hgo hLab hE hW hS gX n2 tv (hT.mono hn hX);have HBK:Aa (bkM T W=(endsM T 0).map λs=>(eW W s,Bm T 0 (eW W s))):=⟨rfl⟩;have HEM:=Xu λ(s:Nat×Int)(hs:s∈endsM T 0)=>M5.1 hs;have HRE:=Xu λ(k i:Nat)(hk:k<T.length)(hi:i<(T[k]).length) (h:T[k][i]=(-1,-2))=>b6p hLab hk hi h;have HED:=Xu λ(p j t:Nat)(o:Int)(h:EdO T p j t o)=>b6o hLab h;have HWE:=Xu hWe;have HS:=Xu hS;generalize endsM T 0=E at *;clear hT hgo hLab hW hS hWe;have hW2:(T.length:Int)<=1048576:=by omega
 refine ent pl67 func67 ?_;simp (disch:=first|omega|simp) [*];refine Xv (HCK.out _ _ (by omega) λb hb=>by simp (disch:=omega) only[Ad]) ?_;rintro _ rfl;simp (disch:=first|omega|simp) [*];refine Xv (HEN.out _ _ (by omega) λb hb=>by simp (disch:=omega) only[Ad]) ?_;rintro _ ⟨g1,n1,BE,ov,rfl,hn1,hg1,hgr⟩;have HG1:Aa (∀b,b<n->g1 b=g b):=⟨λb hb=>(hg1 b (by omega)).trans (by simp (disch:=omega) only[Ad])⟩;have hx1:=hg1 n (by omega);have hx2:=hg1 (n+1) (by omega);simp (disch:=omega) only[Ad,Ag] at hx1 hx2;have HOV:=Xu (A6.slice hgr);have hone2:oneC ov=true:=hgr.one;have hlo:=@Ap prog _ _ _ _ _ HOV.out;clear hg1 HEN HCK hgr;simp (disch:=first|omega|simp) [*];refine Xy (λm gf H'=>∃(k n2:Nat)(gL:Gb)(F:List AV),k<=T.length/\m=T.length-k/\H'=⟨.fn gL,n2⟩/\n1+1<=n2/\Aa (∀b,b<n1->gL b=g1 b)/\gL n1=some (.cells F true 0)/\F.length=T.length*2/\Aa (∀t p j,EdT T p j t->p<k->F[t*2]?=some (.li ((p:Nat):Int))/\F[t*2+1]?=some (.li ((j:Nat):Int))) /\
  gf 1=some (.ptr n 0)/\gf 2=some (.ptr (n+1) 0)/\gf 5=some ov/\gf 7=some (.sl n1 0 T.length T.length)/\gf 36=some tv/\gf 37=some (.li T.length)/\gf 38=some (.li k)) (m0:=T.length) ?_ ?_
 .refine⟨0,_,_,_,W3 _,rfl,rfl,Wy _,⟨λb hb=>Ad hb⟩,Ag,?_,⟨λt p j _ h=>by omega⟩,by simp[*]⟩;rw[Gn];simp
 rintro m gf H' ⟨k,n2,g2,F,hk,rfl,rfl,hn2,HG,hgF,hF,HF,w1,w2,w5,w7,w36,w37,w38⟩ ih;have hgn:=(HG.out n (by omega)).trans hx1;have hgz:=(HG.out (n+1) (by omega)).trans hx2;refine rnd pl67 ?_;by_cases hlt:k<T.length
 .have hltI:(k:Int)<(T.length:Int):=by omega
  obtain⟨a2,o2,q,ha2,hia2,hc2,hq⟩:=HT.out.at hlt;rw[<- HG1.out a2 ha2,<- HG.out a2 (by omega)] at hc2;have h1q:oneC q=true:=hq.one;have hlq:=@Ap prog _ _ _ _ _ hq;have HO1:=Xu (HOK.out _ (W2 hlt));have hrl16:(T[k]).length<=16:=by have:=HO1.out.1;omega
  have HEDT:Aa (∀(i:Nat)(h:i<(T[k]).length) (t:Nat),(T[k])[i].1=(t:Int)->EdT T k i t):=⟨λi h t ht=>⟨_,by rw[Xo,W6 hlt];simp[h],ht⟩⟩;have HEDI:Aa (∀(j t:Nat),EdT T k j t->∃h:j<(T[k]).length,(T[k])[j].1=(t:Int)):=⟨λj t ⟨e,h1,h2⟩=>by
   rw[Xo,W6 hlt] at h1;obtain⟨h3,h4⟩:=W8.1 h1;exact⟨h3,by rw[<- h2];exact congrArg _ h4⟩⟩
  have HQ:=Xu hq;clear hq;generalize T[k]=row at *;simp (disch:=first|omega|simp) [*];refine Xy (λm gf H'=>∃(i n3:Nat)(gI:Gb)(F:List AV),i<=row.length/\m=row.length-i/\H'=⟨.fn gI,n3⟩/\n2<=n3/\Aa (∀b,b<n1->gI b=g1 b)/\gI n1=some (.cells F true 0)/\F.length=T.length*2/\Aa (∀t p j,EdT T p j t->(p<k\/p=k/\j<i)->F[t*2]?=some (.li ((p:Nat):Int))/\F[t*2+1]?=some (.li ((j:Nat):Int))) /\
   gf 1=some (.ptr n 0)/\gf 2=some (.ptr (n+1) 0)/\gf 5=some ov/\gf 7=some (.sl n1 0 T.length T.length)/\gf 8=some (.li k)/\gf 36=some tv/\gf 37=some (.li T.length)/\gf 38=some (.li k) /\
   gf 43=some q/\gf 44=some (.li row.length)/\gf 45=some (.li i)) (m0:=row.length) ?_ ?_
  .exact⟨0,n2,g2,F,W3 _,rfl,rfl,Wy _,HG,hgF,hF,⟨λt p j h1 h2=>HF.out t p j h1 (by omega)⟩,by simp[*]⟩
  clear hgF hF HF w1 w2 w5 w7 w36 w37 w38 hgn hgz;rintro m gf H' ⟨i,n3,gI,F,hi,rfl,rfl,hn3,HGI,hgF,hF,HF,w1,w2,w5,w7,w8,w36,w37,w38,w43,w44,w45⟩ ih2;refine rnd pl67 ?_;by_cases hil:i<row.length
  .have hilI:(i:Int)<(row.length:Int):=by omega
   obtain⟨a3,o3,ha3,hia3,hc3⟩:=Vq HQ.out hil;rw[<- HG1.out a3 ha3,<- HGI.out a3 (by omega)] at hc3;have HE1:=Xu (HO1.out.2 _ (W2 hil));have HEDx:=Xu λt ht=>HEDT.out i hil t ht;have HDI:Aa (∀j t,EdT T k j t->j<i+1->¬ j<i->((row[i]).1=(t:Int))):=⟨λj t hE h1 h2=>by
    obtain⟨h3,h4⟩:=HEDI.out j t hE;have:j=i:=by omega
    subst this;exact h4⟩
   generalize row[i]=e at *;obtain⟨to,eo⟩:=e;dsimp only at HE1 HEDx HDI hc3;by_cases ht:to = -1
   .subst ht;simp (disch:=first|omega|simp) [*];refine ih2.out (row.length-(i+1)) _ _ (by omega) ⟨i+1,_,_,F,by omega,rfl,rfl,by omega,⟨λb hb=>?_⟩,?_,hF,⟨λt p j h1 h2=>HF.out t p j h1 ?_⟩,by simp[*]⟩
    .simp (disch:=omega) only[Ad,Ae];exact HGI.out b hb
    .simp (disch:=omega) only[Ad,Ae];exact hgF
    .by_cases h3:p<k
     .exact .inl h3
     .have hpk:p=k:=by omega
      subst hpk;by_cases hji:j<i
      .exact .inr ⟨rfl,hji⟩
      .have:=HDI.out j t h1 (by omega) hji;omega
   .obtain⟨t,rfl⟩:∃t:Nat,to=t:=⟨to.toNat,by have:=HE1.out;omega⟩;have htl:t<T.length:=by have:=HE1.out;omega
    have hEd:=HEDx.out t rfl;have htF:t*2+([.li (k:Int),.li (i:Int)]:List AV).length<=F.length:=by simp;omega
    have htF2:t*2+2<=F.length:=by omega
    have HPL:Aa ((Aq F (t*2) [.li (k:Int),.li (i:Int)]).length=T.length*2):=⟨by rw[D1 htF];exact hF⟩;have HDN:Aa (∀u p j,EdT T p j u->(p<k\/p=k/\j<i+1)->(Aq F (t*2) [.li (k:Int),.li (i:Int)])[u*2]?=some (.li ((p:Nat):Int))/\(Aq F (t*2) [.li (k:Int),.li (i:Int)])[u*2+1]?=some (.li ((j:Nat):Int))):=⟨λu p j h1 h2=>by
     by_cases hut:u=t
     .subst hut;obtain⟨e1,e2⟩:=HLB.out.uniq h1 hEd;subst e1 e2;exact⟨a3a htF2,a3b htF2⟩
     .rw[Pe htF (by simp;omega),Pe htF (by simp;omega)];refine HF.out u p j h1 ?_;by_cases h3:p<k
      .exact .inl h3
      .have hpk:p=k:=by omega
       subst hpk;by_cases hji:j<i
       .exact .inr ⟨rfl,hji⟩
       .have:=HDI.out j u h1 (by omega) hji;omega⟩
    clear HDI HEDx;simp (disch:=first|omega|simp) [*];refine ih2.out (row.length-(i+1)) _ _ (by omega) ⟨i+1,_,_,Aq F (t*2) [.li (k:Int),.li (i:Int)],by omega,rfl,rfl,by omega,⟨λb hb=>?_⟩,?_,HPL.out,HDN,by simp[*]⟩
    .simp (disch:=omega) only[Ad,Ae];exact HGI.out b hb
    .simp (disch:=omega) only[Ad,Ae,Ag]<;>simp[Aq]
  .have hilI:¬(i:Int)<(row.length:Int):=by omega
   have hir:i=row.length:=by omega
   simp (disch:=first|omega|simp) [*];refine ih.out (T.length-(k+1)) _ _ (by omega) ⟨k+1,_,gI,F,by omega,rfl,rfl,by omega,HGI,hgF,hF,⟨λt p j h1 h2=>HF.out t p j h1 ?_⟩,by simp[*]⟩;by_cases h3:p<k
   .exact .inl h3
   .have hpk:p=k:=by omega
    subst hpk;obtain⟨h4,_⟩:=HEDI.out j t h1;exact .inr ⟨rfl,by omega⟩
 .have hltI:¬(k:Int)<(T.length:Int):=by omega
  have HFX:Aa (∀t p j,EdT T p j t->F[t*2]?=some (.li ((p:Nat):Int))/\F[t*2+1]?=some (.li ((j:Nat):Int))):=⟨λt p j h=>HF.out t p j h (by have:=h.lt;omega)⟩;have HOV1:Aa (Af g1 n1 ov E.length (F9 E)):=⟨Xz (Wy _) (λa x _ hx=>by
   split at hx
   .exact hx
   .cases hx) HOV.out⟩
  have hE2:(E.length:Int)<=1048576:=by omega
  clear HF HOV hk;simp (disch:=first|omega|simp) [*];refine Xy (λm gf H'=>∃(q nL:Nat)(gL:Gb)(cs Lr:List AV),q<=E.length/\m=E.length-q/\H'=⟨.fn gL,nL⟩/\n2+1+1<=nL/\Aa (∀b,b<n2->gL b=g2 b)/\gL n2=some (.cells Lr true 0)/\Lr.length=E.length*2/\Aa (Lr.take (q*2)=cs)/\gL (n2+1)=some (.cells [.li I,.li O,.sl n2 0 q E.length] true 0)/\Aa (RowsF gL (n2+1+1) nL n2 ((bkM T W).take q) cs)/\Aa (∀v∈cs,Ay v) /\
   gf 1=some (.ptr n 0)/\gf 2=some (.ptr (n+1) 0)/\gf 5=some ov/\gf 7=some (.sl n1 0 T.length T.length)/\gf 12=some (.ptr (n2+1) 0)/\gf 70=some ov/\gf 71=some (.li E.length)/\gf 72=some (.li q)) (m0:=E.length) ?_ ?_
  .refine⟨0,_,_,[],rep [.nl,.nl] E.length,W3 _,rfl,rfl,Wy _,⟨λb hb=>?_⟩,?_,?_,⟨by simp⟩,Ag,⟨RowsF.nil⟩,⟨λv hv=>by cases hv⟩,by simp[*]⟩
   .simp (disch:=omega) only[Ad]
   .simp (disch:=omega) only[Ad,Ag]
   .rw[Gn];simp
  clear w1 w2 w5 w7 w36 w37 w38;rintro m gf H' ⟨q,nL,gL,cs,Lr,hq,rfl,rfl,hnL,HGL,hgLr,hLr,HLR,hgLb,HRF,HCV,w1,w2,w5,w7,w12,w70,w71,w72⟩ ih;have hgLn:=(HGL.out n (by omega)).trans hgn;have hgLz:=(HGL.out (n+1) (by omega)).trans hgz;have hgLF:=(HGL.out n1 (by omega)).trans hgF;refine rnd pl67 ?_;by_cases hql:q<E.length
  .have hqlI:(q:Int)<(E.length:Int):=by omega
   obtain⟨a3,o3,ha3,hia3,hcE⟩:=e4b HOV1.out hql;rw[<- HG.out a3 ha3,<- HGL.out a3 (by omega)] at hcE;have HSM:=Xu (HEM.out _ (W2 hql));have HSE:=Xu (HWE.out _ (W2 hql));have HTK:Aa ((bkM T W).take (q+1)=(bkM T W).take q++[(eW W E[q],Bm T 0 (eW W E[q]))]):=⟨by
    have hbl:q<(bkM T W).length:=by rw[HBK.out,Xl];exact hql
    rw[Bv hbl];congr 2;have:(bkM T W)[q]?=some (eW W E[q],Bm T 0 (eW W E[q])):=by rw[HBK.out,e6r,W6 hql];rfl
    rw[W6 hbl] at this;exact Option.some.inj this⟩
   have hLq:q*2+2<=Lr.length:=by omega
   generalize E[q]=s at *;obtain⟨kk,ii⟩:=s;dsimp only at hcE;obtain⟨SW,hSW⟩:∃x,x=eW W (kk,ii):=⟨_,rfl⟩;obtain⟨SR,hSR⟩:∃x,x=Bm T 0 (eW W (kk,ii)):=⟨_,rfl⟩;rw[<- hSR,<- hSW] at HTK;have hswl:SW.length<=256:=by rw[hSW];exact HSE.out
   by_cases hii:ii = -1
   .have hkk:kk<T.length:=by
     rcases HSM.out with⟨k,h1,i,h2,h3,h4⟩|⟨k,h1,h2,h3⟩
     .injection h4 with e1 e2;omega
     .injection h3 with e1 e2;omega
    have HW0:Aa (SW=W.getD kk []++([]:Wd).reverse/\SR=Bm T 0 (W.getD kk [])++([]:Wd).reverse):=⟨by
     rw[hSW,hSR,hii];unfold eW;simp⟩
    clear hSW hSR HSM HSE;subst hii;simp (disch:=first|omega|simp) [*];refine Xy (λm gf H'=>∃(x nK bw br:Nat)(gK:Gb)(wv rv:AV)(aw ar:Wd),x<T.length/\x=m/\H'=⟨.fn gK,nK⟩/\nL+1+1<=nK/\Aa (∀b,b<nL->gK b=gL b)/\gK (nL+1)=some (.cells [wv,rv] true 0)/\Aa (Sh gK (nL+1+1) nK wv rv aw ar bw br)/\Aa (aw.length=ar.length)/\aw.length<=256/\Aa (SW=W.getD x []++aw.reverse/\SR=Bm T 0 (W.getD x [])++ar.reverse) /\
     gf 1=some (.ptr n 0)/\gf 2=some (.ptr (n+1) 0)/\gf 5=some ov/\gf 7=some (.sl n1 0 T.length T.length)/\gf 12=some (.ptr (n2+1) 0)/\gf 15=some (.ptr (nL+1) 0)/\gf 16=some (.li ((x:Nat):Int))/\gf 70=some ov/\gf 71=some (.li E.length)/\gf 72=some (.li q)) (m0:=kk) ?_ ?_
    .refine⟨kk,_,0,0,_,_,_,[],[],hkk,rfl,rfl,Wy _,⟨λb hb=>?_⟩,Ag,⟨.inl ⟨rfl,rfl,rfl,rfl⟩⟩,⟨rfl⟩,by simp,HW0,by simp[*]⟩;simp (disch:=omega) only[Ad]
    clear w1 w2 w5 w7 w12 w70 w71 w72 hcE;rintro m gf H' ⟨x,nK,bw,br,gK,wv,rv,aw,ar,hx,rfl,rfl,hnK,HGK,hgU,HSH,HAL,haw,HWR,v1,v2,v5,v7,v12,v15,v16,v70,v71,v72⟩ ih2;have hgKn:=(HGK.out n (by omega)).trans hgLn;have hgKF:=(HGK.out n1 (by omega)).trans hgLF;have hgKL:=(HGK.out n2 (by omega)).trans hgLr;have hgKB:=(HGK.out (n2+1) (by omega)).trans hgLb;refine rnd pl67 ?_;by_cases hx0:x=0
    .have hxI:((x:Nat):Int)=0:=by omega
     have HSWR:Aa (SW=aw.reverse/\SR=ar.reverse):=⟨by
      obtain⟨e1,e2⟩:=HWR.out;rw[hx0,HLB.out.nil] at e1 e2;exact⟨e1,e2⟩⟩
     have HCF:=Xu λ(gF:Gb)(nF:Nat)(wv' rv' : AV)(h1:nL<=nF)(h2:∀a,n2+1+1<=a->a<nL->gF a=gL a) (h3:Ba gF (n2+1+1) nF n2 SW wv') (h4:Ba gF (n2+1+1) nF n2 SR rv') (h5:Ay wv') (h6:Ay rv')=>(show RowsF gF (n2+1+1) nF n2 ((bkM T W).take (q+1)) (cs++[wv',rv'])/\∀v∈cs++[wv',rv'],Ay v from by
      refine⟨?_,λv hv=>?_⟩
      .rw[HTK.out];exact(HRF.out.keep (Wy _) h1 (.inr (.inl rfl)) λa ha hb _=>h2 a ha hb).snoc h3 h4
      .rcases W9.1 hv with h|h
       .exact HCV.out v h
       .rcases Xb.1 h with rfl|h
        .exact h5
        .rw[Xh.1 h];exact h6)
     subst hx0;have v16' : gf 16=some (.li 0):=v16;clear v16 hxI hx;rcases HSH.out with⟨rfl,rfl,rfl,rfl⟩|⟨xx,yy,rfl,rfl,rfl,rfl,hb1,hb2,hb3,hb4,hb5⟩|⟨hne,rfl,rfl,hb1,hb2,hb3,hb4,hb5⟩
     .simp (disch:=first|omega|simp) [*];refine Xv (V3 _ _) ?_;rintro _ ⟨u1,rfl⟩;simp (disch:=first|omega|simp) [*];refine Xv (V3 _ _) ?_;rintro _ ⟨u2,rfl⟩;simp (disch:=first|omega|simp) [*];refine Xv (Wa _ _) ?_;rintro _ rfl;simp (disch:=first|omega|simp) [*];refine Xv (Wa _ _) ?_;rintro _ rfl;simp (disch:=first|omega|simp) [*];obtain⟨hrf2,hcv2⟩:=HCF.out (Ak (Ak (Ak gK nK (some (.cells [.nl,.nl] true 0))) n2 (some (.cells (Aq Lr (q*2) [.nl,.nl]) true 0))) (n2+1) (some (.cells [.li I,.li O,.sl n2 0 (q+1) E.length] true 0))) (nK+1) (.nl) (.nl) (by omega) (λa h1 h2=>by simp (disch:=omega) only[Ad,Ae];exact HGK.out a h2) (by rw[HSWR.out.1];exact Y8) (by rw[HSWR.out.2];exact Y8) (λa o n c h=>by cases h) (λa o n c h=>by cases h);have HRF2:=Xu hrf2;have HCV2:=Xu hcv2;clear hrf2 hcv2;have hLq2:q*2+([.nl,.nl]:List AV).length<=Lr.length:=by simp;omega
      refine ih.out (E.length-(q+1)) _ _ (by omega) ⟨q+1,nK+1,(Ak (Ak (Ak gK nK (some (.cells [.nl,.nl] true 0))) n2 (some (.cells (Aq Lr (q*2) [.nl,.nl]) true 0))) (n2+1) (some (.cells [.li I,.li O,.sl n2 0 (q+1) E.length] true 0))),cs++[.nl,.nl],Aq Lr (q*2) [.nl,.nl],by omega,rfl,rfl,by omega,⟨λb hb=>?_⟩,?_,?_,⟨?_⟩,Ag,HRF2,HCV2,by simp[*]⟩
      .simp (disch:=omega) only[Ad,Ae];exact(HGK.out b (by omega)).trans (HGL.out b hb)
      .simp (disch:=omega) only[Ad,Ag]
      .rw[D1 hLq2];exact hLr
      .have h9:=Fq hLq2;rw[HLR.out] at h9;rw[e6g];exact h9
     .have HAR:Aa ([xx].reverse=[xx]/\[yy].reverse=[yy]):=⟨rfl,rfl⟩;simp (disch:=first|omega|simp) [*];refine Xv (V2 bw 1 0 _ [xx] (by simp) gK hb4 (by omega)) ?_;rintro _ ⟨u1,gR,rfl,hr1,hr2⟩;have HR2:=Xu hr2;have hgUR:=(hr2 (nL+1) (by omega)).trans hgU;have hb5R:=(hr2 br (by omega)).trans hb5;clear hr2;simp (disch:=first|omega|simp) [*];refine Xv (V2 br 1 0 _ [yy] (by simp) gR hb5R (by omega)) ?_;rintro _ ⟨u2,gS,rfl,hs1,hs2⟩;have HS2:=Xu hs2;have hgUS:=(hs2 (nL+1) (by omega)).trans hgUR;have hgLS:=(hs2 n2 (by omega)).trans ((HR2.out n2 (by omega)).trans hgKL);have hgBS:=(hs2 (n2+1) (by omega)).trans ((HR2.out (n2+1) (by omega)).trans hgKB);have hbwS:=(hs2 bw (by omega)).trans hr1;clear hs2 hr1 hb4 hb5 hb5R;simp (disch:=first|omega|simp) [*];refine Xv (Wb _ _ bw 1 (by omega) (by omega)) ?_;rintro _ rfl;simp (disch:=first|omega|simp) [*];refine Xv (Wb _ _ br 1 (by omega) (by omega)) ?_;rintro _ rfl;simp (disch:=first|omega|simp) [*];obtain⟨hrf2,hcv2⟩:=HCF.out (Ak (Ak (Ak gS nK (some (.cells [.sl bw 0 1 1,.sl br 0 1 1] true 0))) n2 (some (.cells (Aq Lr (q*2) [.sl bw 0 1 1,.sl br 0 1 1]) true 0))) (n2+1) (some (.cells [.li I,.li O,.sl n2 0 (q+1) E.length] true 0))) (nK+1) (.sl bw 0 1 1) (.sl br 0 1 1) (by omega) (λa h1 h2=>by simp (disch:=omega) only[Ad,Ae];rw[HS2.out a (by omega),HR2.out a (by omega)];exact HGK.out a h2) (by rw[HSWR.out.1];exact Yk (w:=[xx]) (c:=1) (by simp (disch:=omega) only[Ad,Ae];exact hbwS) (by omega) (by omega) (by omega)) (by rw[HSWR.out.2];exact Yk (w:=[yy]) (c:=1) (by simp (disch:=omega) only[Ad,Ae];exact hs1) (by omega) (by omega) (by omega)) (λa o n c h=>by cases h;omega) (λa o n c h=>by cases h;omega);have HRF2:=Xu hrf2;have HCV2:=Xu hcv2;clear hrf2 hcv2;have hLq2:q*2+([.sl bw 0 1 1,.sl br 0 1 1]:List AV).length<=Lr.length:=by simp;omega
      refine ih.out (E.length-(q+1)) _ _ (by omega) ⟨q+1,nK+1,(Ak (Ak (Ak gS nK (some (.cells [.sl bw 0 1 1,.sl br 0 1 1] true 0))) n2 (some (.cells (Aq Lr (q*2) [.sl bw 0 1 1,.sl br 0 1 1]) true 0))) (n2+1) (some (.cells [.li I,.li O,.sl n2 0 (q+1) E.length] true 0))),cs++[.sl bw 0 1 1,.sl br 0 1 1],Aq Lr (q*2) [.sl bw 0 1 1,.sl br 0 1 1],by omega,rfl,rfl,by omega,⟨λb hb=>?_⟩,?_,?_,⟨?_⟩,Ag,HRF2,HCV2,by simp[*]⟩
      .simp (disch:=omega) only[Ad,Ae];rw[HS2.out b (by omega),HR2.out b (by omega)];exact(HGK.out b (by omega)).trans (HGL.out b hb)
      .simp (disch:=omega) only[Ad,Ag]
      .rw[D1 hLq2];exact hLr
      .have h9:=Fq hLq2;rw[HLR.out] at h9;rw[e6g];exact h9
     .have hawp:0<aw.length:=e7y.2 hne;have HAWR:Aa (aw.reverse.length=aw.length/\ar.reverse.length=aw.length):=⟨by rw[e7w],by rw[e7w];exact HAL.out.symm⟩;have HRV2:=Xu λ(gX:Gb)(h:gX br=some (.cells (wdC ar) true 1))=>(by have:=V1 br 0 1 nK ar (by have:=HAL.out;omega) gX h (by omega);rw[<- HAL.out] at this;exact this);simp (disch:=first|omega|simp) [*];refine Xv (V1 bw 0 1 _ aw (by omega) gK hb4 (by omega)) ?_;rintro _ ⟨u1,gR,rfl,hr1,hr2⟩;have HR2:=Xu hr2;have hgUR:=(hr2 (nL+1) (by omega)).trans hgU;have hb5R:=(hr2 br (by omega)).trans hb5;clear hr2;simp (disch:=first|omega|simp) [*];refine Xv (HRV2.out gR hb5R) ?_;rintro _ ⟨u2,gS,rfl,hs1,hs2⟩;have HS2:=Xu hs2;have hgUS:=(hs2 (nL+1) (by omega)).trans hgUR;have hgLS:=(hs2 n2 (by omega)).trans ((HR2.out n2 (by omega)).trans hgKL);have hgBS:=(hs2 (n2+1) (by omega)).trans ((HR2.out (n2+1) (by omega)).trans hgKB);have hbwS:=(hs2 bw (by omega)).trans hr1;clear hs2 hr1 hb4 hb5 hb5R;simp (disch:=first|omega|simp) [*];refine Xv (Wc _ _ bw aw.length (by omega) (by omega)) ?_;rintro _ rfl;simp (disch:=first|omega|simp) [*];refine Xv (Wc _ _ br aw.length (by omega) (by omega)) ?_;rintro _ rfl;simp (disch:=first|omega|simp) [*];obtain⟨hrf2,hcv2⟩:=HCF.out (Ak (Ak (Ak gS nK (some (.cells [.sl bw 0 aw.length aw.length,.sl br 0 aw.length aw.length] true 0))) n2 (some (.cells (Aq Lr (q*2) [.sl bw 0 aw.length aw.length,.sl br 0 aw.length aw.length]) true 0))) (n2+1) (some (.cells [.li I,.li O,.sl n2 0 (q+1) E.length] true 0))) (nK+1) (.sl bw 0 aw.length aw.length) (.sl br 0 aw.length aw.length) (by omega) (λa h1 h2=>by simp (disch:=omega) only[Ad,Ae];rw[HS2.out a (by omega),HR2.out a (by omega)];exact HGK.out a h2) (by rw[HSWR.out.1];exact HAWR.out.1 ▸ Yk (w:=aw.reverse) (c:=aw.reverse.length) (by simp (disch:=omega) only[Ad,Ae];exact hbwS) (by omega) (by omega) (by omega)) (by rw[HSWR.out.2];exact(by have h:=Yk (g:=(Ak (Ak (Ak gS nK (some (.cells [.sl bw 0 aw.length aw.length,.sl br 0 aw.length aw.length] true 0))) n2 (some (.cells (Aq Lr (q*2) [.sl bw 0 aw.length aw.length,.sl br 0 aw.length aw.length]) true 0))) (n2+1) (some (.cells [.li I,.li O,.sl n2 0 (q+1) E.length] true 0)))) (b:=br) (own:=true) (z:=1) (w:=ar.reverse) (c:=aw.length) (lo:=n2+1+1) (n:=nK+1) (B:=n2) (by simp (disch:=omega) only[Ad,Ae];exact hs1) (by omega) (by omega) (by omega);rw[HAWR.out.2] at h;exact h)) (λa o n c h=>by cases h;omega) (λa o n c h=>by cases h;omega);have HRF2:=Xu hrf2;have HCV2:=Xu hcv2;clear hrf2 hcv2;have hLq2:q*2+([.sl bw 0 aw.length aw.length,.sl br 0 aw.length aw.length]:List AV).length<=Lr.length:=by simp;omega
      refine ih.out (E.length-(q+1)) _ _ (by omega) ⟨q+1,nK+1,(Ak (Ak (Ak gS nK (some (.cells [.sl bw 0 aw.length aw.length,.sl br 0 aw.length aw.length] true 0))) n2 (some (.cells (Aq Lr (q*2) [.sl bw 0 aw.length aw.length,.sl br 0 aw.length aw.length]) true 0))) (n2+1) (some (.cells [.li I,.li O,.sl n2 0 (q+1) E.length] true 0))),cs++[.sl bw 0 aw.length aw.length,.sl br 0 aw.length aw.length],Aq Lr (q*2) [.sl bw 0 aw.length aw.length,.sl br 0 aw.length aw.length],by omega,rfl,rfl,by omega,⟨λb hb=>?_⟩,?_,?_,⟨?_⟩,Ag,HRF2,HCV2,by simp[*]⟩
      .simp (disch:=omega) only[Ad,Ae];rw[HS2.out b (by omega),HR2.out b (by omega)];exact(HGK.out b (by omega)).trans (HGL.out b hb)
      .simp (disch:=omega) only[Ad,Ag]
      .rw[D1 hLq2];exact hLr
      .have h9:=Fq hLq2;rw[HLR.out] at h9;rw[e6g];exact h9
    .have hxI:¬((x:Nat):Int)=0:=by omega
     obtain⟨p,j,hEd⟩:=HLB.out.src x (by omega) hx;obtain⟨o,hO⟩:=hEd.out;have HLE:=Xu (HLB.out.ed p j x hEd);obtain⟨hF1,hF2⟩:=HFX.out x p j hEd;have hplt:p<T.length:=hEd.lt;have HWN:Aa (SW=W.getD p []++(aw++[(j:Int)]).reverse/\SR=Bm T 0 (W.getD p [])++(ar++[o]).reverse):=⟨by
      obtain⟨e1,e2⟩:=HWR.out;rw[HLE.out.2.2.2] at e1;rw[HED.out p j x o hO] at e2;rw[e9m,e9m];exact⟨by rw[e1];simp,by rw[e2];simp⟩⟩
     have hawN:(aw++[(j:Int)]).length<=256:=by
      have h1:=congrArg List.length HWN.out.1;rw[W0,e7w] at h1;omega
     have haw1:aw.length+1<=256:=by rw[W0,Xg] at hawN;exact hawN
     have HALN:Aa ((aw++[(j:Int)]).length=(ar++[o]).length):=⟨by rw[W0,W0,HAL.out];rfl⟩;obtain⟨hp1,hj1,hedge⟩:=hO;obtain⟨a4,o4,q4,ha4,hia4,hc4,hq4⟩:=HT.out.at hp1;rw[<- HG1.out a4 ha4,<- HG.out a4 (by omega),<- HGL.out a4 (by omega),<- HGK.out a4 (by omega)] at hc4;obtain⟨a5,o5,ha5,hia5,hc5⟩:=b6q hq4 hj1;rw[hedge,<- HG1.out a5 ha5,<- HG.out a5 (by omega),<- HGL.out a5 (by omega),<- HGK.out a5 (by omega)] at hc5;have hpx:p<x:=HLE.out.2.2.1;have hFl1:x*2<F.length:=by omega
     have hFl2:x*2+1<F.length:=by omega
     have hF1' : F[x*2]'hFl1=.li ((p:Nat):Int):=(W8.1 hF1).2;have hF2' : F[x*2+1]'hFl2=.li ((j:Nat):Int):=(W8.1 hF2).2;have hwl:=A9 aw;have hrl:(wdC ar).length=aw.length:=by rw[A9];exact HAL.out.symm
     have HWS:=Xu (Gv aw (j:Int));have HRS:=Xu (Gv ar o);clear hedge hq4 hF1 hF2 hEd;rcases HSH.out with⟨rfl,rfl,rfl,rfl⟩|⟨xx,yy,rfl,rfl,rfl,rfl,hb1,hb2,hb3,hb4,hb5⟩|⟨hne,rfl,rfl,hb1,hb2,hb3,hb4,hb5⟩
     .simp (disch:=first|omega|simp) [*];refine ih2.out p _ _ hpx ⟨p,_,nK+1,nK+1+1+1,_,.slq (nK+1) 0 1 0,.slq (nK+1+1+1) 0 1 0,[]++[(j:Int)],[]++[o],hplt,rfl,rfl,by omega,⟨λb hb=>?_⟩,?_,⟨.inr (.inr ⟨by simp,by simp,by simp,by omega,by omega,by omega,?_,?_⟩)⟩,HALN,hawN,HWN,by simp[*]⟩
      .simp (disch:=omega) only[Ad,Ae];exact HGK.out b hb
      .simp (disch:=omega) only[Ad,Ae,Ag]
      .rw[HWS.out];simp (disch:=omega) only[Ad,Ae,Ag]<;>rfl
      .rw[HRS.out];simp (disch:=omega) only[Ad,Ae,Ag]<;>rfl
     .simp (disch:=first|omega|simp) [*];refine ih2.out p _ _ hpx ⟨p,_,nK+1,nK+1+1+1,_,.slq (nK+1) 0 2 0,.slq (nK+1+1+1) 0 2 0,[xx]++[(j:Int)],[yy]++[o],hplt,rfl,rfl,by omega,⟨λb hb=>?_⟩,?_,⟨.inr (.inr ⟨by simp,by simp,by simp,by omega,by omega,by omega,?_,?_⟩)⟩,HALN,hawN,HWN,by simp[*]⟩
      .simp (disch:=omega) only[Ad,Ae];exact HGK.out b hb
      .simp (disch:=omega) only[Ad,Ae,Ag]
      .rw[HWS.out];simp (disch:=omega) only[Ad,Ae,Ag]<;>rfl
      .rw[HRS.out];simp (disch:=omega) only[Ad,Ae,Ag]<;>rfl
     .simp (disch:=first|omega|simp) [*];refine ih2.out p _ _ hpx ⟨p,_,nK+1,nK+1+1+1,_,.slq (nK+1) 0 (aw.length+1) 0,.slq (nK+1+1+1) 0 (aw.length+1) 0,aw++[(j:Int)],ar++[o],hplt,rfl,rfl,by omega,⟨λb hb=>?_⟩,?_,⟨.inr (.inr ⟨by simp,by simp,by simp,by omega,by omega,by omega,?_,?_⟩)⟩,HALN,hawN,HWN,by simp[*]⟩
      .simp (disch:=omega) only[Ad,Ae];exact HGK.out b hb
      .simp (disch:=omega) only[Ad,Ae,Ag]
      .rw[HWS.out];simp (disch:=omega) only[Ad,Ae,Ag]<;>rfl
      .rw[HRS.out];simp (disch:=omega) only[Ad,Ae,Ag]<;>rfl
   .have HW0:Aa (kk<T.length/\SW=W.getD kk []++[ii].reverse/\SR=Bm T 0 (W.getD kk [])++[(-1:Int)].reverse):=⟨by
     rcases HSM.out with⟨k,h1,i,h2,h3,h4⟩|⟨k,h1,h2,h3⟩
     .injection h4 with e1 e2;subst e1 e2;refine⟨h1,?_,?_⟩
      .rw[hSW];unfold eW;rw[if_neg hii];rfl
      .rw[hSR,HRE.out kk i h1 h2 h3];rfl
     .injection h3 with e1 e2;exact absurd e2 hii⟩
    have hkk:=HW0.out.1;clear hSW hSR HSM HSE;simp (disch:=first|omega|simp) [*];refine Xy (λm gf H'=>∃(x nK bw br:Nat)(gK:Gb)(wv rv:AV)(aw ar:Wd),x<T.length/\x=m/\H'=⟨.fn gK,nK⟩/\nL+1+1<=nK/\Aa (∀b,b<nL->gK b=gL b)/\gK (nL+1)=some (.cells [wv,rv] true 0)/\Aa (Sh gK (nL+1+1) nK wv rv aw ar bw br)/\Aa (aw.length=ar.length)/\aw.length<=256/\Aa (SW=W.getD x []++aw.reverse/\SR=Bm T 0 (W.getD x [])++ar.reverse) /\
     gf 1=some (.ptr n 0)/\gf 2=some (.ptr (n+1) 0)/\gf 5=some ov/\gf 7=some (.sl n1 0 T.length T.length)/\gf 12=some (.ptr (n2+1) 0)/\gf 15=some (.ptr (nL+1) 0)/\gf 16=some (.li ((x:Nat):Int))/\gf 70=some ov/\gf 71=some (.li E.length)/\gf 72=some (.li q)) (m0:=kk) ?_ ?_
    .refine⟨kk,_,nL+1+1,nL+1+1+1,_,_,_,[ii],[-1],hkk,rfl,rfl,by omega,⟨λb hb=>?_⟩,?_,⟨.inr (.inl ⟨ii,-1,rfl,rfl,rfl,rfl,by omega,by omega,by omega,?_,?_⟩)⟩,⟨rfl⟩,by simp,⟨HW0.out.2⟩,by simp[*]⟩
     .simp (disch:=omega) only[Ad,Ae]
     .simp (disch:=omega) only[Ad,Ae,Ag]
     .simp (disch:=omega) only[Ad,Ae,Ag]
     .simp (disch:=omega) only[Ad,Ae,Ag]
    clear w1 w2 w5 w7 w12 w70 w71 w72 hcE;rintro m gf H' ⟨x,nK,bw,br,gK,wv,rv,aw,ar,hx,rfl,rfl,hnK,HGK,hgU,HSH,HAL,haw,HWR,v1,v2,v5,v7,v12,v15,v16,v70,v71,v72⟩ ih2;have hgKn:=(HGK.out n (by omega)).trans hgLn;have hgKF:=(HGK.out n1 (by omega)).trans hgLF;have hgKL:=(HGK.out n2 (by omega)).trans hgLr;have hgKB:=(HGK.out (n2+1) (by omega)).trans hgLb;refine rnd pl67 ?_;by_cases hx0:x=0
    .have hxI:((x:Nat):Int)=0:=by omega
     have HSWR:Aa (SW=aw.reverse/\SR=ar.reverse):=⟨by
      obtain⟨e1,e2⟩:=HWR.out;rw[hx0,HLB.out.nil] at e1 e2;exact⟨e1,e2⟩⟩
     have HCF:=Xu λ(gF:Gb)(nF:Nat)(wv' rv' : AV)(h1:nL<=nF)(h2:∀a,n2+1+1<=a->a<nL->gF a=gL a) (h3:Ba gF (n2+1+1) nF n2 SW wv') (h4:Ba gF (n2+1+1) nF n2 SR rv') (h5:Ay wv') (h6:Ay rv')=>(show RowsF gF (n2+1+1) nF n2 ((bkM T W).take (q+1)) (cs++[wv',rv'])/\∀v∈cs++[wv',rv'],Ay v from by
      refine⟨?_,λv hv=>?_⟩
      .rw[HTK.out];exact(HRF.out.keep (Wy _) h1 (.inr (.inl rfl)) λa ha hb _=>h2 a ha hb).snoc h3 h4
      .rcases W9.1 hv with h|h
       .exact HCV.out v h
       .rcases Xb.1 h with rfl|h
        .exact h5
        .rw[Xh.1 h];exact h6)
     subst hx0;have v16' : gf 16=some (.li 0):=v16;clear v16 hxI hx;rcases HSH.out with⟨rfl,rfl,rfl,rfl⟩|⟨xx,yy,rfl,rfl,rfl,rfl,hb1,hb2,hb3,hb4,hb5⟩|⟨hne,rfl,rfl,hb1,hb2,hb3,hb4,hb5⟩
     .simp (disch:=first|omega|simp) [*];refine Xv (V3 _ _) ?_;rintro _ ⟨u1,rfl⟩;simp (disch:=first|omega|simp) [*];refine Xv (V3 _ _) ?_;rintro _ ⟨u2,rfl⟩;simp (disch:=first|omega|simp) [*];refine Xv (Wa _ _) ?_;rintro _ rfl;simp (disch:=first|omega|simp) [*];refine Xv (Wa _ _) ?_;rintro _ rfl;simp (disch:=first|omega|simp) [*];obtain⟨hrf2,hcv2⟩:=HCF.out (Ak (Ak (Ak gK nK (some (.cells [.nl,.nl] true 0))) n2 (some (.cells (Aq Lr (q*2) [.nl,.nl]) true 0))) (n2+1) (some (.cells [.li I,.li O,.sl n2 0 (q+1) E.length] true 0))) (nK+1) (.nl) (.nl) (by omega) (λa h1 h2=>by simp (disch:=omega) only[Ad,Ae];exact HGK.out a h2) (by rw[HSWR.out.1];exact Y8) (by rw[HSWR.out.2];exact Y8) (λa o n c h=>by cases h) (λa o n c h=>by cases h);have HRF2:=Xu hrf2;have HCV2:=Xu hcv2;clear hrf2 hcv2;have hLq2:q*2+([.nl,.nl]:List AV).length<=Lr.length:=by simp;omega
      refine ih.out (E.length-(q+1)) _ _ (by omega) ⟨q+1,nK+1,(Ak (Ak (Ak gK nK (some (.cells [.nl,.nl] true 0))) n2 (some (.cells (Aq Lr (q*2) [.nl,.nl]) true 0))) (n2+1) (some (.cells [.li I,.li O,.sl n2 0 (q+1) E.length] true 0))),cs++[.nl,.nl],Aq Lr (q*2) [.nl,.nl],by omega,rfl,rfl,by omega,⟨λb hb=>?_⟩,?_,?_,⟨?_⟩,Ag,HRF2,HCV2,by simp[*]⟩
      .simp (disch:=omega) only[Ad,Ae];exact(HGK.out b (by omega)).trans (HGL.out b hb)
      .simp (disch:=omega) only[Ad,Ag]
      .rw[D1 hLq2];exact hLr
      .have h9:=Fq hLq2;rw[HLR.out] at h9;rw[e6g];exact h9
     .have HAR:Aa ([xx].reverse=[xx]/\[yy].reverse=[yy]):=⟨rfl,rfl⟩;simp (disch:=first|omega|simp) [*];refine Xv (V2 bw 1 0 _ [xx] (by simp) gK hb4 (by omega)) ?_;rintro _ ⟨u1,gR,rfl,hr1,hr2⟩;have HR2:=Xu hr2;have hgUR:=(hr2 (nL+1) (by omega)).trans hgU;have hb5R:=(hr2 br (by omega)).trans hb5;clear hr2;simp (disch:=first|omega|simp) [*];refine Xv (V2 br 1 0 _ [yy] (by simp) gR hb5R (by omega)) ?_;rintro _ ⟨u2,gS,rfl,hs1,hs2⟩;have HS2:=Xu hs2;have hgUS:=(hs2 (nL+1) (by omega)).trans hgUR;have hgLS:=(hs2 n2 (by omega)).trans ((HR2.out n2 (by omega)).trans hgKL);have hgBS:=(hs2 (n2+1) (by omega)).trans ((HR2.out (n2+1) (by omega)).trans hgKB);have hbwS:=(hs2 bw (by omega)).trans hr1;clear hs2 hr1 hb4 hb5 hb5R;simp (disch:=first|omega|simp) [*];refine Xv (Wb _ _ bw 1 (by omega) (by omega)) ?_;rintro _ rfl;simp (disch:=first|omega|simp) [*];refine Xv (Wb _ _ br 1 (by omega) (by omega)) ?_;rintro _ rfl;simp (disch:=first|omega|simp) [*];obtain⟨hrf2,hcv2⟩:=HCF.out (Ak (Ak (Ak gS nK (some (.cells [.sl bw 0 1 1,.sl br 0 1 1] true 0))) n2 (some (.cells (Aq Lr (q*2) [.sl bw 0 1 1,.sl br 0 1 1]) true 0))) (n2+1) (some (.cells [.li I,.li O,.sl n2 0 (q+1) E.length] true 0))) (nK+1) (.sl bw 0 1 1) (.sl br 0 1 1) (by omega) (λa h1 h2=>by simp (disch:=omega) only[Ad,Ae];rw[HS2.out a (by omega),HR2.out a (by omega)];exact HGK.out a h2) (by rw[HSWR.out.1];exact Yk (w:=[xx]) (c:=1) (by simp (disch:=omega) only[Ad,Ae];exact hbwS) (by omega) (by omega) (by omega)) (by rw[HSWR.out.2];exact Yk (w:=[yy]) (c:=1) (by simp (disch:=omega) only[Ad,Ae];exact hs1) (by omega) (by omega) (by omega)) (λa o n c h=>by cases h;omega) (λa o n c h=>by cases h;omega);have HRF2:=Xu hrf2;have HCV2:=Xu hcv2;clear hrf2 hcv2;have hLq2:q*2+([.sl bw 0 1 1,.sl br 0 1 1]:List AV).length<=Lr.length:=by simp;omega
      refine ih.out (E.length-(q+1)) _ _ (by omega) ⟨q+1,nK+1,(Ak (Ak (Ak gS nK (some (.cells [.sl bw 0 1 1,.sl br 0 1 1] true 0))) n2 (some (.cells (Aq Lr (q*2) [.sl bw 0 1 1,.sl br 0 1 1]) true 0))) (n2+1) (some (.cells [.li I,.li O,.sl n2 0 (q+1) E.length] true 0))),cs++[.sl bw 0 1 1,.sl br 0 1 1],Aq Lr (q*2) [.sl bw 0 1 1,.sl br 0 1 1],by omega,rfl,rfl,by omega,⟨λb hb=>?_⟩,?_,?_,⟨?_⟩,Ag,HRF2,HCV2,by simp[*]⟩
      .simp (disch:=omega) only[Ad,Ae];rw[HS2.out b (by omega),HR2.out b (by omega)];exact(HGK.out b (by omega)).trans (HGL.out b hb)
      .simp (disch:=omega) only[Ad,Ag]
      .rw[D1 hLq2];exact hLr
      .have h9:=Fq hLq2;rw[HLR.out] at h9;rw[e6g];exact h9
     .have hawp:0<aw.length:=e7y.2 hne;have HAWR:Aa (aw.reverse.length=aw.length/\ar.reverse.length=aw.length):=⟨by rw[e7w],by rw[e7w];exact HAL.out.symm⟩;have HRV2:=Xu λ(gX:Gb)(h:gX br=some (.cells (wdC ar) true 1))=>(by have:=V1 br 0 1 nK ar (by have:=HAL.out;omega) gX h (by omega);rw[<- HAL.out] at this;exact this);simp (disch:=first|omega|simp) [*];refine Xv (V1 bw 0 1 _ aw (by omega) gK hb4 (by omega)) ?_;rintro _ ⟨u1,gR,rfl,hr1,hr2⟩;have HR2:=Xu hr2;have hgUR:=(hr2 (nL+1) (by omega)).trans hgU;have hb5R:=(hr2 br (by omega)).trans hb5;clear hr2;simp (disch:=first|omega|simp) [*];refine Xv (HRV2.out gR hb5R) ?_;rintro _ ⟨u2,gS,rfl,hs1,hs2⟩;have HS2:=Xu hs2;have hgUS:=(hs2 (nL+1) (by omega)).trans hgUR;have hgLS:=(hs2 n2 (by omega)).trans ((HR2.out n2 (by omega)).trans hgKL);have hgBS:=(hs2 (n2+1) (by omega)).trans ((HR2.out (n2+1) (by omega)).trans hgKB);have hbwS:=(hs2 bw (by omega)).trans hr1;clear hs2 hr1 hb4 hb5 hb5R;simp (disch:=first|omega|simp) [*];refine Xv (Wc _ _ bw aw.length (by omega) (by omega)) ?_;rintro _ rfl;simp (disch:=first|omega|simp) [*];refine Xv (Wc _ _ br aw.length (by omega) (by omega)) ?_;rintro _ rfl;simp (disch:=first|omega|simp) [*];obtain⟨hrf2,hcv2⟩:=HCF.out (Ak (Ak (Ak gS nK (some (.cells [.sl bw 0 aw.length aw.length,.sl br 0 aw.length aw.length] true 0))) n2 (some (.cells (Aq Lr (q*2) [.sl bw 0 aw.length aw.length,.sl br 0 aw.length aw.length]) true 0))) (n2+1) (some (.cells [.li I,.li O,.sl n2 0 (q+1) E.length] true 0))) (nK+1) (.sl bw 0 aw.length aw.length) (.sl br 0 aw.length aw.length) (by omega) (λa h1 h2=>by simp (disch:=omega) only[Ad,Ae];rw[HS2.out a (by omega),HR2.out a (by omega)];exact HGK.out a h2) (by rw[HSWR.out.1];exact HAWR.out.1 ▸ Yk (w:=aw.reverse) (c:=aw.reverse.length) (by simp (disch:=omega) only[Ad,Ae];exact hbwS) (by omega) (by omega) (by omega)) (by rw[HSWR.out.2];exact(by have h:=Yk (g:=(Ak (Ak (Ak gS nK (some (.cells [.sl bw 0 aw.length aw.length,.sl br 0 aw.length aw.length] true 0))) n2 (some (.cells (Aq Lr (q*2) [.sl bw 0 aw.length aw.length,.sl br 0 aw.length aw.length]) true 0))) (n2+1) (some (.cells [.li I,.li O,.sl n2 0 (q+1) E.length] true 0)))) (b:=br) (own:=true) (z:=1) (w:=ar.reverse) (c:=aw.length) (lo:=n2+1+1) (n:=nK+1) (B:=n2) (by simp (disch:=omega) only[Ad,Ae];exact hs1) (by omega) (by omega) (by omega);rw[HAWR.out.2] at h;exact h)) (λa o n c h=>by cases h;omega) (λa o n c h=>by cases h;omega);have HRF2:=Xu hrf2;have HCV2:=Xu hcv2;clear hrf2 hcv2;have hLq2:q*2+([.sl bw 0 aw.length aw.length,.sl br 0 aw.length aw.length]:List AV).length<=Lr.length:=by simp;omega
      refine ih.out (E.length-(q+1)) _ _ (by omega) ⟨q+1,nK+1,(Ak (Ak (Ak gS nK (some (.cells [.sl bw 0 aw.length aw.length,.sl br 0 aw.length aw.length] true 0))) n2 (some (.cells (Aq Lr (q*2) [.sl bw 0 aw.length aw.length,.sl br 0 aw.length aw.length]) true 0))) (n2+1) (some (.cells [.li I,.li O,.sl n2 0 (q+1) E.length] true 0))),cs++[.sl bw 0 aw.length aw.length,.sl br 0 aw.length aw.length],Aq Lr (q*2) [.sl bw 0 aw.length aw.length,.sl br 0 aw.length aw.length],by omega,rfl,rfl,by omega,⟨λb hb=>?_⟩,?_,?_,⟨?_⟩,Ag,HRF2,HCV2,by simp[*]⟩
      .simp (disch:=omega) only[Ad,Ae];rw[HS2.out b (by omega),HR2.out b (by omega)];exact(HGK.out b (by omega)).trans (HGL.out b hb)
      .simp (disch:=omega) only[Ad,Ag]
      .rw[D1 hLq2];exact hLr
      .have h9:=Fq hLq2;rw[HLR.out] at h9;rw[e6g];exact h9
    .have hxI:¬((x:Nat):Int)=0:=by omega
     obtain⟨p,j,hEd⟩:=HLB.out.src x (by omega) hx;obtain⟨o,hO⟩:=hEd.out;have HLE:=Xu (HLB.out.ed p j x hEd);obtain⟨hF1,hF2⟩:=HFX.out x p j hEd;have hplt:p<T.length:=hEd.lt;have HWN:Aa (SW=W.getD p []++(aw++[(j:Int)]).reverse/\SR=Bm T 0 (W.getD p [])++(ar++[o]).reverse):=⟨by
      obtain⟨e1,e2⟩:=HWR.out;rw[HLE.out.2.2.2] at e1;rw[HED.out p j x o hO] at e2;rw[e9m,e9m];exact⟨by rw[e1];simp,by rw[e2];simp⟩⟩
     have hawN:(aw++[(j:Int)]).length<=256:=by
      have h1:=congrArg List.length HWN.out.1;rw[W0,e7w] at h1;omega
     have haw1:aw.length+1<=256:=by rw[W0,Xg] at hawN;exact hawN
     have HALN:Aa ((aw++[(j:Int)]).length=(ar++[o]).length):=⟨by rw[W0,W0,HAL.out];rfl⟩;obtain⟨hp1,hj1,hedge⟩:=hO;obtain⟨a4,o4,q4,ha4,hia4,hc4,hq4⟩:=HT.out.at hp1;rw[<- HG1.out a4 ha4,<- HG.out a4 (by omega),<- HGL.out a4 (by omega),<- HGK.out a4 (by omega)] at hc4;obtain⟨a5,o5,ha5,hia5,hc5⟩:=b6q hq4 hj1;rw[hedge,<- HG1.out a5 ha5,<- HG.out a5 (by omega),<- HGL.out a5 (by omega),<- HGK.out a5 (by omega)] at hc5;have hpx:p<x:=HLE.out.2.2.1;have hFl1:x*2<F.length:=by omega
     have hFl2:x*2+1<F.length:=by omega
     have hF1' : F[x*2]'hFl1=.li ((p:Nat):Int):=(W8.1 hF1).2;have hF2' : F[x*2+1]'hFl2=.li ((j:Nat):Int):=(W8.1 hF2).2;have hwl:=A9 aw;have hrl:(wdC ar).length=aw.length:=by rw[A9];exact HAL.out.symm
     have HWS:=Xu (Gv aw (j:Int));have HRS:=Xu (Gv ar o);clear hedge hq4 hF1 hF2 hEd;rcases HSH.out with⟨rfl,rfl,rfl,rfl⟩|⟨xx,yy,rfl,rfl,rfl,rfl,hb1,hb2,hb3,hb4,hb5⟩|⟨hne,rfl,rfl,hb1,hb2,hb3,hb4,hb5⟩
     .simp (disch:=first|omega|simp) [*];refine ih2.out p _ _ hpx ⟨p,_,nK+1,nK+1+1+1,_,.slq (nK+1) 0 1 0,.slq (nK+1+1+1) 0 1 0,[]++[(j:Int)],[]++[o],hplt,rfl,rfl,by omega,⟨λb hb=>?_⟩,?_,⟨.inr (.inr ⟨by simp,by simp,by simp,by omega,by omega,by omega,?_,?_⟩)⟩,HALN,hawN,HWN,by simp[*]⟩
      .simp (disch:=omega) only[Ad,Ae];exact HGK.out b hb
      .simp (disch:=omega) only[Ad,Ae,Ag]
      .rw[HWS.out];simp (disch:=omega) only[Ad,Ae,Ag]<;>rfl
      .rw[HRS.out];simp (disch:=omega) only[Ad,Ae,Ag]<;>rfl
     .simp (disch:=first|omega|simp) [*];refine ih2.out p _ _ hpx ⟨p,_,nK+1,nK+1+1+1,_,.slq (nK+1) 0 2 0,.slq (nK+1+1+1) 0 2 0,[xx]++[(j:Int)],[yy]++[o],hplt,rfl,rfl,by omega,⟨λb hb=>?_⟩,?_,⟨.inr (.inr ⟨by simp,by simp,by simp,by omega,by omega,by omega,?_,?_⟩)⟩,HALN,hawN,HWN,by simp[*]⟩
      .simp (disch:=omega) only[Ad,Ae];exact HGK.out b hb
      .simp (disch:=omega) only[Ad,Ae,Ag]
      .rw[HWS.out];simp (disch:=omega) only[Ad,Ae,Ag]<;>rfl
      .rw[HRS.out];simp (disch:=omega) only[Ad,Ae,Ag]<;>rfl
     .simp (disch:=first|omega|simp) [*];refine ih2.out p _ _ hpx ⟨p,_,nK+1,nK+1+1+1,_,.slq (nK+1) 0 (aw.length+1) 0,.slq (nK+1+1+1) 0 (aw.length+1) 0,aw++[(j:Int)],ar++[o],hplt,rfl,rfl,by omega,⟨λb hb=>?_⟩,?_,⟨.inr (.inr ⟨by simp,by simp,by simp,by omega,by omega,by omega,?_,?_⟩)⟩,HALN,hawN,HWN,by simp[*]⟩
      .simp (disch:=omega) only[Ad,Ae];exact HGK.out b hb
      .simp (disch:=omega) only[Ad,Ae,Ag]
      .rw[HWS.out];simp (disch:=omega) only[Ad,Ae,Ag]<;>rfl
      .rw[HRS.out];simp (disch:=omega) only[Ad,Ae,Ag]<;>rfl
  .have hqlI:¬(q:Int)<(E.length:Int):=by omega
   have hqE:q=E.length:=by omega
   subst hqE;have hbl:(bkM T W).length=E.length:=by rw[HBK.out,Xl]
   have hcL:Lr=cs:=by rw[<- HLR.out,Xi (by omega)]
   subst hcL;have htk:(bkM T W).take E.length=bkM T W:=Xi (by omega);rw[htk] at HRF;have HWI:=Xu (e4a (I:=I) (O:=O) (ts:=bkM T W) (by omega) hO2 (by omega) (λt ht=>by
    rw[HBK.out] at ht;obtain⟨s,hs,rfl⟩:=Xc.1 ht;exact HWE.out s hs) (by rw[HBK.out,b6w];exact HS.out) gL nL (.sl n2 0 E.length E.length) ⟨Lr,(by rw[hbl];exact Gm hgLr (by omega)),HRF.out.rows⟩)
   have hso:=e3b (c:=E.length) HRF.out hgLr (by rw[hbl];exact HNE.out) (by omega) (λu hu=>by
    rw[HBK.out] at hu;obtain⟨s,hs,rfl⟩:=Xc.1 hu;have:=HWE.out s hs;exact Xa this (by decide))
   rw[hbl] at hso;have HSO:=Xu hso;have HBL:=Xu hbl;clear hso hbl htk hE2 HLR;simp (disch:=first|omega|simp) [*];refine Xv HWI.out ?_;rintro _ rfl;simp (disch:=first|omega|simp) [*];refine Xv HSO.out ?_;rintro _ ⟨us',cs',hp,hs,rfl,hrf,hmem⟩;have HP:=Xu hp;have HSS:=Xu hs;have HRF3:=Xu hrf;have HMM:=Xu hmem;clear hp hs hrf hmem;simp (disch:=first|omega|simp) [*];refine⟨us',cs',_,_,_,⟨rfl,rfl,rfl⟩,HP.out,λi j h1 h2=>Int.not_lt.1 (HSS.out i j h1 h2),by omega,λb hb=>?_,by omega,by omega,?_,?_,λv hv=>HCV.out v (HMM.out v hv)⟩
   .simp (disch:=omega) only[Ad,Ae];exact(HGL.out b (by omega)).trans ((HG.out b (by omega)).trans (HG1.out b hb))
   .simp (disch:=omega) only[Ad,Ae,Ag]
   .exact HRF3.out.keep (by omega) (Wy _) (.inr (.inl rfl)) λa h1 h2 h3=>Ae (by omega)
end Go.Ai
