/- Parts of an interpreter and of a proof. No condition. -/
import Derived.Test.YtpimmmnkcgnjjaaGreatA34
set_option linter.all false
set_option maxHeartbeats 40000000
set_option maxRecDepth 10000
open Go.Proofs Go.Proofs.Tryz
namespace Go.Ai
theorem b7d{cs:List AV}{j:Nat}{x:AV}(h:j<cs.length):(cs.take (j+1)++x::cs.drop (j+1)).set (j+1) cs[j]=cs.take j++cs[j]::cs.drop j:=by
 have e:(cs.take (j+1)).length=j+1:=by rw[W4];omega
 rw[e7k _ _ (by omega),e,e6h,e7q,e6w h,e6c,Xd h];rfl
theorem RowsW.ins{g:Gb}{n:Nat}{l:Wq}{svs:List AV}(h:RowsW g n l svs){w:Wd}{q:AV}(hq:Al g n w q){k:Nat}(hk:k<=l.length):RowsW g n (l.take k++w::l.drop k) (svs.take k++q::svs.drop k):=by
 obtain⟨h1,U⟩:=h;refine⟨by simp[h1],λi hi=>?_⟩;have Z:(l.take k).length=k:=by rw[W4];omega
 have e2:(svs.take k).length=k:=by rw[W4];omega
 have a0:i<l.length+1:=by simp at hi;omega
 rcases e9c i k with A|A|A
 .obtain⟨sv,D,Q⟩:=U i (by omega);refine⟨sv,by rw[Xs (by omega),e7j,if_pos A];exact D,?_⟩;rw[e6f (by omega),e7i];exact Q
 .subst A;refine⟨q,by rw[Xq (by omega),e2,e6h];rfl,?_⟩;rw[e7c (by omega)];simpa[Z] using hq
 .obtain⟨m,rfl⟩:∃m,i=k+1+m:=⟨i-(k+1),by omega⟩;obtain⟨sv,D,Q⟩:=U (k+m) (by omega);have e3:k+1+m-k=m+1:=by omega
  refine⟨sv,by rw[Xq (by omega),e2,e3,List.getElem?_cons_succ,e8u];exact D,?_⟩;have e4:(l.take k++w::l.drop k)[k+1+m]?=some (l[k+m]'(by omega)):=by
   rw[Xq (by omega),Z,e3,List.getElem?_cons_succ,e8u,W6]
  rw[(W8.1 e4).2];exact Q
def H9(B:Nat)(g:Gb):Gb:=λa=>if a=B then none else g a
theorem J6{B:Nat}{g:Gb}{a:Nat}{z:Blk}(h:H9 B g a=some z):a≠B/\g a=some z:=by
 unfold H9 at h;split at h
 .cases h
 .rename_i A;exact⟨A,h⟩
theorem I1{B:Nat}{g:Gb}{a:Nat}(h:a≠B):H9 B g a=g a:=if_neg h
theorem e4s{l:Wq}(hll:l.length<=10000)(hs:B8 l)(hwl:∀v∈l,v.length<=10000){w:Wd}(hw0:0<w.length)(hw9:w.length<=10000)(g:Gb)(lo n B:Nat)(cs:List AV)(ov wv:AV)(hln:lo<=n)(hGR:A6 g lo n B ov l.length 1 cs)(hR:RowsW (H9 B g) n l cs)(hcap:∀q∈cs,Ay q)(hw:Al (H9 B g) n w wv):
  WC 0 prog 114 [ov,wv] ⟨.fn g,n⟩ λr=>∃ov' g' n' B' cs',r=.ret ov' ⟨.fn g',n'⟩/\n<=n'/\(∀b,b<n->b≠B->g' b=g b)/\A6 g' lo n' B' ov' (Be w l).length 1 cs'/\RowsW (H9 B' g') n' (Be w l) cs'/\∀q∈cs',Ay q:=by
 have hl:Bb g n l ov:=⟨cs,Xz (Wy _) (λa x _ hx=>by
  split at hx
  .exact hx
  .cases hx) hGR.slice,hR.ext (Wy _) (λa z _ hz=>(J6 hz).2),hcap⟩
 have hlen:=@Ap prog _ _ _ _ _ hl.choose_spec.1;have hlenw:=@Ap prog _ _ _ _ _ hw;have h1w:=hw.one;have h1o:=hl.one;have hcl:cs.length=l.length:=hR.1;have HONE:Aa (∀q∈cs,oneC q=true):=⟨λq hq=>by
  obtain⟨i,hi,rfl⟩:=e6p hq;obtain⟨sv,e1,e2⟩:=hR.2 i (by omega);rw[W6 hi] at e1;cases e1;exact e2.one⟩
 have HCEL:Aa (∀q∈cs,cellsOf q=[q]):=⟨λq hq=>by
  obtain⟨i,hi,rfl⟩:=e6p hq;obtain⟨sv,e1,e2⟩:=hR.2 i (by omega);rw[W6 hi] at e1;cases e1;exact e2.cell⟩
 obtain⟨a9,blk,ha9,hga9,hap⟩:=Yc (P:=prog) (sz:=1) hw hw0 (by omega) (by rw[A9,Xj]);have HL:=Xu hl;have HW:Aa (Al g n w wv):=⟨Xz (Wy _) (λa z _ hz=>(J6 hz).2) hw⟩;have HWO:=Xu hw;have hg9:=J6 hga9;clear hga9;have HWL:=Xu hwl;have HS:=Xu hs;have HGR:=Xu hGR;have HR:=Xu (And.intro hR hcap);clear hl hw hwl hs hGR hR hcap;refine ent [] func114 ?_;simp (disch:=first|omega|simp) [*];refine Xy (λm gf H'=>∃(low high:Nat),low<=high/\high<=l.length/\m=high-low/\H'=⟨.fn g,n⟩/\Aa (∀j (h:j<l.length),j<low->SL l[j] w)/\Aa (∀j (h:j<l.length),high<=j->¬SL l[j] w)/\gf 0=some ov/\gf 1=some wv/\gf 5=some (.li low)/\gf 6=some (.li high)) (m0:=l.length) ?_ ?_
 .exact⟨0,l.length,W3 _,Wy _,rfl,rfl,⟨λj h h2=>by omega⟩,⟨λj h h2=>by omega⟩,by simp[*]⟩
 rintro m gf H' ⟨low,high,hlh,hhl,rfl,rfl,HLO,HHI,w0,w1,w5,w6⟩ ih;refine rnd [] ?_;by_cases hlt:low<high
 .have hltI:(low:Int)<(high:Int):=by omega
  obtain⟨mid,hmid⟩:∃mid,(low+high) / 2=mid:=⟨_,rfl⟩;have hq:Int.tdiv ((low:Int)+(high:Int)) 2=(mid:Int):=by
   rw[show ((low:Int)+(high:Int))=((low+high:Nat):Int) by simp,<- hmid];rfl
  have hm1:low<=mid:=by omega
  have hm2:mid<high:=by omega
  have hml:mid<l.length:=by omega
  obtain⟨a2,o2,qv,ha2,hia2,hc2,hqv,hqc⟩:=HL.out.at hml;have HC:=Xu (V5 l[mid] w (by have:=HWL.out _ (W2 hml);omega) (by omega) g n qv wv hqv HW.out);have hlenq:=@Ap prog _ _ _ _ _ hqv;clear hqv hqc hmid;by_cases hc:SL l[mid] w
  .have hcI:A4 l[mid] w<0:=Fa.2 hc;have HLO2:Aa (∀j (h:j<l.length),j<mid+1->SL l[j] w):=⟨λj h h2=>by
    by_cases e:j=mid
    .subst e;exact hc
    .rcases HS.out j mid h hml (by omega) with h3|h3
     .exact(show SL l[j] l[mid] from .inl h3).trans hc
     .exact(show SL l[j] l[mid] from .inr h3).trans hc⟩
   generalize A4 l[mid] w=c at *;clear hc HLO;simp (disch:=first|omega|simp) [*];refine Xv HC.out ?_;rintro _ rfl;simp (disch:=first|omega|simp) [*];exact ih.out (high-(mid+1)) _ _ (by omega) ⟨mid+1,high,by omega,hhl,rfl,rfl,HLO2,HHI,by simp[*]⟩
  .have hcI:¬A4 l[mid] w<0:=λh=>hc (Fa.1 h);have HHI2:Aa (∀j (h:j<l.length),mid<=j->¬SL l[j] w):=⟨λj h h2 h3=>by
    by_cases e:j=mid
    .subst e;exact hc h3
    .have h4:SL l[mid] l[j]:=HS.out mid j hml h (by omega);exact hc (h4.trans h3)⟩
   generalize A4 l[mid] w=c at *;clear hc HHI;simp (disch:=first|omega|simp) [*];refine Xv HC.out ?_;rintro _ rfl;simp (disch:=first|omega|simp) [*];exact ih.out (mid-low) _ _ (by omega) ⟨low,mid,by omega,by omega,rfl,rfl,HLO,HHI2,by simp[*]⟩
 have hltI:¬(low:Int)<(high:Int):=by omega
 have he:high=low:=by omega
 subst he;have hlow:high<=l.length:=hhl;have HIN:Aa (∀h:high<l.length,l[high]=w->Be w l=l):=⟨λh e=>b6h HS.out (by rw[<- e];exact W2 h)⟩;have HAT:Aa ((∀h:high<l.length,l[high]≠w)->Be w l=l.take high++w::l.drop high):=⟨λh=>b6g hhl HLO.out λh2=>by
  have h3:=HHI.out high h2 (Wy _);rcases e8p (A4 l[high] w) 0 with h4|h4|h4
  .exact absurd (Fa.1 h4) h3
  .exact absurd (K4 h4) (h h2)
  .exact Se h4⟩
 generalize high=low at *;by_cases hll2:low<l.length
 .have hllI:(low:Int)<(l.length:Int):=by omega
  obtain⟨a2,o2,qv,ha2,hia2,hc2,hqv,hqc⟩:=HL.out.at hll2;have HC:=Xu (V5 l[low] w (by have:=HWL.out _ (W2 hll2);omega) (by omega) g n qv wv hqv HW.out);clear hqv hqc;by_cases hc:A4 l[low] w=0
  .have hr:=HIN.out hll2 (K4 hc);rw[hr];rw[hc] at HC;clear hc HIN HAT HLO HHI hr;simp (disch:=first|omega|simp) [*];refine Xv HC.out ?_;rintro _ rfl;simp (disch:=first|omega|simp) [*];exact⟨_,_,_,⟨rfl,rfl,rfl⟩,Wy _,λ_ _ _=>rfl,_,_,HGR.out,HR.out.1,HR.out.2⟩
  .have hr:=HAT.out λh e=>hc (by rw[e];exact V6 w);rw[hr];obtain⟨RL,hRL⟩:∃x,x=l.take low++w::l.drop low:=⟨_,rfl⟩;rw[<- hRL];have HRL:Aa (RL=l.take low++w::l.drop low/\RL.length=l.length+1):=⟨hRL,by rw[hRL];simp;omega⟩;clear hRL;generalize A4 l[low] w=c at *;have hl0:0<l.length:=by omega
   clear HIN HAT HLO HHI hr;rcases HGR.out with⟨h6,hc6,hs6⟩|⟨h6,hs6,hC1,hC2,hC3,hC4⟩
   .omega
   subst hs6;simp (disch:=first|omega|simp) [*];refine Xv HC.out ?_;rintro _ rfl;simp (disch:=first|omega|simp) [*];refine Xy (λm gf H'=>∃(i:Nat)(gX:Gb)(L:List AV)(x:AV),low<=i/\i<=l.length/\m=i-low/\H'=⟨.fn gX,n+1+1⟩/\Aa (∀b,b<n->b≠B->gX b=g b)/\gX (n+1)=some (.cells L true 1)/\L.length=l.length+1/\Aa (L=cs.take i++x::cs.drop i)/\gf 0=some (.slq (n+1) 0 (l.length+1) 0)/\gf 1=some wv/\gf 5=some (.li low)/\gf 8=some (.li i)) (m0:=l.length-low) ?_ ?_
   .refine⟨l.length,_,cs++[.nl],.nl,hlow,Wy _,rfl,rfl,⟨λb hb hb2=>?_⟩,Ag,?_,⟨?_⟩,by simp[*]⟩
    .simp (disch:=omega) only[Ad,Ae]
    .rw[W0,hcl];rfl
    .rw[<- hcl,Xn,e7e]
   clear ih;rintro m gf H' ⟨i,gX,L,x,hi1,hi2,rfl,rfl,HG,hgX,hLl,HL,w0,w1,w5,w8⟩ ih;refine rnd [] ?_;by_cases hil:low<i
   .obtain⟨j,rfl⟩:∃j,i=j+1:=⟨i-1,by omega⟩;have hjc:j<cs.length:=by omega
    have hjI:(low:Int)<(j:Int)+1:=by omega
    have hLj:L[j]?=some (cs[j]'hjc):=by
     rw[HL.out,Xs (by rw[W4];omega),e7j,if_pos (by omega),W6 (by omega)]
    have HSET:Aa (L.set (j+1) (cs[j]'hjc)=cs.take j++(cs[j]'hjc)::cs.drop j):=⟨by rw[HL.out];exact b7d (by omega)⟩;have hjL:j<L.length:=by omega
    have hcj:L[j]'hjL=cs[j]'hjc:=(W8.1 hLj).2;have hjL1:j+1<L.length:=by omega
    have h1c:oneC (cs[j]'hjc)=true:=HONE.out _ (W2 _);have h2c:cellsOf (cs[j]'hjc)=[cs[j]'hjc]:=HCEL.out _ (W2 _);clear hLj HL;generalize cs[j]'hjc=y at *;simp (disch:=first|omega|simp) [*];exact ih.out (j-low) _ _ (by omega) ⟨j,_,_,y,by omega,by omega,rfl,rfl,⟨λb h1 h2=>by rw[Ae (by omega)];exact HG.out b h1 h2⟩,Ag,by first|(simp[hLl];done)|(simp;omega),⟨by first|exact HSET.out|(have:=HSET.out;rwa [e8m,if_pos hjL1] at this)⟩,by simp[*]⟩
   .have hjI:¬(low:Int)<(i:Int):=by omega
    have hie:i=low:=by omega
    subst hie;have hga8:gX a9=some blk:=(HG.out a9 ha9 hg9.1).trans hg9.2;have hiL:i<L.length:=by omega
    have hset:L.set i (.slq (n+1+1+1) 0 w.length 0)=cs.take i++.slq (n+1+1+1) 0 w.length 0::cs.drop i:=by
     have e:(cs.take i).length=i:=by rw[W4];omega
     rw[HL.out,e7k _ _ (by omega),e,e6h,e7q]
    have HSE:=Xu hset;clear hset HL ih;simp (disch:=first|omega|simp) [*];rw[HRL.out.2,HSE.out];refine⟨_,_,_,⟨rfl,rfl,rfl⟩,by omega,λb h1 h2=>?_,n+1,_,.mk Ag (by omega) (by omega) (by simp;omega),?_,λq hq=>?_⟩
    .simp (disch:=omega) only[Ad,Ae];exact HG.out b h1 h2
    .rw[HRL.out.1];refine(HR.out.1.ext (by omega) λa z ha hz=>?_).ins (.ofq (own:=true) (z:=1) (B:=n+1+1+1) ?_ (by omega) rfl) (by omega)
     .have h9:=J6 hz;rw[I1 (by omega)];simp (disch:=omega) only[Ad,Ae];exact(HG.out a ha h9.1).trans h9.2
     .rw[I1 (by omega)];simp (disch:=omega) only[Hq,Ad,Ae,Ag]
    .rcases W9.1 hq with h|h
     .exact HR.out.2 q (e6l h)
     .rcases Xb.1 h with rfl|h
      .intro a o m c e;cases e
      .exact HR.out.2 q (e9f h)
 .have hllI:¬(low:Int)<(l.length:Int):=by omega
  have hr:=HAT.out λh=>absurd h hll2;rw[hr];obtain⟨RL,hRL⟩:∃x,x=l.take low++w::l.drop low:=⟨_,rfl⟩;rw[<- hRL];have HRL:Aa (RL=l.take low++w::l.drop low/\RL.length=l.length+1):=⟨hRL,by rw[hRL];simp;omega⟩;clear hRL;clear HIN HAT HLO HHI hr;rcases HGR.out with⟨h6,hc6,hs6⟩|⟨h6,hs6,hC1,hC2,hC3,hC4⟩
  .subst hs6;subst hc6;have hlow0:low=0:=by omega
   subst hlow0;have HRW:Aa (RL=[w]):=⟨by rw[HRL.out.1,e6j.1 h6];rfl⟩;have HL1:Aa (RL.length=1):=⟨by rw[HRW.out];rfl⟩;simp (disch:=first|omega|simp) [*];refine Xy (λm gf H'=>∃(gX:Gb),m=0/\H'=⟨.fn gX,n+1+1⟩/\Aa (∀b,b<n->gX b=g b)/\gX (n+1)=some (.cells [.nl] true 1)/\gf 0=some (.slq (n+1) 0 1 0)/\gf 1=some wv/\gf 5=some (.li 0)/\gf 8=some (.li 0)) (m0:=0) ?_ ?_
   .exact⟨_,rfl,rfl,⟨λb hb=>by simp (disch:=omega) only[Ad]⟩,Ag,by simp[*]⟩
   clear ih;rintro m gf H' ⟨gX,rfl,rfl,HG,hgX,w0,w1,w5,w8⟩ ih;refine rnd [] ?_;have hga8:gX a9=some blk:=(HG.out a9 ha9).trans hg9.2;clear ih;simp (disch:=first|omega|simp) [*];rw[HL1.out];refine⟨_,_,_,⟨rfl,rfl,rfl⟩,by omega,λb h1 h2=>?_,n+1,[.slq (n+1+1+1) 0 w.length 0],.mk Ag (by omega) (by omega) rfl,?_,λq hq=>?_⟩
   .simp (disch:=omega) only[Ad,Ae];exact HG.out b h1
   .rw[HRW.out];refine⟨rfl,λk hk=>?_⟩;have hk0:k=0:=by simpa using hk
    subst hk0;refine⟨_,rfl,.ofq (own:=true) (z:=1) (B:=n+1+1+1) ?_ (by omega) rfl⟩;rw[I1 (by omega)];simp (disch:=omega) only[Hq,Ad,Ae,Ag];rfl
   .rw[Xh.1 hq];intro a o m c e;cases e
  .subst hs6;simp (disch:=first|omega|simp) [*];refine Xy (λm gf H'=>∃(i:Nat)(gX:Gb)(L:List AV)(x:AV),low<=i/\i<=l.length/\m=i-low/\H'=⟨.fn gX,n+1+1⟩/\Aa (∀b,b<n->b≠B->gX b=g b)/\gX (n+1)=some (.cells L true 1)/\L.length=l.length+1/\Aa (L=cs.take i++x::cs.drop i)/\gf 0=some (.slq (n+1) 0 (l.length+1) 0)/\gf 1=some wv/\gf 5=some (.li low)/\gf 8=some (.li i)) (m0:=l.length-low) ?_ ?_
   .refine⟨l.length,_,cs++[.nl],.nl,hlow,Wy _,rfl,rfl,⟨λb hb hb2=>?_⟩,Ag,?_,⟨?_⟩,by simp[*]⟩
    .simp (disch:=omega) only[Ad,Ae]
    .rw[W0,hcl];rfl
    .rw[<- hcl,Xn,e7e]
   clear ih;rintro m gf H' ⟨i,gX,L,x,hi1,hi2,rfl,rfl,HG,hgX,hLl,HL,w0,w1,w5,w8⟩ ih;refine rnd [] ?_;by_cases hil:low<i
   .obtain⟨j,rfl⟩:∃j,i=j+1:=⟨i-1,by omega⟩;have hjc:j<cs.length:=by omega
    have hjI:(low:Int)<(j:Int)+1:=by omega
    have hLj:L[j]?=some (cs[j]'hjc):=by
     rw[HL.out,Xs (by rw[W4];omega),e7j,if_pos (by omega),W6 (by omega)]
    have HSET:Aa (L.set (j+1) (cs[j]'hjc)=cs.take j++(cs[j]'hjc)::cs.drop j):=⟨by rw[HL.out];exact b7d (by omega)⟩;have hjL:j<L.length:=by omega
    have hcj:L[j]'hjL=cs[j]'hjc:=(W8.1 hLj).2;have hjL1:j+1<L.length:=by omega
    have h1c:oneC (cs[j]'hjc)=true:=HONE.out _ (W2 _);have h2c:cellsOf (cs[j]'hjc)=[cs[j]'hjc]:=HCEL.out _ (W2 _);clear hLj HL;generalize cs[j]'hjc=y at *;simp (disch:=first|omega|simp) [*];exact ih.out (j-low) _ _ (by omega) ⟨j,_,_,y,by omega,by omega,rfl,rfl,⟨λb h1 h2=>by rw[Ae (by omega)];exact HG.out b h1 h2⟩,Ag,by first|(simp[hLl];done)|(simp;omega),⟨by first|exact HSET.out|(have:=HSET.out;rwa [e8m,if_pos hjL1] at this)⟩,by simp[*]⟩
   .have hjI:¬(low:Int)<(i:Int):=by omega
    have hie:i=low:=by omega
    subst hie;have hga8:gX a9=some blk:=(HG.out a9 ha9 hg9.1).trans hg9.2;have hiL:i<L.length:=by omega
    have hset:L.set i (.slq (n+1+1+1) 0 w.length 0)=cs.take i++.slq (n+1+1+1) 0 w.length 0::cs.drop i:=by
     have e:(cs.take i).length=i:=by rw[W4];omega
     rw[HL.out,e7k _ _ (by omega),e,e6h,e7q]
    have HSE:=Xu hset;clear hset HL ih;simp (disch:=first|omega|simp) [*];rw[HRL.out.2,HSE.out];refine⟨_,_,_,⟨rfl,rfl,rfl⟩,by omega,λb h1 h2=>?_,n+1,_,.mk Ag (by omega) (by omega) (by simp;omega),?_,λq hq=>?_⟩
    .simp (disch:=omega) only[Ad,Ae];exact HG.out b h1 h2
    .rw[HRL.out.1];refine(HR.out.1.ext (by omega) λa z ha hz=>?_).ins (.ofq (own:=true) (z:=1) (B:=n+1+1+1) ?_ (by omega) rfl) (by omega)
     .have h9:=J6 hz;rw[I1 (by omega)];simp (disch:=omega) only[Ad,Ae];exact(HG.out a ha h9.1).trans h9.2
     .rw[I1 (by omega)];simp (disch:=omega) only[Hq,Ad,Ae,Ag]
    .rcases W9.1 hq with h|h
     .exact HR.out.2 q (e6l h)
     .rcases Xb.1 h with rfl|h
      .intro a o m c e;cases e
      .exact HR.out.2 q (e9f h)
end Go.Ai
