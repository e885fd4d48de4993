/- Parts of an interpreter and of a proof. No condition. -/
import Derived.Test.YtpimmmnkcgnjjaaGreatA19
import Derived.Test.YtpimmmnkcgnjjaaGreatA15
import Derived.Test.YtpimmmnkcgnjjaaGreatA07
set_option linter.all false
set_option maxHeartbeats 40000000
set_option maxRecDepth 10000
open Go.Proofs Go.Proofs.Tryz
namespace Go.Ai
variable {l:Wq}{k B n:Nat}{g:Gb}
theorem Py{h:Type}{P:List h->Prop}(A:P [])(D:∀l x,P l->P (l++[x]))(l:List h):P l:=by
 rw[<- List.reverse_reverse l]
 induction l.reverse with
 | nil=>exact A
 | cons x t Q=>rw[List.reverse_cons];exact D _ _ Q
def Bf(l:Wq):Wq:=l.foldl (λa x=>if a.getLast?=some x then a else a++[x]) []
theorem V4(l:Wq)(x:Wd):Bf (l++[x])=if (Bf l).getLast?=some x then Bf l else Bf l++[x]:=by
 unfold Bf;rw[List.foldl_append];rfl
theorem b6d(l:Wq):(Bf l).getLast?=l.getLast?:=by
 refine Py (P:=λl=>(Bf l).getLast?=l.getLast?) ?_ (λl x A=>?_) l
 .rfl
 .rw[V4];split
  .rename_i h;rw[h];simp
  .simp
theorem e3l(h:k+1<l.length):Bf (l.take (k+2))=Bf (l.take (k+1))++(if l[k+1]=l[k] then [] else [l[k+1]]):=by
 rw[e6w h,V4,b6d,e6w (show k<l.length by omega),List.getLast?_append];simp only[List.getLast?_singleton,Option.some_or,Option.some.injEq];by_cases A:l[k+1]=l[k]
 .simp[A]
 .rw[if_neg (λe=>A e.symm),if_neg A]
theorem a5n{x:Wd}:x∈Bf l↔x∈l:=by
 refine Py (P:=λl=>x∈Bf l↔x∈l) ?_ (λl y A=>?_) l
 .exact Iff.rfl
 .rw[V4];split
  .rename_i h;rw[A,W9,Xh];constructor
   .exact .inl
   .rintro (D|rfl)
    .exact D
    .rw[b6d] at h;exact List.mem_of_getLast? h
  .simp[A]
theorem mkIclW:clI prog 22=some (.nl):=by kernel_rfl
attribute [simp] mkIclW
theorem elE22:Bu prog 22=some (none,1):=by kernel_rfl
theorem b6e{len:Nat}(h:k<len){H:Mem}{ev:Ev}{d:Option Tmp}{ty:TypeId}{p:String}{af:Array Edge}{gd:Option (Nat×Bool)}{x lo:Operand}{hx:ev x=some (.slq B 0 len 0)}{hh:ev lo=some (.li (k:Int))}:
  ex2 prog H ev ⟨d,.slice 22 x (some lo) none none,ty,p,af,gd⟩ x lo (some (.slq B 0 len 0)) (some (.li (k:Int))) hx hh=.val (.slq B k (len-k) k) H:=by
 rw[b1u elE22 (by omega) (by omega)];simp
theorem iaQ{off len d:Nat}(h:k<len){H:Mem}{ev:Ev}{o:Oper}{t:TypeId}:iaS prog H ev o t (some (none,1)) (some (.slq B off len d)) (some (.li (k:Int)))=.val (.ptr B (off+k)) H:=by
 rw[a1y (by omega) (by omega)];simp
theorem RowsW.takeD{svs:List AV}(h:RowsW g n l svs)(m:Nat):RowsW g n (l.take m) (svs.take m):=by
 refine⟨by rw[W4,W4,h.1],λk D=>?_⟩;have A:k<m/\k<l.length:=by rw[W4] at D;omega
 obtain⟨sv,Q,U⟩:=h.2 k A.2;exact⟨sv,by rw[e7j,if_pos A.1];exact Q,by rw[e7i];exact U⟩
def Pz(g:Gb)(lo n B:Nat)(l:Wq)(cs:List AV)(r:A1):Prop:=∃g' cs',r=.ret (.slq B 0 (Bf l).length 0) ⟨.fn g',n⟩/\(∀b,b≠B->g' b=g b)/\g' B=some (.cells cs' true 1)/\(Bf l).length<=cs'.length/\RowsW (Fe g lo B) n (Bf l) (cs'.take (Bf l).length)/\∀q∈cs'.take (Bf l).length,q∈cs
theorem Pz.mk{g': Gb}{lo:Nat}{cs h:List AV}(A:(Bf l).length=k)(D:∀b,b≠B->g' b=g b)(Q:g' B=some (.cells h true 1))(U:k<=h.length)(Z:RowsW (Fe g lo B) n (Bf l) (h.take k))(h5:∀q∈h.take k,q∈cs):Pz g lo n B l cs (.ret (.slq B 0 k 0) ⟨.fn g',n⟩):=by
 subst A;exact⟨g',h,rfl,D,Q,U,Z,h5⟩
theorem e3m{cs:List AV}{lo:Nat}(a8:RowsW (Fe g lo B) n l cs)(a2:g B=some (.cells cs true 1))(c9:0<l.length)(g4:l.length<=100000)(hw:∀w∈l,w.length<=100000):
  WC 0 prog 111 [.slq B 0 l.length 0,.lit (.func (.func 112) #[] #[])] ⟨.fn g,n⟩ (Pz g lo n B l cs):=by
 have e0:=a8.1;have b7:∀(k:Nat)(h:k<l.length),Al (Fe g lo B) n l[k] (cs[k]'(by omega)):=by
  intro k h;obtain⟨sv,e1,e2⟩:=a8.2 k h;rw[W6 (by omega)] at e1;cases e1;exact e2
 have b8:=Xu a8;have a3:=Xu b7;have HW:=Xu hw;clear b7 a8 hw;have g5:(l.length:Int)<=100000:=by omega
 have b0:Aa (Bf l=l->Pz g lo n B l cs (.ret (.slq B 0 l.length 0) ⟨.fn g,n⟩)):=⟨λh=>by
  refine Pz.mk (by rw[h]) (λ_ _=>rfl) a2 (by omega) ?_ λq hq=>e6l hq;rw[h,Xi (by omega)];exact b8.out⟩
 have b1:Aa (Bf (l.take 1)=l.take 1):=⟨by
  cases l with
  | nil=>cases c9
  | cons w l=>rfl⟩
 have a9:=Xu λk (h:k+1<l.length)=>e3l h;by_cases h1:l.length<2
 .have e5:(l.length:Int)<2:=by omega
  refine ent pl111 func111 ?_;simp (disch:=first|omega|simp) [*];refine b0.out ?_;have:=b1.out
  rwa [Xi (by omega)] at this
 have e5:¬(l.length:Int)<2:=by omega
 refine ent pl111 func111 ?_;simp (disch:=first|omega|simp) [*];refine Xy (λm U H'=>∃(k:Nat),1<=k/\k<=l.length/\m=l.length-k/\H'=⟨.fn g,n⟩/\Aa (Bf (l.take k)=l.take k)/\U 0=some (.slq B 0 l.length 0)/\U 1=some (.lit (.func (.func 112) #[] #[]))/\U 5=some (.li k)) (m0:=l.length-1) ?_ ?_
 .exact⟨1,Wy _,by omega,rfl,rfl,b1,by simp[*]⟩
 clear b1;rintro m U H' ⟨k,b9,hk,rfl,rfl,HD,w0,w1,w5⟩ ih;refine rnd pl111 ?_;by_cases a4:k<l.length
 .have e6:(k:Int)<(l.length:Int):=by omega
  obtain⟨j,rfl⟩:∃j,k=j+1:=⟨k-1,by omega⟩;have g6:(j:Int)+1<(l.length:Int):=by omega
  have D:=Xu (b5q (HW.out _ (W2 a4)) (HW.out _ (W2 (show j<l.length by omega))) g n _ _ (Xz (Wy _) (λa z _ Z=>(K7 Z).2.2) (a3.out (j+1) a4)) (Xz (Wy _) (λa z _ Z=>(K7 Z).2.2) (a3.out j (by omega))));by_cases a5:l[j+1]=l[j]
  .rw[decide_eq_true a5] at D;have a6:Aa (Bf (l.take (j+2))=l.take (j+1)):=⟨by rw[a9.out j a4,if_pos a5,HD.out];simp⟩;clear b0 HD ih a5;obtain⟨m,hm⟩:∃m,l.length=j+1+(m+1):=⟨l.length-(j+2),by omega⟩;have c0:∀{H:Mem}{ev:Ev}{d:Option Tmp}{ty:TypeId}{p:String} {af:Array Edge} {gd:Option (Nat×Bool)} {x lo:Operand} {hx:ev x=some (.slq B 0 l.length 0)} {hh:ev lo=some (.li ((j:Int)+1))},
     ex2 prog H ev ⟨d,.slice 22 x (some lo) none none,ty,p,af,gd⟩ x lo (some (.slq B 0 l.length 0)) (some (.li ((j:Int)+1))) hx hh=.val (.slq B (j+1) (m+1) (j+1)) H:=by
    intro H ev d ty p af gd x lo hx hh;have e:=b6e (B:=B) (k:=j+1) (len:=l.length) (by omega) (H:=H) (ev:=ev) (d:=d) (ty:=ty) (p:=p) (af:=af) (gd:=gd) (x:=x) (lo:=lo) (hx:=hx) (hh:=hh);rw[show l.length-(j+1)=m+1 by omega] at e;exact e
   have HM:=Xu hm;clear hm;simp (disch:=first|omega|simp) [*];refine Xv D.out ?_;rintro _ rfl;clear D;simp (disch:=first|omega|simp) [*];clear c0;refine Xy (λmm U H'=>∃(i k:Nat)(gX:Gb)(A:List AV),i<=m/\mm=m-i/\H'=⟨.fn gX,n⟩/\1<=k/\k<=j+i+1/\Aa (∀b,b≠B->gX b=g b)/\gX B=some (.cells A true 1)/\A.length=l.length/\Aa (∀q,j+i+1<=q->A[q]?=cs[q]?)/\Aa ((Bf (l.take (j+i+2))).length=k)/\Aa (RowsW (Fe g lo B) n (Bf (l.take (j+i+2))) (A.take k)/\∀q∈A.take k,q∈cs) /\
    U 0=some (.slq B 0 l.length 0)/\U 1=some (.lit (.func (.func 112) #[] #[]))/\U 5=some (.li k)/\U 6=some (.slq B (j+1) (m+1) (j+1))/\U 7=some (.li ((i:Int)+1))) (m0:=m) ?_ ?_
   .refine⟨0,j+1,g,cs,W3 _,rfl,rfl,by omega,by omega,⟨λ_ _=>rfl⟩,a2,e0,⟨λ_ _=>rfl⟩,⟨?_⟩,⟨?_,λq hq=>e6l hq⟩,by simp[*]⟩
    .rw[Nat.add_zero,a6.out,W4];omega
    .rw[Nat.add_zero,a6.out];exact b8.out.takeD _
   clear a6 w0 w1 w5 a2;rintro mm U H' ⟨i,k,gX,A,hi,rfl,rfl,b9,g7,HG,a2,c1,HC,HL,HR,w0,w1,w5,w6,w7⟩ ih;refine rnd pl111 ?_;have c2:k<l.length:=by have:=HM.out;omega
   by_cases g8:i<m
   .have e7:((i:Int)+1)<((m:Int)+1):=by omega
    have b2:j+(i+1)+1<l.length:=by have:=HM.out;omega
    have c6:j+i+1<l.length:=by omega
    have a7:=a3.out (j+(i+1)+1) b2;have c7:=a3.out (j+i+1) c6;have hX:∀a z,Fe g lo B a=some z->gX a=some z:=λa z Z=>by
     obtain⟨e1,e2,e3⟩:=K7 Z;rw[HG.out a e2];exact e3
    have D:=Xu (b5q (HW.out _ (W2 b2)) (HW.out _ (W2 c6)) gX n _ _ (Xz (Wy _) (λa z _ Z=>hX a z Z) a7) (Xz (Wy _) (λa z _ Z=>hX a z Z) c7));have g9:A5 (some (false,1)) (some (.cells A true 1)) (j+1+(i+1))=some (cs[j+(i+1)+1]'(by omega)):=by
     have e:A[j+1+(i+1)]?=some (cs[j+(i+1)+1]'(by omega)):=by
      rw[HC.out _ (by omega),show j+1+(i+1)=j+(i+1)+1 by omega];exact W6 _
     simpa[A5] using e
    have h0:A5 (some (false,1)) (some (.cells A true 1)) (j+1+i)=some (cs[j+i+1]'(by omega)):=by
     have e:A[j+1+i]?=some (cs[j+i+1]'(by omega)):=by
      rw[HC.out _ (by omega),show j+1+i=j+i+1 by omega];exact W6 _
     simpa[A5] using e
    have h2:∀{H:Mem}{ev:Ev}{o:Oper}{t:TypeId},iaS prog H ev o t (some (none,1)) (some (.slq B (j+1) (m+1) (j+1))) (some (.li ((i:Int)+1)))=.val (.ptr B (j+1+(i+1))) H:=λ{_ _ _ _}=>iaQ (k:=i+1) (by omega);have h3:∀{H:Mem}{ev:Ev}{o:Oper}{t:TypeId},iaS prog H ev o t (some (none,1)) (some (.slq B (j+1) (m+1) (j+1))) (some (.li (i:Int)))=.val (.ptr B (j+1+i)) H:=λ{_ _ _ _}=>iaQ (k:=i) (by omega);have h4:∀{H:Mem}{ev:Ev}{o:Oper}{t:TypeId},iaS prog H ev o t (some (none,1)) (some (.slq B 0 l.length 0)) (some (.li (k:Int)))=.val (.ptr B k) H:=by
     intro H ev o t;have:=iaQ (B:=B) (off:=0) (d:=0) c2 (H:=H) (ev:=ev) (o:=o) (t:=t)
     rwa [e6u] at this
    have a0:Aa (Bf (l.take (j+(i+1)+2))=Bf (l.take (j+i+2))++if l[j+(i+1)+1]=l[j+i+1] then [] else [l[j+(i+1)+1]]):=⟨a9.out (j+i+1) b2⟩;have e8:=a7.one;have h5:allOne [cs[j+(i+1)+1]'(by omega)]=true:=by simp[e8]
    have h6:=a7.cell;have e9:=Xu a7;have g0:Aa (cs[j+(i+1)+1]'(by omega)∈cs):=⟨W2 _⟩;clear a7 c7 hX;have b3:Aa (∀q,j+(i+1)+1<=q->A[q]?=cs[q]?):=⟨λq hq=>HC.out q (by omega)⟩;generalize cs[j+(i+1)+1]'(by omega)=Q at *;generalize cs[j+i+1]'(by omega)=q0 at *;by_cases a1:l[j+(i+1)+1]=l[j+i+1]
    .rw[decide_eq_true a1] at D;rw[if_pos a1,e6b] at a0;have b4:Aa ((Bf (l.take (j+(i+1)+2))).length=k):=⟨by rw[a0.out];exact HL.out⟩;have b5:Aa (RowsW (Fe g lo B) n (Bf (l.take (j+(i+1)+2))) (A.take k)/\∀q∈A.take k,q∈cs):=⟨by rw[a0.out];exact HR.out⟩;clear a0 HL HR a1 HC;simp (disch:=first|omega|simp) [*];refine Xv D.out ?_;rintro _ rfl;clear D;simp (disch:=first|omega|simp) [*];exact ih.out (m-(i+1)) _ _ (by omega) ⟨i+1,k,gX,A,by omega,rfl,rfl,b9,by omega,HG,a2,c1,b3,b4,b5,by simp[*]⟩
    .rw[decide_eq_false a1] at D;rw[if_neg a1] at a0;have b4:Aa ((Bf (l.take (j+(i+1)+2))).length=k+1):=⟨by rw[a0.out,W0,HL.out];rfl⟩;have b6:k+1<=A.length:=by omega
     have c8:(Gk A k [Q]).take (k+1)=A.take k++[Q]:=by
      have:=Fq (l:=A) (new:=[Q]) (off:=k) (by simpa using b6);exact this
     have b5:Aa (RowsW (Fe g lo B) n (Bf (l.take (j+(i+1)+2))) ((Gk A k [Q]).take (k+1))/\∀q∈(Gk A k [Q]).take (k+1),q∈cs):=⟨by
      rw[a0.out,c8];refine⟨HR.out.1.snoc e9.out,λq hq=>?_⟩;rcases W9.1 hq with h|h
      .exact HR.out.2 q h
      .rw[Xh.1 h];exact g0.out⟩
     have g1:Aa ((Gk A k [Q]).length=l.length):=⟨(D1 (l:=A) (new:=[Q]) (off:=k) (by simpa using b6)).trans c1⟩;have g2:Aa (∀q,j+(i+1)+1<=q->(Gk A k [Q])[q]?=cs[q]?):=⟨λq hq=>(Pe (l:=A) (new:=[Q]) (off:=k) (j:=q) (by simpa using b6) (.inr (by simp;omega))).trans (b3.out q hq)⟩;clear a0 HL HR a1 HC b3 c8;simp (disch:=first|omega|simp) [*];refine Xv D.out ?_;rintro _ rfl;clear D;simp (disch:=first|omega|simp) [*];exact ih.out (m-(i+1)) _ _ (by omega) ⟨i+1,k+1,_,Gk A k [Q],by omega,rfl,rfl,by omega,by omega,⟨λb hb=>(Ae hb).trans (HG.out b hb)⟩,(by rw[show Gk A k [Q]=List.take k A++Q::List.drop (k+1) A from by simp[Gk]];exact Ag),g1.out,g2,b4,b5,by simp[*]⟩
   .have e7:¬((i:Int)+1)<((m:Int)+1):=by omega
    obtain⟨r,hr⟩:∃r,l.length=k+(r+1):=⟨l.length-(k+1),by omega⟩;have hm:=HM.out;have c0:∀{H:Mem}{ev:Ev}{d:Option Tmp}{ty:TypeId}{p:String} {af:Array Edge} {gd:Option (Nat×Bool)} {x lo:Operand} {hx:ev x=some (.slq B 0 l.length 0)} {hh:ev lo=some (.li (k:Int))},
      ex2 prog H ev ⟨d,.slice 22 x (some lo) none none,ty,p,af,gd⟩ x lo (some (.slq B 0 l.length 0)) (some (.li (k:Int))) hx hh=.val (.slq B k (r+1) k) H:=by
     intro H ev d ty p af gd x lo hx hh;rw[b6e c2,show l.length-k=r+1 by omega]
    have g3:Aa (l.take (j+i+2)=l):=⟨Xi (by omega)⟩;rw[g3.out] at HL HR;have hL:=HL.out;have h7:k+(r+1)<=A.length:=by omega
    clear HL HC ih a9 a3 hm hr;simp (disch:=first|omega|simp) [*];have e:(Aq A k (rep [.nl] (r+1))).take k=A.take k:=by
     unfold Aq;rw[e6c,List.take_append_of_le_length (by rw[W4];omega),List.take_take,Nat.min_self]
    refine Pz.mk hL (λb hb=>(Ae hb).trans (HG.out b hb)) Ag ?_ (by have h:=HR.out.1;rw[<- e] at h;exact h) (by have h:=HR.out.2;rw[<- e] at h;exact h);rw[D1 (by simp[Gn];omega)];omega
  rw[decide_eq_false a5] at D;have a6:Aa (Bf (l.take (j+2))=l.take (j+2)):=⟨by rw[a9.out j a4,if_neg a5,HD.out,e6w a4]⟩;simp (disch:=first|omega|simp) [*];refine Xv D.out ?_;rintro _ rfl;simp (disch:=first|omega|simp) [*];exact ih.out (l.length-(j+1+1)) _ _ (by omega) ⟨j+1+1,by omega,by omega,rfl,rfl,a6,by simp[*]⟩
 .have e6:¬(k:Int)<(l.length:Int):=by omega
  simp (disch:=first|omega|simp) [*];refine b0.out ?_;have:=HD.out
  rwa [Xi (by omega)] at this
end Go.Ai
