/- Parts of an interpreter and of a proof. No condition. -/
import Derived.Test.YtpimmmnkcgnjjaaGreatK41
import Derived.Test.YtpimmmnkcgnjjaaGreatK21
set_option linter.all false
set_option maxHeartbeats 40000000
set_option maxRecDepth 10000
open Go.Proofs Go.Proofs.Tryz
namespace Go.Ai
variable {g:Gb}{B n z:Nat}
theorem Wl{k:Nat}(h:g B=some (.cells (List.replicate k (.li 0)) true z))(f:B<n):Al g n (List.replicate k 0) (.sl B 0 k k):=by
 have A:=Ez (g:=g) (n:=n) (len:=k) (c:=k) h f;have D:wdC (List.replicate k 0)=List.replicate k (.li 0):=by simp[wdC]
 show Af g n _ (List.replicate k (0:Int)).length (wdC (List.replicate k 0));rw[e8x,D];exact A
theorem e5l{a b:Int}(h:g B=some (.cells [.li a,.li b] true z))(f:B<n):Al g n [a,b] (.sl B 0 2 2):=Ez (len:=2) (c:=2) h f
theorem e5m{a b c:Int}(h:g B=some (.cells [.li a,.li b,.li c] true z))(f:B<n):Al g n [a,b,c] (.sl B 0 3 3):=Ez (len:=3) (c:=3) h f
theorem e5n{a o:Nat}(h:Cf g n [[(-1,-1),(-1,-1)]] (.sl a o 1 1)):∃f D q A Q,f<n/\A<n/\(∀{H:Mem}{ev:Ev}{p:Oper}{t:TypeId},iaS prog H ev p t (some (none,1)) (some (.sl a o 1 1)) (some (.li 0))=.val (.ptr f D) H)/\Bf (some (false,1)) (g f) D=some q/\(∀{H:Mem}{ev:Ev}{p:Oper}{t:TypeId},iaS prog H ev p t (some (none,2)) (some q) (some (.li 1))=.val (.ptr A Q) H)/\Bf (some (true,2)) (g A) Q=some (.agg [.li (-1),.li (-1)])/\oneC q=true:=by
 obtain⟨f,D,q,Z,h2,h3,U⟩:=h.at (k:=0) (by decide);obtain⟨A,Q,k1,k2,k3⟩:=Vr U (i:=1) (by decide);exact⟨f,D+0,q,A,Q+1*2,Z,k1,h2,h3,k2,k3,U.one⟩
theorem P3{k:Nat}:Av (.sl B 0 k k):=λ_ _ _ _ e=>by cases e;exact Wy _
theorem H6{a:Nat}{z:Blk}(h:Ak g B none a=some z):a≠B/\g a=some z:=by
 by_cases e:a=B
 .subst e;rw[Ah] at h;cases h
 .rw[Ae e] at h;exact⟨e,h⟩
theorem e5o(g:Gb)(n:Nat):WC 0 prog 11 [] ⟨.fn g,n⟩ λr=>r=.ret (.lit (.bool true)) ⟨.fn g,n⟩:=by
  refine X0 rfl ?_;refine ent pl11 func11 ?_;simp (disch:=first|omega|simp) [*];refine Xs (e4y _ _) ?_;rintro _ ⟨sv,ev,h,g1,n1,rfl,k0,c6,hT⟩;have Q:=hT.s.one;have U:=hT.e.one;have Z:=hT.t.choose_spec.1.one;have a0:allOne [.li 1,.li 1,sv,ev,.li 1,.li 1,h]=true:=by simp[Q,U,Z]
  have c7:=Xr c6;have D:=Xr hT;clear c6 hT;simp (disch:=first|omega|simp) [*];refine Ys (K:=L6 0 λgf gN nc=>∃sv ev h,n1+1<=nc/\Aa (∀b,b<n1->gN b=g1 b)/\gN n1=some (.cells [.li 1,.li 1,sv,ev,.li 1,.li 1,h] true 0)/\Aa (A7 (Ak gN n1 none) nc (zS 64) [[0]] (Aj 1 []) sv ev h)/\gf 1=some (.ptr n1 0)) ?_ ?_
  · refine Xv (λm gf H'=>∃(k nc:Nat)(gN:Gb)(sv ev h:AV),1<=k/\k<=64/\m=64-k/\H'=⟨.fn gN,nc⟩/\n1+1<=nc/\Aa (∀b,b<n1->gN b=g1 b)/\gN n1=some (.cells [.li 1,.li 1,sv,ev,.li 1,.li 1,h] true 0)/\Aa (A7 (Ak gN n1 none) nc (zS k) [[0]] (Aj 1 []) sv ev h)/\gf 1=some (.ptr n1 0)/\gf 3=some (.li (k:Nat))) (m0:=63) ?_ ?_
    · refine⟨1,_,_,sv,ev,h,by omega,by omega,rfl,rfl,by omega,⟨λb f=>Ad f⟩,Ah,⟨D.out.extX (by omega) λa z ha A=>?_⟩,by simp[*]⟩;rw[Ae (by omega),Ad ha];exact A
    clear Q U Z D a0;rintro m gf H' ⟨k,nc,gN,sv,ev,h,i5,hk,rfl,rfl,b7,HG,f,D,w1,w3⟩ ih;have Q:=D.out.s.one;have U:=D.out.e.one;have Z:=D.out.t.choose_spec.1.one;have a0:allOne [.li 1,.li 1,sv,ev,.li 1,.li 1,h]=true:=by simp[Q,U,Z]
    refine rnd pl11 ?_;by_cases b8:k<64
    · have b9:(k:Int)<64:=by omega
      simp (disch:=first|omega|simp) [*];refine Xs (e5b i5 b8 _ _ _ _ _ _ (D.out.extX (by omega) λa z ha A=>(by
        obtain⟨e1,e2⟩:=H6 A;simp (disch:=omega) only[Ad];exact e2)) (Wl (z:=0) (by simp (disch:=omega) only[Ad,Ah]) (by omega)) P3) ?_
      rintro _ ⟨a1,a2,a5,g3,n3,rfl,k1,b4,a8⟩;clear Q U Z a0 D;have Q:=a8.s.one;have U:=a8.e.one;have Z:=a8.t.choose_spec.1.one;have a0:allOne [.li 1,.li 1,a1,a2,.li 1,.li 1,a5]=true:=by simp[Q,U,Z]
      have hb3:=(b4 n1 (by omega)).trans ((Ad (by omega)).trans ((Ad (by omega)).trans f));have hb4:=(b4 (nc+1) (by omega)).trans Ah;have i6:Aa (∀b,b<n1->g3 b=g1 b):=⟨λb f=>(b4 b (by omega)).trans ((Ad (by omega)).trans ((Ad (by omega)).trans (HG.out b f)))⟩;have i7:=Xr a8;clear b4 a8 f;simp (disch:=first|omega|simp) [*];refine ih.out (64-(k+1)) _ _ (by omega) ⟨k+1,_,_,a1,a2,a5,by omega,by omega,rfl,rfl,by omega,⟨λb f=>?_⟩,Ah,⟨i7.out.extX (by omega) λa z ha A=>?_⟩,by simp[*]⟩
      · simp (disch:=omega) only[Ad,Ae];exact i6.out b f
      · obtain⟨e1,e2⟩:=B8 A;simp (disch:=omega) only[Ad,Ae];exact e2
    · have b9:¬(k:Int)<64:=by omega
      obtain rfl:k=64:=by omega
      simp (disch:=first|omega|simp) [*];exact⟨sv,ev,h,⟨rfl,rfl,rfl⟩,D⟩
  · clear Q U Z D a0;rintro _ ⟨gf,gN,nc,rfl,sv,ev,h,b7,c8,c9,a7,w1⟩;have Q:=a7.out.s.one;have U:=a7.out.e.one;have Z:=a7.out.t.choose_spec.1.one;have a0:allOne [.li 1,.li 1,sv,ev,.li 1,.li 1,h]=true:=by simp[Q,U,Z]
    simp (disch:=first|omega|simp) [*];refine Xs (e5c _ _ _ _ _ _ (a7.out.extX (by omega) λa z ha A=>(by
        obtain⟨e1,e2⟩:=H6 A;simp (disch:=omega) only[Ad,Ae];exact e2)) (Wl (z:=0) (by simp (disch:=omega) only[Ad,Ah];rfl) (by omega)) P3) ?_
    rintro _ ⟨g3,n3,rfl,k2,a9⟩;have e0:g3 n1=some (.cells [.li 1,.li 1,sv,ev,.li 1,.li 1,h] true 0):=by rw[a9 n1 (by omega)];simp (disch:=omega) only[Ad,Ae];exact c9
    have e5:Aa (∀b,b<n1->g3 b=g1 b):=⟨λb f=>by rw[a9 b (by omega)];simp (disch:=omega) only[Ad,Ae];exact c8.out b f⟩;have i8:g3 (nc+1)=some (.cells [.li 0,.li 0,.nl,.nl,.li 0,.li 0,.nl] true 0):=by rw[a9 (nc+1) (by omega)];simp (disch:=omega) only[Ad,Ah]
    have c0:Aa (A7 (Ak g3 n1 none) nc (zS 64) [[0]] (Aj 1 []) sv ev h):=⟨a7.out.extX (Wy _) λa z ha A=>(by
        obtain⟨e1,e2⟩:=H6 A;rw[Ae e1,a9 a (by omega)];simp (disch:=omega) only[Ad,Ae];exact e2)⟩
    clear a9 a7 c9 c8;unfold zeroTab;simp (disch:=first|omega|simp) [*];clear i8;refine Xs (e5d _ _ _ _ _ _ (c0.out.extX (by omega) λa z ha A=>(by
        obtain⟨e1,e2⟩:=H6 A;simp (disch:=omega) only[Ad,Ae];exact e2)) (Wl (z:=0) (by simp (disch:=omega) only[Ad,Ah];rfl) (by omega)) P3) ?_
    rintro _ ⟨a1,a2,a5,g4,n4,rfl,k3,b0,e6,e7,e8⟩;have e9:g4 n1=some (.cells [.li 1,.li 1,sv,ev,.li 1,.li 1,h] true 0):=by rw[b0 n1 (by omega)];simp (disch:=omega) only[Ad,Ae];exact e0
    have g0:Aa (∀b,b<n1->g4 b=g1 b):=⟨λb f=>by rw[b0 b (by omega)];simp (disch:=omega) only[Ad,Ae];exact e5.out b f⟩;have i9:g4 (n3+1)=some (.cells [.li 0,.li 0,.nl,.nl,.li 0,.li 0,.nl] true 0):=by rw[b0 (n3+1) (by omega)];simp (disch:=omega) only[Ad,Ah]
    have c1:Aa (A7 (Ak g4 n1 none) nc (zS 64) [[0]] (Aj 1 []) sv ev h):=⟨c0.out.extX (Wy _) λa z ha A=>(by
        obtain⟨e1,e2⟩:=H6 A;rw[Ae e1,b0 a (by omega)];simp (disch:=omega) only[Ad,Ae];exact e2)⟩
    clear b0 c0 e0 e5;have j0:allOne [.li 1,.li 1,a1,a2,.li 1,.li 1,a5]=true:=by simp[e6,e7,e8]
    simp (disch:=first|omega|simp) [*];clear i9 e6 e7 e8 j0;refine Xs (e5e _ _ _ _ _ _ (c1.out.extX (by omega) λa z ha A=>(by
        obtain⟨e1,e2⟩:=H6 A;simp (disch:=omega) only[Ad,Ae];exact e2)) (Wl (z:=0) (by simp (disch:=omega) only[Ad,Ah];rfl) (by omega)) P3) ?_
    rintro _ ⟨g5,n5,rfl,k4,b1⟩;have j1:g5 n1=some (.cells [.li 1,.li 1,sv,ev,.li 1,.li 1,h] true 0):=by rw[b1 n1 (by omega)];simp (disch:=omega) only[Ad,Ae];exact e9
    have g2:Aa (∀b,b<n1->g5 b=g1 b):=⟨λb f=>by rw[b1 b (by omega)];simp (disch:=omega) only[Ad,Ae];exact g0.out b f⟩;have j2:g5 (n4+1)=some (.cells [.li 0,.li 0,.nl,.nl,.li 0,.li 0,.nl] true 0):=by rw[b1 (n4+1) (by omega)];simp (disch:=omega) only[Ad,Ah]
    have h0:Aa (A7 (Ak g5 n1 none) nc (zS 64) [[0]] (Aj 1 []) sv ev h):=⟨c1.out.extX (Wy _) λa z ha A=>(by
        obtain⟨e1,e2⟩:=H6 A;rw[Ae e1,b1 a (by omega)];simp (disch:=omega) only[Ad,Ae];exact e2)⟩
    clear b1 c1 e9 g0;unfold zeroTab;simp (disch:=first|omega|simp) [*];clear j2;refine Xs (e5i _ _ _ _ _ (h0.out.extX (by omega) λa z ha A=>(by
        obtain⟨e1,e2⟩:=H6 A;simp (disch:=omega) only[Ad,Ae];exact e2))) ?_
    rintro _ ⟨B,q,z,g6,n6,rfl,k5,h1,hB,j3,hq⟩;have h2:=hq.one;have h3:=@Au prog _ _ _ _ _ hq;rw[e8x] at h3;have h4:Aa (∀b,b<n1->g6 b=g1 b):=⟨λb f=>by rw[h1 b (by omega)];simp (disch:=omega) only[Ad,Ae];exact g2.out b f⟩;clear h1 hq h0 j1 g2 a0 Q U Z;simp (disch:=first|omega|simp) [*];refine Xs (e4z _ _) ?_;rintro _ ⟨sv,ev,h,g7,n7,rfl,k6,h5,hT⟩;have Q:=hT.s.one;have U:=hT.e.one;have Z:=hT.t.choose_spec.1.one;have a0:allOne [.li 16,.li 1,sv,ev,.li 16,.li 1,h]=true:=by simp[Q,U,Z]
    have h6:Aa (∀b,b<n1->g7 b=g1 b):=⟨λb f=>(h5 b (by omega)).trans (h4.out b f)⟩;have D:=Xr hT;clear h5 hT h4 j3 h3 h2;simp (disch:=first|omega|simp) [*];refine Ys (K:=L6 2 λgf gN nc=>∃sv ev h,n7+1<=nc/\Aa (∀b,b<n7->gN b=g7 b)/\gN n7=some (.cells [.li 16,.li 1,sv,ev,.li 16,.li 1,h] true 0)/\Aa (A7 (Ak gN n7 none) nc [[]] (wE 240) (Aj 16 []) sv ev h)/\gf 14=some (.ptr n7 0)) ?_ ?_
    · refine Xv (λm gf H'=>∃(k nc:Nat)(gN:Gb)(sv ev h:AV),k<=240/\m=240-k/\H'=⟨.fn gN,nc⟩/\n7+1<=nc/\Aa (∀b,b<n7->gN b=g7 b)/\gN n7=some (.cells [.li 16,.li 1,sv,ev,.li 16,.li 1,h] true 0)/\Aa (A7 (Ak gN n7 none) nc [[]] (wE k) (Aj 16 []) sv ev h)/\gf 14=some (.ptr n7 0)/\gf 16=some (.li (k:Nat))) (m0:=240) ?_ ?_
      · refine⟨0,_,_,sv,ev,h,by omega,rfl,rfl,by omega,⟨λb f=>Ad f⟩,Ah,⟨D.out.extX (by omega) λa z ha A=>?_⟩,by simp[*]⟩;rw[Ae (by omega),Ad ha];exact A
      clear Q U Z D a0;rintro m gf H' ⟨k,nc,gN,sv,ev,h,hk,rfl,rfl,b7,HG,f,D,j4,k7⟩ ih;have Q:=D.out.s.one;have U:=D.out.e.one;have Z:=D.out.t.choose_spec.1.one;have a0:allOne [.li 16,.li 1,sv,ev,.li 16,.li 1,h]=true:=by simp[Q,U,Z]
      refine rnd pl11 ?_;by_cases b8:k<240
      · have b9:(k:Int)<240:=by omega
        simp (disch:=first|omega|simp) [*];have hm:(k:Int).tmod 16=((k % 16:Nat):Int):=by rw[Int.tmod_eq_emod_of_nonneg (by omega)];omega
        have hd:(k:Int) / 16=((k / 16:Nat):Int):=by omega
        refine Xs (e5f b8 _ _ _ _ _ _ (D.out.extX (by omega) λa z ha A=>(by
          obtain⟨e1,e2⟩:=H6 A;simp (disch:=omega) only[Ad];exact e2)) (by rw[<- hm,<- hd];exact e5l Ah (by omega)) P3) ?_
        rintro _ ⟨a1,a2,a5,g8,n8,rfl,j5,a6,b2⟩;clear Q U Z a0 D hm hd;have Q:=b2.s.one;have U:=b2.e.one;have Z:=b2.t.choose_spec.1.one;have a0:allOne [.li 16,.li 1,a1,a2,.li 16,.li 1,a5]=true:=by simp[Q,U,Z]
        have hb8:=(a6 n7 (by omega)).trans ((Ad (by omega)).trans f);have b5:Aa (∀b,b<n7->g8 b=g7 b):=⟨λb f=>(a6 b (by omega)).trans ((Ad (by omega)).trans (HG.out b f))⟩;have b6:=Xr b2;clear a6 b2 f;simp (disch:=first|omega|simp) [*];refine ih.out (240-(k+1)) _ _ (by omega) ⟨k+1,_,_,a1,a2,a5,by omega,rfl,rfl,by omega,⟨λb f=>?_⟩,Ah,⟨b6.out.extX (by omega) λa z ha A=>?_⟩,by simp[*]⟩
        · simp (disch:=omega) only[Ad,Ae];exact b5.out b f
        · obtain⟨e1,e2⟩:=B8 A;simp (disch:=omega) only[Ad,Ae];exact e2
      · have b9:¬(k:Int)<240:=by omega
        obtain rfl:k=240:=by omega
        simp (disch:=first|omega|simp) [*];exact⟨sv,ev,h,⟨rfl,rfl,rfl⟩,D⟩
    clear Q U Z D a0;rintro _ ⟨gf,gN,nc,rfl,sv,ev,h,b7,HG,f,D,j4⟩;have Q:=D.out.s.one;have U:=D.out.e.one;have Z:=D.out.t.choose_spec.1.one;have h7:=@Au prog _ _ _ _ _ D.out.e.listV.choose_spec.1;have h8:(wE 240).length=256:=a5y 240;rw[h8] at h7;clear h8;have a0:allOne [.li 16,.li 1,sv,ev,.li 16,.li 1,h]=true:=by simp[Q,U,Z]
    simp (disch:=first|omega|simp) [*];refine Xs (e5g _ _ _ _ _ _ (D.out.extX (by omega) λa z ha A => (by
          obtain⟨e1,e2⟩:=H6 A;simp (disch:=omega) only[Ad];exact e2)) (e5m Ah (by omega)) P3) ?_
    rintro _ ⟨g8,n8,rfl,j5,a6⟩;have hb8:=(a6 n7 (by omega)).trans ((Ad (by omega)).trans f);have b5:Aa (∀b,b<n7->g8 b=g7 b):=⟨λb f=>(a6 b (by omega)).trans ((Ad (by omega)).trans (HG.out b f))⟩;have b6:Aa (A7 (Ak g8 n7 none) nc [[]] (wE 240) (Aj 16 []) sv ev h):=⟨D.out.extX (Wy _) λa z ha A=>(by
        obtain⟨e1,e2⟩:=H6 A;rw[Ae e1,a6 a (by omega),Ad ha];exact e2)⟩
    clear a6 D f HG;simp (disch:=first|omega|simp) [*];refine Xs (e5h _ _ _ _ _ (b6.out.extX (by omega) λa z ha A=>(H6 A).2)) ?_;rintro _ rfl;clear b6;simp (disch:=first|omega|simp) [*];clear h7 Q U Z a0 hb8;refine Xs (e5a _ _) ?_;rintro _ ⟨sv,ev,h,g9,n9,rfl,k8,h9,hT⟩;have Q:=hT.s.one;have U:=hT.e.one;have Z:=hT.t.choose_spec.1.one;have a0:allOne [.li 2,.li 1,sv,ev,.li 2,.li 1,h]=true:=by simp[Q,U,Z]
    have i0:Aa (∀b,b<n->g9 b=g b):=⟨λb f=>by rw[h9 b (by omega),b5.out b (by omega),h6.out b (by omega),c7.out b f]⟩;have D:=Xr hT;clear h9 hT b5 h6 c7;simp (disch:=first|omega|simp) [*];refine Xs (e5j _ _ _ _ _ (D.out.extX (by omega) λa z ha A=>(by simp (disch:=omega) only[Ad];exact A)) _ ?_) ?_
    · exact⟨_,[.sl (n9+1) 0 2 2],rfl,⟨_,_,rfl,Ez (len:=2) (c:=2) (z:=0) ((Ad (by omega)).trans Ah) (by omega),rfl⟩,Ez (len:=1) (c:=1) Ah (by omega)⟩
    rintro _ ⟨a1,a2,a5,j6,k9,rfl,l0,c2,b3⟩;clear Q U Z a0 D;have Q:=b3.s.one;have U:=b3.e.one;have Z:=b3.t.choose_spec.1.one;have a0:allOne [.li 2,.li 1,a1,a2,.li 2,.li 1,a5]=true:=by simp[Q,U,Z]
    have hb10:=(c2 n9 (by omega)).trans ((Ad (by omega)).trans ((Ad (by omega)).trans Ah));have i1:Aa (∀b,b<n->j6 b=g b):=⟨λb f=>by rw[c2 b (by omega)];simp (disch:=omega) only[Ad];exact i0.out b f⟩;have i2:=Xr b3;clear c2 b3 i0;simp (disch:=first|omega|simp) [*];refine Xs (e5k _ _ _ _ _ (i2.out.extX (by omega) λa z ha A=>(by
      obtain⟨e1,e2⟩:=B8 A;simp (disch:=omega) only[Ae];exact e2))) ?_
    rintro _ ⟨a,o,j7,j8,rfl,l1,i3,i4⟩;obtain⟨a3,o3,q,a4,o4,l2,l3,l4,l5,l6,l7,h2⟩:=e5n i4;clear Q U Z a0 i2;have j9:Aa (∀b,b<n->j7 b=g b):=⟨λb f=>by rw[i3 b (by omega)];simp (disch:=omega) only[Ad,Ae];exact i1.out b f⟩;clear i3 i4 i1 hb10;simp (disch:=first|omega|simp) [*];refine Xs (e2p _) ?_;rintro _ rfl;simp (disch:=first|omega|simp) [*];exact⟨show n<=j8+1 by omega,λb (f:b<n)=>(Ad (by omega)).trans (j9.out b f)⟩
end Go.Ai
