/- A small verified interpreter over names, its proofs, and what was proved with it. No condition. -/
import Derived.Test.YtpimmmnkcgnjjaaGreatL23
import Derived.Test.YtpimmmnkcgnjjaaGreatL27
set_option linter.all false
set_option linter.deprecated false
section
namespace Go.Ai
open Go.Proofs Go.Proofs.Tryz
set_option maxRecDepth 10000
set_option maxHeartbeats 40000000
variable {g:Gb} {n:Nat}
theorem Cj.appT {I O:Int} {a b:Lq} (h:Cj I O a) (h2:Cj I O b) (hl:a.length+b.length<=200) : Cj I O (a++b):=by
 refine⟨by rw[Dr];exact hl,h.i1,h.i2,h.o1,h.o2,fun t ht=>?_,fun t ht=>?_⟩
 ·rcases Eg.1 ht with h3|h3
  ·exact h.wl t h3
  ·exact h2.wl t h3
 ·rcases Eg.1 ht with h3|h3
  ·exact h.ok t h3
  ·exact h2.ok t h3
def a3e (I:Nat) (L:Lq) : Lq:=(rbk (Ax (Al I L)) [] (endsM (Al I L) 0)).map fun w=>(w,Bb (Al I L) 0 w)
def a8u (I:Nat) (O I2 O2:Int) (U:Lq) : Int:=if I2=I/\O2=O then (if Dk U U 0=none then 0 else 18) else 5
theorem Ag.apl0 {P:Program} {g:Gb} {b:Nat} {sv:AV} {cs:List AV} (h:Ag g b sv 0 cs) :
  ∀ {H:Mem} {ev:Ev} {d:Option Tmp} {ty:TypeId} {p:String} {af:Array Edge} {gd:Option (Nat×Bool)} {x y:Operand} {s t:TypeId} {a off k c:Nat} {hx:ev x=some (.sl a off k c)} {hy:ev y=some sv},(apI P s t).isSome=true ->
   ex2 P H ev ⟨d,.call ⟨.builtin .append,#[x,y],#[s,t]⟩,ty,p,af,gd⟩ x y (some (.sl a off k c)) (some sv) hx hy=.val (.sl a off k c) H:=by
 intro H ev d ty p af gd x y s t a off k c hx hy hp;have hn:lenOf sv=some 0:=by
  rcases h with⟨_,_,rfl|rfl⟩|⟨a,off,_,⟨c,rfl⟩|⟨c,rfl⟩,_⟩<;>rfl
 cases hq:apI P s t with
 | none=>rw[hq] at hp;cases hp
 | some q =>
  obtain⟨q1,q2⟩:=q;show opV P H ev _=_;rw[a3m hx hy hq];unfold a2c;rw[hn];rfl
theorem RowsT.app {a b:Lq} {ca cb:List AV} (h:RowsT g n a ca) (h2:RowsT g n b cb) : RowsT g n (a++b) (ca++cb):=by
 have hl:=h.1;refine⟨by simp[h.1,h2.1];omega,fun k hk=>?_⟩;by_cases hka:k<a.length
 ·obtain⟨s1,s2,e1,e2,e3,e4⟩:=h.2 k hka;refine⟨s1,s2,?_,?_,?_,?_⟩
  ·rw[Ew (by omega)];exact e1
  ·rw[Ew (by omega)];exact e2
  ·rw[Ey hka];exact e3
  ·rw[Ey hka];exact e4
 ·rw[Dr] at hk;obtain⟨s1,s2,e1,e2,e3,e4⟩:=h2.2 (k-a.length) (by omega);refine⟨s1,s2,?_,?_,?_,?_⟩
  ·rw[Eu (by omega),<- e1];congr 1;omega
  ·rw[Eu (by omega),<- e2];congr 1;omega
  ·rw[g3l (by omega)];exact e3
  ·rw[g3l (by omega)];exact e4
theorem g1y (g:Gb) (n b k c:Nat) (hk:0<k) (hk2:k<=100000) (hc:k<=c) : WC 0 prog 68 [.sl b 0 k c] ⟨.fn g,n⟩ fun r=>r=.ret (.sl b 0 k k) ⟨.fn g,n⟩:=by
 refine ent [] func68 rfl (by decide +kernel) (by kernel_rfl) ?_
 iterate 8 all_goals try first|apply spl<;>intro h|simp (disch:=first|assumption|omega|simp) [*]
theorem De.from' {g': Gb} {lo n': Nat} {rows:Tq} {tv:AV} (h:De (Co lo g) n rows tv) (hn:n<=n') (hg:∀ a,lo<=a->a<n->g' a=g a) : De g' n' rows tv:=by
 have hx:∀ a x,a<n->Co lo g a=some x->g' a=some x:=fun a x ha hx=>by
  obtain⟨h1,h2⟩:=a8n hx;exact(hg a h1 ha).trans h2
 obtain⟨svs,h1,h2,h3⟩:=h;exact⟨svs,Ag.ext hn hx h1,h2,fun k hk=>let ⟨q,e1,e2⟩:=h3 k hk;⟨q,e1,Ag.ext hn hx e2⟩⟩
theorem a2a.from' {g': Gb} {lo n': Nat} {S E:Wq} {T:Tq} {sv ev tv:AV} (h:a2a (Co lo g) n S E T sv ev tv) (hn:n<=n') (hg:∀ a,lo<=a->a<n->g' a=g a) : a2a g' n' S E T sv ev tv:=by
 have hx:∀ a x,a<n->Co lo g a=some x->g' a=some x:=fun a x ha hx=>by
  obtain⟨h1,h2⟩:=a8n hx;exact(hg a h1 ha).trans h2
 exact⟨h.s.ext hn hx,h.e.ext hn hx,h.t.from' hn hg⟩
theorem RowsC.from' {lo I:Nat} {rows:Tq} {bs:List Nat} (h:RowsC g lo n I rows bs) : RowsC (Co lo g) lo n I rows bs :=
 ⟨h.len,fun k h1 h2=>let ⟨a,b,c,d⟩:=h.at' k h1 h2;⟨a,b,(a0r a).trans c,d⟩⟩
theorem g1z {I:Nat} {O:Int} {S E:Wq} {L ts:Lq} (hp:b7c I O S E (Al I L)) (hL:Cj I O L) (hC:a2j L) (hLl:L.length<=156) {I2 O2:Int} (hT2:Cj I2 O2 ts) (htl:ts.length<=40) (g:Gb) (n:Nat) (sv ev tv lv:AV) (hT:a2a g n S E (Al I L) sv ev tv) (hl:a3b g n ts lv) (hlc:Bf lv) :
  WC 0 prog 22 [.agg [.li I,.li O,sv,ev,.li I,.li O,tv],.agg [.li I2,.li O2,lv]] ⟨.fn g,n⟩ fun r=>∃ rv g' n',r=.ret (.tup [rv,.li (a8u I O I2 O2 (a3e I L++ts))]) ⟨.fn g',n'⟩/\n<=n'/\(∀ b,b<n->g' b=g b)/\c7f I O (a8u I O I2 O2 (a3e I L++ts)) S E (Al I (a3e I L++ts)) (Co n g') n' rv:=by
 have h1s:=hT.s.one;have h1e:=hT.e.one;have h1t:=hT.t.choose_spec.1.one;have h1l:oneC lv=true:=hl.choose_spec.1.one;have hone:allOne [.li I,.li O,sv,ev,.li I,.li O,tv]=true:=by simp[h1s,h1e,h1t]
 have hone2:allOne [.li I2,.li O2,lv]=true:=by simp[h1l]
 have hgo:=hp.go;have hBF:=BF.of hL hC hgo;have hI1:=hp.i1;have hI2:=hp.i2;have ho1:=hp.o1;have ho2:=hp.o2;have HUS:=Aa.mk fun (us:Lq) (hpm:us.Perm (bkM (Al I L) (Ax (Al I L)))) (hs:∀ (i j:Nat) (_:i<j) (hj:j<us.length),¬ Bl us[j].1 (us[i]'(by omega)).1<0)=>BF.us hL hBF hpm hs;have hcnt:(endsM (Al I L) 0).length<=156:=by
  have h1:=TL.count hL.o1 hBF.tl (X:=(bkM (Al I L) (Ax (Al I L))).map fun u=>u.1) (fun x hx=>by
   obtain⟨u,hu,rfl⟩:=Ei.1 hx;exact((bkM_of u).1 hu).1) hBF.lab.nodup
  simp only[Ee,bkM] at h1;omega
 have hne:0<(endsM (Al I L) 0).length:=c7i (I:=I) (O:=O) hBF.lab hBF.ne (fun r hr e he=>(hp.ok r hr).2 e he);have HCK:=Aa.mk fun (gX:Gb) (n2:Nat) (hn:n<=n2) (hX:∀ b,b<n->gX b=g b)=>hp.check (hT.mono hn hX);have HCL:=Aa.mk fun (gX:Gb) (n2:Nat) (hn:n<=n2) (hX:∀ b,b<n->gX b=g b)=>d5a I2 O2 ts hT2.small gX n2 lv (hl.mono hn hX).log;rw[hT2.err] at HCL;have HBK:=Aa.mk fun (gX:Gb) (n2:Nat) (hn:n<=n2) (hX:∀ b,b<n->gX b=g b)=>g1x (I:=I) (O:=O) hI1 (by omega) ho1 ho2 hBF.ne (by have:=hp.tl;omega) hgo hBF.lab (by omega) hBF.wl hBF.el hBF.sum gX n2 tv (hT.t.mono hn hX);have HCO:=Aa.mk fun (gX:Gb) (n2:Nat) (hn:n<=n2) (hX:∀ b,b<n->gX b=g b)=>g0u (I:=I) hI1 (by omega) hp.s0 (by have:=hp.sl;omega) (fun y hy=>by have:=(hp.sw y hy).1;omega) (E:=E) (T:=Al I L) hp.e0 (by have:=hp.el;omega) (fun y hy=>by have:=(hp.ew y hy).2.1;omega) hp.t0 (by have:=hp.tl;omega) (fun r hr=>(hp.ok r hr).1) (.li I) (.li O) (.li I) (.li O) (by simp) gX n2 sv ev tv (hT.mono hn hX);have HLX:=Aa.mk hl;have HT2:=Aa.mk hT2;have HBU:Aa (∀ us:Lq,(rbk (Ax (Al I L)) [] (endsM (Al I L) 0)).map (fun w=>(w,Bb (Al I L) 0 w))=us->a3e I L=us):=⟨fun us h=>h⟩;clear hBF hgo hL hC hT hl hT2 hp;by_cases hIO:I2=I/\O2=O
 ·obtain⟨rfl,rfl⟩:=hIO;refine ent pl22 func22 rfl (by decide +kernel) (by kernel_rfl) ?_
  iterate 8 all_goals try first|apply spl<;>intro h|simp (disch:=first|assumption|omega|simp) [*]
  refine WC.mono (HCK.out _ _ (by omega) fun b hb=>by simp (disch:=omega) only[Ab]) ?_;rintro _ rfl
  iterate 8 all_goals try first|apply spl<;>intro h|simp (disch:=first|assumption|omega|simp) [*]
  refine WC.mono (HCL.out _ _ (by omega) fun b hb=>by simp (disch:=omega) only[Ab]) ?_;rintro _ rfl
  iterate 8 all_goals try first|apply spl<;>intro h|simp (disch:=first|assumption|omega|simp) [*]
  refine WC.mono (HBK.out _ _ (by omega) fun b hb=>by simp (disch:=omega) only[Ab]) ?_;rintro _ ⟨us,cs,B,g3,n3,rfl,hperm,hsort,hn3,hg3,hB3,hBn,hgB3,hrf,hcap⟩;obtain⟨hLU,hcU,hrU,hrb,hln,hinc⟩:=HUS.out us hperm hsort;rw[HBU.out us hrb];rw[<- hln] at hcnt hne |-;clear hperm hsort hrb hcU hrU hln hinc HUS;have hcsl:=hrf.rows.1;have HRU:=Aa.mk hrf.rows;have HCU:=Aa.mk hcap;have HG3:Aa (∀ b,b<n->g3 b=g b):=⟨fun b hb=>(hg3 b (by omega)).trans (by simp (disch:=omega) only[Ab])⟩;have ht3:=hg3 n (by omega);have hl3:=hg3 (n+1) (by omega);have hr3:=hg3 (n+1+1) (by omega);simp (disch:=omega) only[Ab,Af,Ae] at ht3 hl3 hr3;have HLU:=Aa.mk (hLU.appT HT2.out (by omega));obtain⟨cl,hsl,hrt,hcl⟩:=HLX.out;have hcll:=hrt.1;have HRT:=Aa.mk hrt;have HCL2:=Aa.mk hcl;have HCLP:=Aa.mk (g1y (b:=B) (k:=us.length) (c:=us.length) · · hne (by omega) (Dp _));clear hg3 hrf hcap hLU hrt hcl;by_cases ht0:ts.length=0
  focus
   have hts:ts=[]:=g5f ht0;subst hts;have hap:=@Ag.apl0 prog _ _ _ _ hsl;clear hsl;rw[Ej] at HLU |-
   iterate 8 all_goals try first|apply spl<;>intro h|simp (disch:=first|assumption|omega|simp) [*]
   refine WC.mono (HCLP.out _ _) ?_;rintro _ rfl
   iterate 8 all_goals try first|apply spl<;>intro h|simp (disch:=first|assumption|omega|simp) [*]
   obtain⟨gX,hgX⟩ : ∃ gX:Gb,gX=Aj g3 n3 (some (.cells [.li I,.li O2,.sl B 0 us.length us.length] true 0)):=⟨_,rfl⟩;have HGX:Aa (∀ b,b<n3->gX b=g3 b):=⟨fun b hb=>by rw[hgX];simp (disch:=omega) only[Ab]⟩;have HLR:Aa (a0w gX (n3+1) (us) (.sl B 0 us.length us.length)):=⟨by
    refine⟨cs,a2v (own:=true) (z:=0) (by rw[hgX,Ab hBn];exact hgB3) (by omega),RowsT.ext HRU.out (by omega) fun a x ha hx=>by rw[hgX,Ab ha];exact hx⟩⟩
   have HCAP:Aa (Bf (.sl B 0 us.length us.length)):=⟨fun a o k c e=>by cases e<;>exact Dp _⟩;have h1u:oneC (.sl B 0 us.length us.length)=true:=rfl;have hnX:n3<n3+1:=by omega
   have hbX:gX n3=some (.cells [.li I,.li O2,.sl B 0 us.length us.length] true 0):=by rw[hgX];simp (disch:=omega) only[Af,Ab]
   rw[<- hgX];clear hgX;generalize (AV.sl B 0 us.length us.length)=lu at *;generalize n3+1=nX at *;generalize us=U at *
  rotate_left
  focus
   obtain⟨aL,blkL,haL,hgaL,hap⟩:=Ag.apo (P:=prog) (sz:=2) hsl (by omega) (by omega) hcll;clear hsl;have hgaL3:=(HG3.out aL haL).trans hgaL
   iterate 8 all_goals try first|apply spl<;>intro h|simp (disch:=first|assumption|omega|simp) [*]
   refine WC.mono (HCLP.out _ _) ?_;rintro _ rfl
   iterate 8 all_goals try first|apply spl<;>intro h|simp (disch:=first|assumption|omega|simp) [*]
   obtain⟨gX,hgX⟩ : ∃ gX:Gb,gX=Aj (Aj (Aj g3 n3 (some (.cells [.li I,.li O2,.sl B 0 us.length us.length] true 0))) (n3+1) (some (.cells (List.take (us.length*2) cs++cl) true 2))) n3 (some (.cells [.li I,.li O2,.slq (n3+1) 0 (us.length+ts.length) 0] true 0)):=⟨_,rfl⟩;have HGX:Aa (∀ b,b<n3->gX b=g3 b):=⟨fun b hb=>by rw[hgX];simp (disch:=omega) only[Ab]⟩;have HLR:Aa (a0w gX (n3+1+1) (us++ts) (.slq (n3+1) 0 (us.length+ts.length) 0)):=⟨by
    refine⟨cs++cl,?_,RowsT.app (RowsT.ext HRU.out (by omega) fun a x ha hx=>by rw[hgX];simp (disch:=omega) only[Ab];exact hx) (RowsT.ext HRT.out (by omega) fun a x ha hx=>by rw[hgX];simp (disch:=omega) only[Ab];rw[HG3.out a ha];exact hx)⟩;rw[Dr];refine .inr ⟨n3+1,0,by omega,.inr ⟨0,rfl⟩,cs++cl,true,2,?_,by simp,by rw[g3p,Ep]⟩;rw[hgX,Ae (by omega),Af,Eo (by omega)]⟩
   have HCAP:Aa (Bf (.slq (n3+1) 0 (us.length+ts.length) 0)):=⟨fun a o k c e=>by cases e<;>exact Dp _⟩;have h1u:oneC (.slq (n3+1) 0 (us.length+ts.length) 0)=true:=rfl;have hnX:n3<n3+1+1:=by omega
   have hbX:gX n3=some (.cells [.li I,.li O2,.slq (n3+1) 0 (us.length+ts.length) 0] true 0):=by rw[hgX];simp (disch:=omega) only[Af,Ab]
   rw[<- hgX];clear hgX;generalize (AV.slq (n3+1) 0 (us.length+ts.length) 0)=lu at *;generalize n3+1+1=nX at *;generalize us++ts=U at *
  all_goals
   obtain⟨er,her⟩ : ∃ er,er=a8u I O2 I O2 U:=⟨_,rfl⟩;rw[<- her]
   cases hD:Dk U U 0 with
   | some D =>
    have he:er=18:=by rw[her];unfold a8u;rw[if_pos ⟨rfl,rfl⟩,if_neg (by rw[hD];simp)]
    subst he;clear her;refine WC.mono (f8l HLU.out hD gX nX lu HLR.out HCAP.out) ?_;rintro _ ⟨g5,n5,rfl,hn5,hg5⟩;have HG5:Aa (∀ b,b<n->g5 b=g b):=⟨fun b hb=>(hg5 b (by omega)).trans ((HGX.out b (by omega)).trans (HG3.out b hb))⟩;have hr5:=(hg5 (n+1+1) (by omega)).trans ((HGX.out _ (by omega)).trans hr3);clear hD hg5
    iterate 8 all_goals try first|apply spl<;>intro h|simp (disch:=first|assumption|omega|simp) [*]
    exact⟨_,_,_,⟨rfl,rfl,rfl⟩,by omega,fun b hb=>by simp (disch:=omega) only[Ab];exact HG5.out b hb,.inl ⟨by decide,rfl⟩⟩
   | none =>
    have he:er=0:=by rw[her];unfold a8u;rw[if_pos ⟨rfl,rfl⟩,if_pos hD]
    subst he;clear her;refine WC.mono (f8j HLU.out hD gX nX lu HLR.out HCAP.out) ?_;rintro _ ⟨g5,n5,bs,B5,rfl,hn5,hg5,hB5,hB5n,hrc5,hgB5,hgo5⟩;have HG5:Aa (∀ b,b<n->g5 b=g b):=⟨fun b hb=>(hg5 b (by omega)).trans ((HGX.out b (by omega)).trans (HG3.out b hb))⟩;have HTV5:=Aa.mk (RowsC.tree hrc5.from' hB5n ((a0r hB5).trans hgB5));have hr5:=(hg5 (n+1+1) (by omega)).trans ((HGX.out _ (by omega)).trans hr3);have ht5:=(hg5 n (by omega)).trans ((HGX.out _ (by omega)).trans ht3);clear hD hg5 hrc5 hgB5 hgo5;generalize Al I U=TU at *
    iterate 8 all_goals try first|apply spl<;>intro h|simp (disch:=first|assumption|omega|simp) [*]
    refine WC.mono (HCO.out _ _ (by omega) fun b hb=>by simp (disch:=omega) only[Ab];exact HG5.out b hb) ?_;rintro _ ⟨b1,b2,b3,g6,n6,rfl,hn6,hg6,htv6⟩;have HG6:=Aa.mk hg6;have hr6:=(hg6 (n+1+1) (by omega)).trans (by simp (disch:=omega) only[Ab];exact hr5);have hq6:=hg6 n5 (by omega);simp (disch:=omega) only[Af,Ab] at hq6;have HT6:=Aa.mk htv6;clear hg6 htv6
    iterate 8 all_goals try first|apply spl<;>intro h|simp (disch:=first|assumption|omega|simp) [*]
    have HT7:=HT6.out.from' (g':=Co n (Aj (Aj g6 n6 (some (.cells [.li I,.li O2,.sl b1 0 S.length S.length,.sl b2 0 E.length E.length,.li I,.li O2,.sl B5 0 TU.length TU.length] true 0))) (n+1+1) (some (.cells [.li I,.li O2,.sl b1 0 S.length S.length,.sl b2 0 E.length E.length,.li I,.li O2,.sl B5 0 TU.length TU.length] true 0)))) (n':=n6+1) (by omega) (fun a h1 h2=>by rw[a0r (by omega),Ae (by omega),Ab (by omega)]);refine⟨_,_,_,⟨rfl,rfl,rfl⟩,by omega,fun b hb=>?_,.inr ⟨rfl,_,_,_,rfl,⟨HT7.s,HT7.e,HTV5.out.from' (by omega) fun a h1 h2=>?_⟩,.inr ⟨b1,0,rfl⟩,.inr ⟨b2,0,rfl⟩⟩⟩
    ·rw[Ab (by omega),Ab (by omega),HG6.out b (by omega),Ab (by omega)];exact HG5.out b hb
    ·rw[a0r (by omega),Ae (by omega),Ab (by omega),HG6.out a (by omega),Ab (by omega)]
 ·have he:a8u I O I2 O2 (a3e I L++ts)=5:=if_neg hIO;rw[he];have hor:¬I2=I\/(I2=I/\¬O2=O):=by
   by_cases h:I2=I
   ·exact .inr ⟨h,fun h2=>hIO ⟨h,h2⟩⟩
   ·exact .inl h
  clear he hIO HUS HBK HCO HBU;rcases hor with hd|⟨rfl,hd⟩
  all_goals
   refine ent pl22 func22 rfl (by decide +kernel) (by kernel_rfl) ?_
   iterate 8 all_goals try first|apply spl<;>intro h|simp (disch:=first|assumption|omega|simp) [*]
   refine WC.mono (HCK.out _ _ (by omega) fun b hb=>by simp (disch:=omega) only[Ab]) ?_;rintro _ rfl
   iterate 8 all_goals try first|apply spl<;>intro h|simp (disch:=first|assumption|omega|simp) [*]
   refine WC.mono (HCL.out _ _ (by omega) fun b hb=>by simp (disch:=omega) only[Ab]) ?_;rintro _ rfl
   iterate 8 all_goals try first|apply spl<;>intro h|simp (disch:=first|assumption|omega|simp) [*]
   exact⟨_,_,_,⟨rfl,rfl,rfl⟩,by omega,fun b hb=>by simp (disch:=omega) only[Ab],.inl ⟨by decide,rfl⟩⟩
end Go.Ai
end

