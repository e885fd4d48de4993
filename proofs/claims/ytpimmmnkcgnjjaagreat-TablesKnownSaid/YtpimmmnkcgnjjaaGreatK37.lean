/- Parts of an interpreter and of a proof. No condition. -/
import Derived.Test.YtpimmmnkcgnjjaaGreatK31
import Derived.Test.YtpimmmnkcgnjjaaGreatK34
import Derived.Test.YtpimmmnkcgnjjaaGreatK25
import Derived.Test.YtpimmmnkcgnjjaaGreatK36
set_option linter.all false
set_option maxRecDepth 10000
namespace Go.Ai
variable {n k q:Nat}{w:Wd}
def zS(n:Nat):Wq:=(List.range n).map λk=>List.replicate k (0:Int)
theorem Wf(n:Nat):zS (n+1)=zS n++[List.replicate n 0]:=by
 unfold zS;rw[List.range_succ,e6z];rfl
theorem P1(n:Nat):(zS n).length=n:=by simp[zS]
theorem P2:w∈zS n↔∃k,k<n/\w=List.replicate k 0:=by
 unfold zS;rw[Xc];constructor
 .rintro⟨k,f,rfl⟩;exact⟨k,e6u.1 f,rfl⟩
 .rintro⟨k,f,rfl⟩;exact⟨k,e6u.2 f,rfl⟩
theorem e4d{a b:Nat}(h:List.replicate a (0:Int)=List.replicate b 0):a=b:=by
 have:=congrArg List.length h;simpa using this
theorem b7e(n:Nat):List.replicate n (0:Int) ∉ zS n:=λh=>by
 obtain⟨k,A,f⟩:=P2.1 h;have:=e4d f;omega
theorem e4e(h:k<n):(zS n).getD k []=List.replicate k 0:=by
 unfold zS;rw[Xo,e6j,List.getElem?_range h];rfl
theorem Sz(n:Nat):List.replicate n (0:Int)++[0]=List.replicate (n+1) 0:=by rw[List.replicate_succ']
theorem zS_ok:∀n,SOK 1 n (zS (n+1))
 | 0=>Yt
 | n+1=>by
  have h:=(zS_ok n).step (p:=n) (i:=0) (by rw[P1];omega) (by omega);rw[e4e (by omega),show ((0:Nat):Int)=0 from rfl,Sz] at h;unfold Pu at h;rw[if_neg (b7e (n+1)),<- Wf] at h;exact h
theorem zE_ok:EOK 1 0 1 [[0]]:=Yu (q:=1) (Wy 1)
theorem e4f{I:Nat}{o:Int}(h:1<=I)(A:I<=16)(D:1<=o)(Q:o<=16)(f:goT I o (Aj I []) 0 1=some (Aj I []).length):D5 I o (Aj I [])=0:=by
 have U:(Aj I []).length=1:=by rw[Mx];rfl
 unfold D5;rw[if_neg (by omega),if_neg (by omega),if_pos f]
theorem b7f{d d2 m:Nat}{O:Int}{S E:Wq}{T:Tq}(Q:1<=q)(U:q<=16)(Z:1<=O)(a0:O<=16)(f:SOK q d S)(h:EOK q d2 m E)(hd:d<=63)(a1:q+d2<=256)(hm:m<=192)(D:D5 q O T=0):N4 q O S E q O T=0:=by
 have h1:=f.len;have h2:=h.len;have h3:longM S<=d:=Vz λw A=>(f.wl w A).1;have h4:longM E<=m:=Vz λw A=>(h.wl w A).2.1;unfold N4 F8;rw[if_neg (by omega),e1n (by omega) (by omega) (by omega),e1o (by omega) (by omega) (by omega),f.acc,h.suf,if_neg (by simp;omega),if_neg (by rw[if_neg (by omega)];simp),D,if_neg (by simp),if_neg (by simp)]
theorem okW{d d2 m:Nat}{O:Int}{S E:Wq}(D:1<=q)(Q:q<=16)(U:1<=O)(Z:O<=16)(A:SOK q d S)(f:EOK q d2 m E)(hd:d<=63)(a1:q+d2<=256)(hm:m<=192)(hg:goT q O (Aj q []) 0 1=some (Aj q []).length):Oc q O S E (Aj q []):=by
 have hl:(Aj q []).length=1:=by rw[Mx];rfl
 have h1:=A.len;have h2:=f.len;have h3:=f.low;refine⟨D,Q,U,Z,by omega,A.pos,λw h=>⟨by have:=(A.wl w h).1;omega,(A.wl w h).2⟩,by omega,by omega,λe h=>⟨(f.wl e h).1,by have:=(f.wl e h).2.1;omega,(f.wl e h).2.2⟩,by omega,by omega,hg,λr hr=>?_,b7f D Q U Z A f hd a1 hm (e4f D Q U Z hg)⟩
 .have a0:=okT_of hg r hr;exact⟨by have:=a0.1;omega,a0.2⟩
theorem zS_long:∀n,longM (zS (n+1))=n
 | 0=>rfl
 | n+1=>by rw[Wf,longM_snoc,zS_long n];simp
theorem Wg(h:0<n):Ms 1 (zS n) [[0]] (List.replicate n 0)=if 64<=n then 3 else 0:=by
 obtain⟨k,rfl⟩:∃k,n=k+1:=⟨n-1,by omega⟩;unfold Ms;rw[if_pos ⟨by simp,by simp,P2.2 ⟨k,by omega,by simp⟩⟩,if_neg (b7e _)];unfold F8;rw[<- Wf,P1,zS_long];have:longM [[(0:Int)]]=1:=rfl;rw[this];by_cases f:64<=k+1
 .rw[if_pos f,if_pos (.inl (by omega))]
 .rw[if_neg f,if_neg (by simp;omega)]
theorem e4g(h:0<q):inW (List.replicate n 0) q=true:=by
 unfold inW;rw[W7];intro i hi;have:=(e9g.1 hi).2;subst this;exact decide_eq_true (by omega)
theorem Wh(h:k=192\/k=193):J3 1 (zS 64) [[0]] (List.replicate k 0)=if k=192 then 0 else 3:=by
 have f:List.replicate k (0:Int) ∉ [[0]]:=λf=>by
  have:=congrArg List.length (Xf.1 f);simp at this;omega
 have A:Bo (List.replicate k 0) ((1:Nat):Int)=0:=by
  unfold Bo;rw[if_neg (show ¬(((1:Nat):Int) > 16\/(List.replicate k (0:Int)).length > 256) by simp;omega),e4g (by decide),if_neg (by decide)]
 unfold J3;rw[A,if_neg (by decide),if_neg (by simp;omega),if_neg f];unfold F8;rw[longM_snoc,zS_long 63,P1];have:longM [[(0:Int)]]=1:=rfl;rw[this];rcases h with rfl|rfl<;>simp
def wE(k:Nat):Wq:=qE0 16++(List.range k).map λi:Nat=>[((i % 16:Nat):Int),((i / 16:Nat):Int)]
theorem a5y(k:Nat):(wE k).length=16+k:=by simp[wE,qE0]
theorem b7g(k:Nat):wE (k+1)=wE k++[[((k % 16:Nat):Int),((k / 16:Nat):Int)]]:=by
 unfold wE;rw[List.range_succ,e6z,<- e5z];rfl
theorem b7h(k:Nat):[((k % 16:Nat):Int),((k / 16:Nat):Int)] ∉ wE k:=λh=>by
 unfold wE at h;rcases W9.1 h with h|h
 .unfold qE0 at h;obtain⟨i,_,h⟩:=Xc.1 h;have:=congrArg List.length h;simp at this
 .obtain⟨i,hi,h⟩:=Xc.1 h;have f:=e6u.1 hi;simp only[List.cons.injEq,and_true] at h;omega
theorem wE_ok:∀ {k:Nat},k≤240→EOK 16 k 2 (wE k)
 | 0,_=>EOK.base (by omega)
 | k+1,hk=>by
  have h:=(wE_ok (k:=k) (by omega)).step (w:=[((k % 16:Nat) : Int),((k / 16:Nat) : Int)]) (by simp) (by simp [inW]; omega);unfold Pu at h;rw [if_neg (by simp),if_neg (b7h k),← b7g] at h;exact h
theorem e4h(k:Nat)(h:k<=240):longM (wE k)<=2:=Vz λw f=>((wE_ok h).wl w f).2.1
theorem b7i(h:k<240):J3 16 [[]] (wE k) [((k % 16:Nat):Int),((k / 16:Nat):Int)]=0:=by
 have f:inW [((k % 16:Nat):Int),((k / 16:Nat):Int)] ((16:Nat):Int)=true:=by simp[inW];omega
 unfold J3 Bo;rw[f,if_neg (show ¬(((16:Nat):Int) > 16\/([((k % 16:Nat):Int),((k / 16:Nat):Int)]:Wd).length > 256) by simp),if_neg (show ¬(((16:Nat):Int)<1\/true=false) by decide),if_neg (by decide),if_neg (by simp),if_neg (b7h k)];unfold F8;have D:=e4h k (by omega);have A:longM [([]:Wd)]=0:=rfl;rw[longM_snoc,W1,a5y,A,if_neg (by simp;omega)]
theorem widen_w3:J3 16 [[]] (wE 240) [0,0,0]=3:=by
 unfold J3 Bo;rw[if_neg (show ¬(((16:Nat):Int) > 16\/([0,0,0]:Wd).length > 256) by decide),if_neg (show ¬(((16:Nat):Int)<1\/inW [0,0,0] ((16:Nat):Int)=false) by decide),if_neg (by decide),if_neg (by decide),if_neg (λh=>by
  have:=((wE_ok (Wy 240)).wl _ h).2.1;simp at this)]
 unfold F8;rw[if_pos (.inr (.inl (by rw[W1,a5y];decide)))]
theorem b7j:w∈Aq 1 (zS n)↔∃j,(j<n\/0<j/\j<n+1)/\w=List.replicate j 0:=by
 unfold Aq Hv;rw[W9,e6v];constructor
 .rintro (h|⟨s,A,h⟩)
  .obtain⟨k,f,rfl⟩:=P2.1 h;exact⟨k,.inl f,rfl⟩
  .obtain⟨k,f,rfl⟩:=P2.1 A;obtain⟨i,hi,rfl⟩:=Xc.1 h;have:i=0:=by have:=e6u.1 hi;omega
   subst this;exact⟨k+1,.inr ⟨by omega,by omega⟩,Sz k⟩
 .rintro⟨j,h|⟨D,Q⟩,rfl⟩
  .exact .inl (P2.2 ⟨j,h,rfl⟩)
  .obtain⟨i,rfl⟩:∃i,j=i+1:=⟨j-1,by omega⟩;exact .inr ⟨_,P2.2 ⟨i,by omega,rfl⟩,Xc.2 ⟨0,by simp,Sz i⟩⟩
theorem Wi:w∈A2 (Aj 1 []) [[0]] (Aq 1 (zS 64))↔∃j,j<65/\w=List.replicate (j+1) 0:=by
 rw[Sy];constructor
 .rintro⟨u,f,e,h,rfl,_⟩;obtain⟨j,A,rfl⟩:=b7j.1 f;rw[Xf.1 h,Sz];exact⟨j,by omega,rfl⟩
 .rintro⟨j,A,rfl⟩;exact⟨_,b7j.2 ⟨j,by omega,rfl⟩,[0],by simp,(Sz j).symm,e3t (by simp)⟩
theorem b7k{p:Wd->Bool}:∀{l:Wq},Bt l->Bt (l.filter p)
 | [],h=>h
 | x::l,h=>by
  obtain⟨A,D⟩:=Pp.1 h;have f:=b7k (p:=p) D;rw[List.filter_cons];split
  .exact Pp.2 ⟨λw Q=>A w (e6t.1 Q).1,f⟩
  .exact f
theorem e4i{c:Wd}{l:Wq}(f:Bt l)(h:∀w,w∈l↔w=c):l=[c]:=by
 match l,f,h with
 | [],_,h=>exact absurd ((h c).2 rfl) (by simp)
 | [x],_,h=>rw[(h x).1 (by simp)]
 | x::y::l,f,h =>
  have A:=(h x).1 (by simp);have D:=(h y).1 (by simp);subst A D;exact absurd ((Pp.1 f).1 _ (by simp)) X7
theorem asks_z:Em (Cv (A2 (Aj 1 []) [[0]] (Aq 1 (zS 64))))=[List.replicate 65 0]:=by
 have f:∀w,w∈Em (Cv (A2 (Aj 1 []) [[0]] (Aq 1 (zS 64))))↔w=List.replicate 65 0:=λw=>by
  unfold Em;rw[e6t,K2,Wi,e8h,<- Bool.not_eq_true];unfold Fo;rw[e9i];constructor
  .rintro⟨⟨j,A,rfl⟩,D⟩;by_cases h:j=64
   .subst h;rfl
   .exact absurd ⟨List.replicate 65 0,K2.2 (Wi.2 ⟨64,by omega,rfl⟩),by
     simp only[e8x,List.take_replicate,decide_eq_true_eq];exact⟨by omega,by rw[e6i (by omega)]⟩⟩ D
  .rintro rfl;refine⟨⟨64,by omega,rfl⟩,?_⟩;rintro⟨v,Q,h⟩;obtain⟨j,A,rfl⟩:=Wi.1 (K2.1 Q);simp at h;omega
 exact e4i (b7k (b6t _)) f
end Go.Ai
