/- Parts of an interpreter and of a proof. No condition. -/
import Derived.Test.YtpimmmnkcgnjjaaGreatK26
import Derived.Test.YtpimmmnkcgnjjaaGreatK12
import Derived.Test.YtpimmmnkcgnjjaaGreatK13
import Derived.Test.YtpimmmnkcgnjjaaGreatK10
import Derived.Test.YtpimmmnkcgnjjaaGreatK25
set_option linter.all false
set_option maxHeartbeats 40000000
set_option maxRecDepth 10000
open Go.Proofs
namespace Go.Ai
variable {g g' gk:Gb}{n n' B:Nat}{W l:Wq}{T:Tq}{ts:Lq}{cs:List AV}
theorem Py.keep{sv:AV}(h:Py g n T sv)(f:n<=n')(A:∀b,b<n->g' b=g b):Py g' n' T sv:=h.mono f A
theorem nodW_len:∀(w r:Wd)(L:Wq)(p:Wd),(nodW L p w r).length<=L.length+w.length
 | [],r,L,p=>by cases r<;>exact Wy _
 | _::_,[],L,p=>e8s _ _
 | i::w,o::r,L,p=>by
  have f:=nodW_len w r (Ek (p++[i]) L) (p++[i]);have h:=@b4u (p++[i]) L;unfold nodW;rw[Xi];split<;>omega
theorem e3k(h:∀t∈ts,t.1.length<=256):(Dm ts).length<=1+256*ts.length:=by
 have key:∀(us:Lq)(f:Wq),(∀t∈us,t.1.length<=256)->(us.foldl (λf t=>nodW f [] t.1 t.2) f).length<=f.length+256*us.length:=by
  intro us
  induction us with
  | nil=>intro f _;exact Wy _
  | cons t us D =>
   intro f A;have U:=D (nodW f [] t.1 t.2) λt Q=>A t (by simp[Q]);have Z:=nodW_len t.1 t.2 f [];have h3:=A t (by simp);rw[List.foldl_cons,Xi];omega
 exact key ts [[]] h
section
structure TL (I:Nat) (O:Int) (V:Wd->Option Int) (ws:Wq) (T:Tq) (W:Wq):Prop where
 nod:Nod V ws
 srt:Bt ws
 rows:T=Bg V ws I
 lab:Lab T W
 vin:∀x i o,V (x++[i])=some o->(0<=i/\i<(I:Int))/\(o ≠ -1->0<=o/\o<O)
variable {I:Nat}{O:Int}{V:Wd→Option Int}{ws:Wq}{T:Tq}{W:Wq}
theorem TL.len(h:TL I O V ws T W):T.length=ws.length:=by rw[h.rows,G7]
theorem TL.nil(h:TL I O V ws T W):[]∈ws:=(h.nod.mem []).2 (.inl rfl)
theorem TL.row(h:TL I O V ws T W){k:Nat}(f:k<ws.length)(A:k<T.length):T[k]=Bb V ws I ws[k]:=by
 have e:T.getD k []=Bb V ws I ws[k]:=by rw[h.rows];exact Vj f
 grind
theorem TL.ent(h:TL I O V ws T W){k i:Nat}(f:k<ws.length)(A:k<T.length)(hi:i<(T[k]).length):i<I/\T[k][i]=A0 V ws ws[k] i:=by
 have e:=h.row f A;have D:i<I:=by grind[Si]
 refine⟨D,?_⟩;have e2:(T[k])[i]?=some (A0 V ws ws[k] i):=by grind[Pn]
 grind
theorem TL.rlen(h:TL I O V ws T W){k:Nat}(f:k<T.length):(T[k]).length=I:=by
 have A:k<ws.length:=by rw[<- h.len];grind
 rw[h.row A f,Si]
theorem TL.edo(h:TL I O V ws T W){p j t:Nat}{o:Int}(U:EdO T p j t o):∃(f:p<ws.length)(ht:t<ws.length),V ws[t]=some o/\o ≠ -1/\ws[t]=ws[p]++[(j:Int)]:=by
 obtain⟨Z,hj,e⟩:=U;have f:p<ws.length:=by rw[<- h.len];grind
 obtain⟨a0,e2⟩:=h.ent f Z hj;rw[e2] at e;unfold A0 at e
 cases A:V (ws[p]++[(j:Int)]) with
 | none=>grind
 | some D =>
  rw[A] at e;dsimp only at e;by_cases Q:D = -1
  .grind
  .rw[if_neg Q] at e;injection e with e1 e2;obtain⟨hl,a1⟩:=Mk ((h.nod.mem _).2 (.inr ⟨D,A,Q⟩));grind
theorem TL.weq(h:TL I O V ws T W):∀(n t:Nat),t<=n->∀f:t<ws.length,W.getD t []=ws[t]
 | n,0,_,f=>by
  obtain⟨hl,a0⟩:=Mk h.nil;rw[h.lab.nil];have e:=b5b h.srt h.nil;grind
 | 0,t+1,D,_=>by omega
 | n+1,t+1,D,f=>by
  obtain⟨p,j,A⟩:=h.lab.src (t+1) (by omega) (by rw[h.len];grind);obtain⟨_,_,h3,Q⟩:=h.lab.ed p j _ A;obtain⟨o,U⟩:=A.out;obtain⟨Z,a1,_,_,e⟩:=h.edo U;rw[Q,h.weq n p (by omega) Z,e]
theorem TL.resp(h:TL I O V ws T W):∀(n t:Nat),t<=n->∀f:t<ws.length,(Bh T 0 ws[t]).length=(ws[t]).length/\(∀k,k<(ws[t]).length->V ((ws[t]).take (k+1))=some ((Bh T 0 ws[t]).getD k 0))/\∀o∈Bh T 0 ws[t],0<=o/\o<O
 | n,0,_,f=>by
  have e:ws[0]=[]:=by rw[<- h.weq 0 0 (Wy _) f];exact h.lab.nil
  rw[e];exact⟨rfl,⟨λk hk=>(by grind),λo ho=>(by cases ho)⟩⟩
 | 0,t+1,hn,_=>by omega
 | n+1,t+1,hn,f=>by
  obtain⟨p,j,A⟩:=h.lab.src (t+1) (by omega) (by rw[h.len];grind);obtain⟨_,_,h3,_⟩:=h.lab.ed p j _ A;obtain⟨o,D⟩:=A.out;obtain⟨Q,a1,hv,a0,e⟩:=h.edo D;obtain⟨i1,i2,i3⟩:=h.resp n p (by omega) Q;have U:=b6g h.lab D;rw[h.weq (t+1) (t+1) (Wy _) f,h.weq p p (Wy _) Q] at U;refine⟨by grind,λk hk=>?_,λx hx=>?_⟩
  .grind
  .rw[U] at hx;rcases W9.1 hx with Z|Z
   .grind
   .rw[Xf.1 Z];have h6:=(h.vin ws[p] (j:Int) o (by grind)).2 a0;grind
def EW(T:Tq)(W:Wq)(x:Wd):Prop:=∃s∈endsM T 0,x=eW W s
theorem TL.ew(h:TL I O V ws T W){x:Wd}:EW T W x↔(∃p∈ws,∃i:Nat,i<I/\V (p++[(i:Int)])=some (-1)/\x=p++[(i:Int)])\/(x∈ws/\∀i:Nat,i<I->V (x++[(i:Int)])=none):=by
 constructor
 .rintro⟨s,hs,rfl⟩;rcases Mt.1 hs with⟨k,A,i,hi,Q,rfl⟩|⟨k,A,U,rfl⟩
  .have f:k<ws.length:=by rw[<- h.len];grind
   obtain⟨D,e⟩:=h.ent f A hi;rw[Q] at e;refine .inl ⟨ws[k],W2 f,i,D,?_,?_⟩
   .unfold A0 at e;grind
   .unfold eW;dsimp only;rw[if_neg (by omega),h.weq k k (Wy _) f]
  .have f:k<ws.length:=by rw[<- h.len];grind
   have e0:eW W (k,-1)=ws[k]:=by unfold eW;dsimp only;rw[if_pos rfl,e5x,h.weq k k (Wy _) f]
   rw[e0];refine .inr ⟨W2 f,λi hi=>?_⟩;have D:i<(T[k]).length:=by rw[h.rlen A];grind
   obtain⟨_,e⟩:=h.ent f A D;unfold Dw at U;have Z:=of_decide_eq_true (W7.1 U _ (W2 D));rw[e] at Z;unfold A0 at Z;grind
 .rintro (⟨p,hp,i,hi,hv,rfl⟩|⟨hx,hn⟩)
  .obtain⟨k,f,rfl⟩:=e6l hp;have A:k<T.length:=by rw[h.len];grind
   have D:i<(T[k]).length:=by rw[h.rlen A];grind
   obtain⟨_,e⟩:=h.ent f A D;refine⟨(k,(i:Int)),Mt.2 (.inl ⟨k,A,i,D,?_,rfl⟩),?_⟩
   .grind[A0]
   .unfold eW;dsimp only;rw[if_neg (by omega),h.weq k k (Wy _) f]
  .obtain⟨k,f,rfl⟩:=e6l hx;have A:k<T.length:=by rw[h.len];grind
   refine⟨(k,-1),Mt.2 (.inr ⟨k,A,?_,rfl⟩),?_⟩
   .unfold Dw;rw[W7];intro e Q;obtain⟨i,hi,rfl⟩:=e6l Q;obtain⟨D,e⟩:=h.ent f A hi;grind[A0]
   .unfold eW;dsimp only;rw[if_pos rfl,e5x,h.weq k k (Wy _) f]
theorem a5t{O:Int}:∀(r:Wd),(∀o∈r,0<=o/\o<O)->1<=O->okR O false r=true/\okR O false (r++[-1])=true
 | [],_,f=>⟨rfl,Vh (by omega) (by omega) (λh=>by cases h) rfl⟩
 | o::r,h,f=>by
  have A:=h o (by simp);obtain⟨D,Q⟩:=a5t r (λx hx=>h x (by simp[hx])) f;refine⟨Vh (by omega) A.2 (λh=>by cases h) ?_,Vh (by omega) A.2 (λh=>by cases h) ?_⟩
  .rw[decide_eq_false (by omega)];exact D
  .rw[decide_eq_false (by omega)];exact Q
theorem TL.endr(h:TL I O V ws T W)(U:1<=O){x:Wd}(hx:EW T W x):(Bh T 0 x).length=x.length/\(∀k,k<x.length->V (x.take (k+1))=some ((Bh T 0 x).getD k 0))/\okR O false (Bh T 0 x)=true/\inW x I=true:=by
 have Z:∀(n:Nat)(y:Wd),y.length=n->y∈ws->inW y I=true:=by
  intro n
  induction n with
  | zero=>intro y hy _;rw[List.eq_nil_of_length_eq_zero hy];rfl
  | succ n ih =>
   intro y hy f;have a1:y≠[]:=λe=>by grind
   have e:=e8b a1;rw[<- e] at f |-;rcases (h.nod.mem _).1 f with h1|⟨o,h1,h2⟩
   .grind
   .have h3:=ih y.dropLast (by grind) (h.nod.up f);have h4:=(h.vin _ _ _ h1).1;grind[inW]
 rcases h.ew.1 hx with⟨p,hp,i,hi,hv,rfl⟩|⟨f,_⟩
 .obtain⟨k,A,rfl⟩:=e6l hp;have D:k<T.length:=by rw[h.len];grind
  have a0:i<(T[k]).length:=by rw[h.rlen D];grind
  obtain⟨_,e⟩:=h.ent A D a0;have he:T[k][i]=(-1,-2):=by grind[A0]
  have er:=b6h h.lab D a0 he;have e0:eW W (k,(i:Int))=ws[k]++[(i:Int)]:=by unfold eW;dsimp only;rw[if_neg (by omega),h.weq k k (Wy _) A]
  rw[e0,h.weq k k (Wy _) A] at er;obtain⟨i1,i2,Q⟩:=h.resp k k (Wy _) A;rw[er];refine⟨by grind,λm f=>?_,(a5t _ Q U).2,?_⟩
  .grind
  .have h3:=Z _ _ rfl hp;grind[inW]
 .obtain⟨k,A,rfl⟩:=e6l f;obtain⟨i1,i2,Q⟩:=h.resp k k (Wy _) A;exact⟨i1,i2,(a5t _ Q U).1,Z _ _ rfl f⟩
theorem TL.ext(h:TL I O V ws T W):∀(n t:Nat)(f:t<ws.length),ws.length-t<=n->∃x,EW T W x/\(ws[t]).length<=x.length/\x.take (ws[t]).length=ws[t]
 | 0,t,f,U=>by omega
 | n+1,t,f,U=>by
  by_cases Z:∀i:Nat,i<I->V (ws[t]++[(i:Int)])=none
  .exact⟨ws[t],h.ew.2 (.inr ⟨W2 f,Z⟩),Wy _,by grind⟩
  .have a0:∃i:Nat,i<I/\V (ws[t]++[(i:Int)])≠none:=by
    grind
   obtain⟨i,hi,hv⟩:=a0
   cases a1:V (ws[t]++[(i:Int)]) with
   | none=>grind
   | some o =>
    by_cases ho:o = -1
    .refine⟨ws[t]++[(i:Int)],h.ew.2 (.inl ⟨ws[t],W2 f,i,hi,by grind,rfl⟩),by grind,?_⟩;grind
    .obtain⟨D,a2⟩:=Mk ((h.nod.mem _).2 (.inr ⟨o,a1,ho⟩));have a3:t<ws.idxOf (ws[t]++[(i:Int)]):=by
      rcases Nat.lt_trichotomy t (ws.idxOf (ws[t]++[(i:Int)])) with A|A|A
      .grind
      .have:ws[t]=ws[t]++[(i:Int)]:=by
        grind
       have:=congrArg List.length this;grind
      .have Q:=h.srt _ _ D f A;rw[a2] at Q;have h3:=Q.le;grind
     obtain⟨x,x1,x2,x3⟩:=h.ext n _ D (by omega);grind
end
section
variable {I:Nat}{O:Int}{V:Wd→Option Int}{ws:Wq}{T:Tq}{W:Wq}
def Gw(T:Tq)(W:Wq)(U:Lq):Prop:=∀u,u∈U↔EW T W u.1/\u.2=Bh T 0 u.1
theorem bkM_of:Gw T W (bkM T W):=λu=>by
 unfold bkM;rw[Xc];constructor
 .rintro⟨s,f,rfl⟩;exact⟨⟨s,f,rfl⟩,rfl⟩
 .rintro⟨⟨s,f,e⟩,e2⟩;grind
theorem Gw.perm{U f:Lq}(h:Gw T W U)(A:f.Perm U):Gw T W f:=λu=>(A.mem_iff).trans (h u)
theorem TL.valid(h:TL I O V ws T W)(f:1<=O){U:Lq}(A:Gw T W U):∀u∈U,B0 I O u=true:=by
 intro u D;obtain⟨Q,Z⟩:=(A u).1 D;obtain⟨i1,_,i3,i4⟩:=h.endr f Q;grind[b3z]
theorem TL.get(h:TL I O V ws T W)(f:1<=O){U:Lq}(A:Gw T W U){u:List Int×Wd}(D:u∈U){k:Nat}(Q:k<u.1.length):V (u.1.take (k+1))=some (u.2.getD k 0):=by
 obtain⟨Z,h2⟩:=(A u).1 D;rw[h2];exact(h.endr f Z).2.1 k Q
theorem TL.cons(h:TL I O V ws T W)(f:1<=O){U:Lq}(A:Gw T W U):Ej U:=by
 intro u D t Q k Z a0 he;have h1:=h.get f A D Z;have h2:=h.get f A Q a0;grind
theorem TL.of(h:TL I O V ws T W)(f:1<=O){U:Lq}(A:Gw T W U){y:Wd}{o:Int}(hy:valT U y=some o):V y=some o:=by
 obtain⟨u,D,Q,Z,g4,g5⟩:=Jy hy;have a0:0<y.length:=e7t.2 Q;have h1:=h.get f A D (k:=y.length-1) (by omega);grind
theorem TL.valU(h:TL I O V ws T W)(D:1<=O){U:Lq}(f:Gw T W U){p:Wd}(hp:p∈ws){i:Nat}(hi:i<I):valT U (p++[(i:Int)])=V (p++[(i:Int)]):=by
 have hC:=h.cons D f;have key:∀x,EW T W x->(p++[(i:Int)]).length<=x.length->x.take (p++[(i:Int)]).length=p++[(i:Int)]->valT U (p++[(i:Int)])=V (p++[(i:Int)]):=by
  intro x hx Q ht;have A:(x,Bh T 0 x)∈U:=(f _).2 ⟨hx,rfl⟩;rw[W1,Xj] at Q ht;have h1:=a4x hC A (k:=p.length) (by grind);have h2:=h.get D f A (k:=p.length) (by grind);grind
 cases Z:V (p++[(i:Int)]) with
 | none =>
  cases A:valT U (p++[(i:Int)]) with
  | none=>rfl
  | some o=>rw[h.of D f A] at Z;grind
 | some o =>
  rw[<- Z];by_cases ho:o = -1
  .exact key _ (h.ew.2 (.inl ⟨p,hp,i,hi,by grind,rfl⟩)) (Wy _) (Xl)
  .obtain⟨Q,a0⟩:=Mk ((h.nod.mem _).2 (.inr ⟨o,Z,ho⟩));obtain⟨x,x1,x2,x3⟩:=h.ext _ _ Q (Wy _);grind
theorem TL.nodU(h:TL I O V ws T W)(A:1<=O){U:Lq}(D:Gw T W U):Dm U=ws:=by
 have hv:=h.valid A D;have hC:=h.cons A D;refine srt_eq (N3 hv).1 h.srt λx=>?_;rw[Pq hv hC x];constructor
 .rintro (rfl|⟨o,f,Q⟩)
  .exact h.nil
  .exact(h.nod.mem x).2 (.inr ⟨o,h.of A D f,Q⟩)
 .intro hx;rcases (h.nod.mem x).1 hx with rfl|⟨o,f,Q⟩
  .grind
  .by_cases Z:x=[]
   .grind
   .refine .inr ⟨o,?_,Q⟩;have e:=e8b Z;rw[<- e] at hx f |-;have h3:=(h.vin _ _ _ f).1;obtain⟨i,hi⟩:∃i:Nat,x.getLast Z=(i:Int):=⟨(x.getLast Z).toNat,by omega⟩;rw[hi] at hx f h3 |-;rw[h.valU A D (h.nod.up hx) (by omega),f]
theorem TL.rowsU(h:TL I O V ws T W)(f:1<=O){U:Lq}(A:Gw T W U):Aj I U=T:=by
 unfold Aj;rw[h.nodU f A,h.rows];unfold Bg;apply e7j;intro p D;unfold Bb;apply e7j;intro i hi;unfold A0;rw[h.valU f A D (e6u.1 hi)]
theorem TL.anti(h:TL I O V ws T W)(f:1<=O){x y:Wd}(hx:EW T W x)(hy:EW T W y)(hl:x.length<=y.length)(D:y.take x.length=x):x=y:=by
 by_cases a0:x.length=y.length
 .grind
 .have A:x.length<y.length:=by omega
  have Q:x∈ws:=by
   rcases h.ew.1 hy with⟨p,U,i,hi,Z,rfl⟩|⟨hm,_⟩
   .rw[W1,Xj] at A;rw[List.take_append_of_le_length (by omega)] at D;have:=h.nod.pre _ (p.drop x.length) rfl (x:=x) (by grind[List.take_append_drop]);grind
   .exact h.nod.pre _ (y.drop x.length) rfl (x:=x) (by
     grind[List.take_append_drop])
  have hk:=(h.endr f hy).2.1 x.length A;have a1:=(h.endr f hy).2.2.2;have ht:y.take (x.length+1)=x++[y[x.length]]:=by grind[Df]
  rw[ht] at hk;have hr:0<=y[x.length]/\y[x.length] < (I:Int):=by
   simp_all[inW]
  rcases h.ew.1 hx with⟨p,U,i,hi,Z,rfl⟩|⟨_,hn⟩
  .rcases (h.nod.mem _).1 Q with h1|⟨o,h1,h2⟩
   all_goals grind
  .obtain⟨j,hj⟩:∃j:Nat,y[x.length]=(j:Int):=⟨(y[x.length]).toNat,by omega⟩;grind
theorem TL.count(D:1<=O){ts:Lq}(h:TL I O (valT ts) ws T W){X:Wq}(hX:∀x∈X,EW T W x)(a0:X.Nodup):X.length<=max 1 ts.length:=by
 by_cases U:[]∈X
 .have a1:∀x∈X,x∈[([]:Wd)]:=λx hx=>by
   have:=h.anti D (hX _ U) (hX x hx) (W3 _) rfl;grind
  have:=nodup_len a0 a1;grind
 .have A:∀x∈X,∃i:Nat,i<ts.length/\∃hi:i<ts.length,x.length<=(ts[i]).1.length/\(ts[i]).1.take x.length=x:=by
   intro x hx;have a5:x≠[]:=λe=>U (e ▸ hx);have a8:0<x.length:=e7t.2 a5;have Z:=(h.endr D (hX x hx)).2.1 (x.length-1) (by omega);rw[show x.length-1+1=x.length by omega,Xl] at Z;obtain⟨u,g1,g2,g3,g4,g5⟩:=Jy Z;obtain⟨i,hi,rfl⟩:=e6l g1;grind
  classical
  let f:Wd->Wd:=λx=>if hx:x∈X then [((Classical.choose (A x hx):Nat):Int)] else []
  have hf:∀x (hx:x∈X),f x=[((Classical.choose (A x hx):Nat):Int)]:=λx hx=>by grind
  have a9:∀x (hx:x∈X) y (hy:y∈X),f x=f y->x=y:=by
   intro x hx y hy he;rw[hf x hx,hf y hy] at he;have e1:Classical.choose (A x hx)=Classical.choose (A y hy):=by
    grind
   obtain⟨_,a2,a3,a4⟩:=Classical.choose_spec (A x hx);obtain⟨_,b2,b3,b4⟩:=Classical.choose_spec (A y hy);have e2:(ts[Classical.choose (A x hx)]'a2).1=(ts[Classical.choose (A y hy)]'b2).1:=by
    grind
   rw[e2] at a3 a4;generalize (ts[Classical.choose (A y hy)]'b2).1=w at *;rcases Nat.le_total x.length y.length with Q|Q
   .exact h.anti D (hX x hx) (hX y hy) Q (by grind)
   .exact(h.anti D (hX y hy) (hX x hx) Q (by grind)).symm
  have a6:(X.map f).Nodup:=by
   have:∀(l:Wq),(∀x∈l,x∈X)->l.Nodup->(l.map f).Nodup:=by
    intro l
    induction l with
    | nil=>grind
    | cons a l ih =>
     grind
   grind
  have a7:∀z∈X.map f,z∈(List.range ts.length).map λi:Nat=>[(i:Int)]:=by
   grind
  have:=nodup_len a6 a7;grind
theorem TL.short(f:1<=O){ts:Lq}(h:TL I O (valT ts) ws T W){k:Nat}(D:∀t∈ts,t.1.length<=k){x:Wd}(hx:EW T W x):x.length<=k:=by
 by_cases A:x=[]
 .grind
 .have Q:0<x.length:=e7t.2 A;have U:=(h.endr f hx).2.1 (x.length-1) (by omega);grind[List.take_length,Jy,Nat.le_trans]
end
def a5u(s t:Nat×Int):Prop:=s.1<t.1\/(s.1=t.1/\s.2<t.2)
theorem b6k(n:Nat):∀(row:List (Int×Int)) (i:Nat),(Cs n row i).Pairwise a5u/\∀s∈Cs n row i,s.1=n/\(i:Int)<=s.2
 | [],i=>⟨List.Pairwise.nil,λs f=>by cases f⟩
 | e::row,i=>by
  obtain⟨h,A⟩:=b6k n row (i+1);have D:Cs n (e::row) i=(if e.1 = -1/\e.2 = -2 then [(n,(i:Int))] else [])++Cs n row (i+1):=rfl;rw[D];split
  .refine⟨?_,λs f=>?_⟩
   .rw[List.singleton_append,List.pairwise_cons];refine⟨λs f=>?_,h⟩;have:=A s f;exact .inr ⟨this.1.symm,by grind⟩
   grind
  grind
theorem e3l{row:List (Int×Int)}(h:Dw row=true)(i:Nat):Cs n row i=[]:=by
 apply List.eq_nil_iff_forall_not_mem.2;intro s f;obtain⟨k,A,D,Q,_⟩:=V7.1 f;unfold Dw at h;grind
theorem endsM_pw:∀(T:Tq)(n:Nat),(endsM T n).Pairwise a5u/\∀s∈endsM T n,n<=s.1
 | [],n=>⟨List.Pairwise.nil,λs f=>by cases f⟩
 | r::T,n=>by
  obtain⟨h,Q⟩:=endsM_pw T (n+1);obtain⟨U,Z⟩:=b6k n r 0;have A:endsM (r::T) n=Ga n r++endsM T (n+1):=rfl;have D:(Ga n r).Pairwise a5u/\∀s∈Ga n r,s.1=n:=by
   unfold Ga;by_cases hl:Dw r=true
   .simp_all[e3l]
   grind
  rw[A];refine⟨List.pairwise_append.2 ⟨D.1,h,λs f t ht=>.inl ?_⟩,λs f=>?_⟩
  all_goals grind
theorem Lab.eW_inj(A:Lab T W){s t:Nat×Int}(hs:s∈endsM T 0)(ht:t∈endsM T 0)(h:eW W s=eW W t):s=t:=by
 have key:∀(k:Nat)(D:k<T.length)(i:Nat)(hi:i<(T[k]).length) (_:T[k][i]=(-1,-2)) (f:Nat) (_:f < T.length),W.getD f []=W.getD k []++[(i:Int)]->False:=by
  intro k D i hi he f Q U;have h0:f≠0:=λe=>by rw[e,A.nil] at U;simp_all
  obtain⟨p,j,Z⟩:=A.src f (by omega) Q;obtain⟨_,_,_,h4⟩:=A.ed p j f Z;rw[h4] at U;obtain⟨e1,e2⟩:=Jx U;have e3:=A.inj Z.lt D e1;have e4:j=i:=by omega
  subst e3 e4;obtain⟨o,hp,hj,e⟩:=Z.out;grind
 rcases Mt.1 hs with⟨k,D,i,hi,he,rfl⟩|⟨k,D,hb,rfl⟩<;>rcases Mt.1 ht with⟨f,Q,i',hi',a0,rfl⟩|⟨f,Q,a1,rfl⟩
 .unfold eW at h;dsimp only at h;rw[if_neg (by omega),if_neg (by omega)] at h;obtain⟨e1,e2⟩:=Jx h;have:=A.inj D Q e1;grind
 .unfold eW at h;grind
 .unfold eW at h;grind
 .unfold eW at h;dsimp only at h;simp only[if_true,e5x] at h;rw[A.inj D Q h]
theorem Lab.nodup(f:Lab T W):((bkM T W).map λu=>u.1).Nodup:=by
 unfold bkM;rw[e8v];refine List.pairwise_map.2 ?_;refine List.Pairwise.imp_of_mem (λ{a b} A D Q U=>?_) (endsM_pw T 0).1;have:=f.eW_inj A D U;subst this;rcases Q with h|⟨_,h⟩<;>omega
theorem Lab.srtU(f:Lab T W){U:Lq}(h:U.Perm (bkM T W))(D:∀(i j:Nat)(_:i<j)(Q:j<U.length),¬ Bx U[j].1 (U[i]'(by omega)).1<0):Bt (U.map λu=>u.1)/\(U.map λu=>u.1).Nodup:=by
 have A:(U.map λu=>u.1).Nodup:=((h.map λu=>u.1).nodup_iff).2 f.nodup;refine⟨λa b Z hb a0=>?_,A⟩;grind[List.getElem_inj,Vn,Vo]
def rbk(W:Wq)(l:Wq)(E:List (Nat×Int)):Wq:=E.foldl (λl s=>Ek (eW W s) l) l
theorem b6l:∀(E:List (Nat×Int)) (l:Wq),Bt l->Bt (rbk W l E)
 | [],l,h=>h
 | s::E,l,h=>b6l E _ (Vp h)
theorem a5v{x:Wd}:∀(E:List (Nat×Int)) (l:Wq),x∈rbk W l E↔x∈l\/∃s∈E,x=eW W s
 | [],l=>by simp[rbk]
 | s::E,l=>by
  show x∈rbk W (Ek (eW W s) l) E↔_;rw[a5v E,Sp];grind
theorem e3m{U:Lq}(f:Gw T W U)(A:Bt (U.map λu=>u.1)):(rbk W [] (endsM T 0)).map (λw=>(w,Bh T 0 w))=U:=by
 have e:rbk W [] (endsM T 0)=U.map λu=>u.1:=by
  refine srt_eq (b6l _ [] (λa b Q=>by grind)) A λx=>?_;rw[a5v,Xc];constructor
  .rintro (h|⟨s,A,h⟩)
   .cases h
   .exact⟨(x,Bh T 0 x),(f _).2 ⟨⟨s,A,h⟩,rfl⟩,rfl⟩
  .rintro⟨u,D,rfl⟩;exact .inr ((f u).1 D).1
 rw[e,e8v];have:∀u∈U,((λw=>(w,Bh T 0 w)) ∘ λu:List Int×Wd=>u.1) u=u:=λu D=>Prod.ext rfl ((f u).1 D).2.symm;rw[e7j this];simp
def Mu(c d:Nat)(g:Gb):Gb:=λa=>if c<a/\a≠d then g a else none
theorem b6m{c d:Nat}:∀a x,Mu c d g a=some x->g a=some x:=by
 intro a x h;unfold Mu at h;split at h
 .exact h
 .cases h
theorem Cd.two{c d:Nat}{v:AV}(h:Cd (Mu c d g) n l v):∃f,Af g n v l.length f/\RowsW (Mu c d g) n l f:=
 let ⟨f,A,D⟩:=h;⟨f,Xx (Wy _) (λa x _ hx=>b6m a x hx) A,D⟩
theorem Cd.ext{v:AV}(h:Cd g n l v)(f:n<=n')(A:∀a x,a<n->g a=some x->g' a=some x):Cd g' n' l v:=
 let ⟨D,Q,U⟩:=h;⟨D,Xx f A Q,U.ext f A⟩
theorem J4.v{sv:AV}(h:J4 g n l sv):Cd g n l sv:=let ⟨f,A,D,_⟩:=h.ex;⟨f,A,D⟩
def RowsO(gk:Gb)(lo:Nat)(g:Gb)(n B:Nat)(ts:Lq)(cs:List AV):Prop:=
 cs.length=ts.length*2/\∀(k:Nat)(h:k<ts.length),∃s1 s2,cs[k*2]?=some s1/\cs[k*2+1]?=some s2/\Al gk lo ts[k].1 s1/\A8 g lo n B ts[k].2 s2
theorem RowsO.keep{lo B': Nat}(h:RowsO gk lo g n B ts cs)(f:n<=n')(A:n<=B'\/B'=B\/B' < lo)(D:∀a,lo<=a->a<n->a≠B->g' a=g a):RowsO gk lo g' n' B' ts cs:=
 ⟨h.1,λk Q=>let ⟨s1,s2,U,Z,h4,h5⟩:=h.2 k Q;⟨s1,s2,U,Z,h4,h5.keep (Wy _) f A D⟩⟩
theorem RowsO.snoc{lo:Nat}(h:RowsO gk lo g n B ts cs){t:List Int×Wd}{s1 s2:AV}(D:Al gk lo t.1 s1)(Q:A8 g lo n B t.2 s2):RowsO gk lo g n B (ts++[t]) (cs++[s1,s2]):=by
 have f:=h.1;refine⟨by simp[f];omega,λk U=>?_⟩;rw[W1,Xj] at U;by_cases A:k<ts.length
 .obtain⟨t1,t2,Z,e2,e3,e4⟩:=h.2 k A;refine⟨t1,t2,?_,?_,?_,?_⟩
  .rw[e5v (by omega)];exact Z
  .rw[e5v (by omega)];exact e2
  .rw[e6b A];exact e3
  .rw[e6b A];exact e4
 .have a0:k=ts.length:=by omega
  subst a0;refine⟨s1,s2,?_,?_,?_,?_⟩
  .rw[Xm (by omega),f,e6n];rfl
  .rw[Xm (by omega),f,show ts.length*2+1-ts.length*2=1 by omega];rfl
  .simpa using D
  .simpa using Q
theorem RowsO.rows{lo:Nat}(h:RowsO gk lo g n B ts cs)(A:lo<=n)(D:∀a x,a<lo->gk a=some x->g' a=some x)(Q:∀a,lo<=a->a<n->g' a=g a):RowsT g' n ts cs:=
 ⟨h.1,λk U=>let ⟨s1,s2,f,Z,h4,h5⟩:=h.2 k U;⟨s1,s2,f,Z,Xx A D h4,(h5.keep (Wy _) (Wy _) (.inr (.inl rfl)) λa f h2 _=>Q a f h2).rep⟩⟩
end Go.Ai
