/- Parts of an interpreter and of a proof. No condition. -/
import Derived.Test.YtpimmmnkcgnjjaaGreatA29
import Derived.Test.YtpimmmnkcgnjjaaGreatA12
import Derived.Test.YtpimmmnkcgnjjaaGreatA13
import Derived.Test.YtpimmmnkcgnjjaaGreatA10
import Derived.Test.YtpimmmnkcgnjjaaGreatA28
set_option linter.all false
set_option maxHeartbeats 40000000
set_option maxRecDepth 10000
open Go.Proofs
namespace Go.Ai
variable {g g' gk:Gb}{n n' B:Nat}{W l:Wq}{T:Tq}{ts:Lq}{cs:List AV}
theorem P0.keep{sv:AV}(h:P0 g n T sv)(A:n<=n')(D:∀b,b<n->g' b=g b):P0 g' n' T sv:=h.mono A D
theorem nodW_len:∀(w r:Wd)(L:Wq)(p:Wd),(nodW L p w r).length<=L.length+w.length
 | [],r,L,p=>by cases r<;>exact Wy _
 | _::_,[],L,p=>e8h _ _
 | i::w,o::r,L,p=>by
  have h:=nodW_len w r (Be (p++[i]) L) (p++[i]);have A:=@a5b (p++[i]) L;unfold nodW;rw[Xk];split<;>omega
theorem e4c(h:∀t∈ts,t.1.length<=256):(Bi ts).length<=1+256*ts.length:=by
 have key:∀(us:Lq)(A:Wq),(∀t∈us,t.1.length<=256)->(us.foldl (λA t=>nodW A [] t.1 t.2) A).length<=A.length+256*us.length:=by
  intro us
  induction us with
  | nil=>intro A _;exact Wy _
  | cons t us Q =>
   intro A D;have Z:=Q (nodW A [] t.1 t.2) λt U=>D t (by simp[U]);have h2:=nodW_len t.1 t.2 A [];have h3:=D t (by simp);rw[List.foldl_cons,Xk];omega
 exact key ts [[]] h
section
structure TL (I:Nat) (O:Int) (V:Wd->Option Int) (ws:Wq) (T:Tq) (W:Wq):Prop where
 nod:Nod V ws
 srt:B8 ws
 rows:T=Bk V ws I
 lab:Lab T W
 vin:∀x i o,V (x++[i])=some o->(0<=i/\i<(I:Int))/\(o ≠ -1->0<=o/\o<O)
variable {I:Nat}{O:Int}{V:Wd→Option Int}{ws:Wq}{T:Tq}{W:Wq}
theorem TL.len(h:TL I O V ws T W):T.length=ws.length:=by rw[h.rows,Gx]
theorem TL.nil(h:TL I O V ws T W):[]∈ws:=(h.nod.mem []).2 (.inl rfl)
theorem TL.row(h:TL I O V ws T W){k:Nat}(A:k<ws.length)(D:k<T.length):T[k]=A2 V ws I ws[k]:=by
 have e:T.getD k []=A2 V ws I ws[k]:=by rw[h.rows];exact Vj A
 grind
theorem TL.ent(h:TL I O V ws T W){k i:Nat}(A:k<ws.length)(D:k<T.length)(hi:i<(T[k]).length):i<I/\T[k][i]=Ax V ws ws[k] i:=by
 have e:=h.row A D;have Q:i<I:=by grind[K3]
 refine⟨Q,?_⟩;have e2:(T[k])[i]?=some (Ax V ws ws[k] i):=by grind[Oa]
 grind
theorem TL.rlen(h:TL I O V ws T W){k:Nat}(A:k<T.length):(T[k]).length=I:=by
 have D:k<ws.length:=by rw[<- h.len];grind
 rw[h.row D A,K3]
theorem TL.edo(h:TL I O V ws T W){p j t:Nat}{o:Int}(Z:EdO T p j t o):∃(A:p<ws.length)(ht:t<ws.length),V ws[t]=some o/\o ≠ -1/\ws[t]=ws[p]++[(j:Int)]:=by
 obtain⟨a0,hj,e⟩:=Z;have A:p<ws.length:=by rw[<- h.len];grind
 obtain⟨a1,e2⟩:=h.ent A a0 hj;rw[e2] at e;unfold Ax at e
 cases D:V (ws[p]++[(j:Int)]) with
 | none=>grind
 | some Q =>
  rw[D] at e;dsimp only at e;by_cases U:Q = -1
  .grind
  .rw[if_neg U] at e;injection e with e1 e2;obtain⟨hl,a2⟩:=Mt ((h.nod.mem _).2 (.inr ⟨Q,D,U⟩));grind
theorem TL.weq(h:TL I O V ws T W):∀(n t:Nat),t<=n->∀A:t<ws.length,W.getD t []=ws[t]
 | n,0,_,A=>by
  obtain⟨hl,a0⟩:=Mt h.nil;rw[h.lab.nil];have e:=b4t h.srt h.nil;grind
 | 0,t+1,Q,_=>by omega
 | n+1,t+1,Q,A=>by
  obtain⟨p,j,D⟩:=h.lab.src (t+1) (by omega) (by rw[h.len];grind);obtain⟨_,_,h3,U⟩:=h.lab.ed p j _ D;obtain⟨o,Z⟩:=D.out;obtain⟨hp,a1,_,_,e⟩:=h.edo Z;rw[U,h.weq n p (by omega) hp,e]
theorem TL.resp(h:TL I O V ws T W):∀(n t:Nat),t<=n->∀A:t<ws.length,(Bm T 0 ws[t]).length=(ws[t]).length/\(∀k,k<(ws[t]).length->V ((ws[t]).take (k+1))=some ((Bm T 0 ws[t]).getD k 0))/\∀o∈Bm T 0 ws[t],0<=o/\o<O
 | n,0,_,A=>by
  have e:ws[0]=[]:=by rw[<- h.weq 0 0 (Wy _) A];exact h.lab.nil
  rw[e];exact⟨rfl,⟨λk hk=>(by grind),λo ho=>(by cases ho)⟩⟩
 | 0,t+1,hn,_=>by omega
 | n+1,t+1,hn,A=>by
  obtain⟨p,j,D⟩:=h.lab.src (t+1) (by omega) (by rw[h.len];grind);obtain⟨_,_,h3,_⟩:=h.lab.ed p j _ D;obtain⟨o,Q⟩:=D.out;obtain⟨U,a1,hv,a0,e⟩:=h.edo Q;obtain⟨i1,i2,i3⟩:=h.resp n p (by omega) U;have Z:=b6o h.lab Q;rw[h.weq (t+1) (t+1) (Wy _) A,h.weq p p (Wy _) U] at Z;refine⟨by grind,λk hk=>?_,λx hx=>?_⟩
  .grind
  .rw[Z] at hx;rcases W9.1 hx with h5|h5
   .grind
   .rw[Xh.1 h5];have h6:=(h.vin ws[p] (j:Int) o (by grind)).2 a0;grind
def EW(T:Tq)(W:Wq)(x:Wd):Prop:=∃s∈endsM T 0,x=eW W s
theorem TL.ew(h:TL I O V ws T W){x:Wd}:EW T W x↔(∃p∈ws,∃i:Nat,i<I/\V (p++[(i:Int)])=some (-1)/\x=p++[(i:Int)])\/(x∈ws/\∀i:Nat,i<I->V (x++[(i:Int)])=none):=by
 constructor
 .rintro⟨s,hs,rfl⟩;rcases M5.1 hs with⟨k,D,i,hi,U,rfl⟩|⟨k,D,Z,rfl⟩
  .have A:k<ws.length:=by rw[<- h.len];grind
   obtain⟨Q,e⟩:=h.ent A D hi;rw[U] at e;refine .inl ⟨ws[k],W2 A,i,Q,?_,?_⟩
   .unfold Ax at e;grind
   .unfold eW;dsimp only;rw[if_neg (by omega),h.weq k k (Wy _) A]
  .have A:k<ws.length:=by rw[<- h.len];grind
   have e0:eW W (k,-1)=ws[k]:=by unfold eW;dsimp only;rw[if_pos rfl,e6b,h.weq k k (Wy _) A]
   rw[e0];refine .inr ⟨W2 A,λi hi=>?_⟩;have Q:i<(T[k]).length:=by rw[h.rlen D];grind
   obtain⟨_,e⟩:=h.ent A D Q;unfold Ec at Z;have a0:=of_decide_eq_true (W7.1 Z _ (W2 Q));rw[e] at a0;unfold Ax at a0;grind
 .rintro (⟨p,hp,i,hi,hv,rfl⟩|⟨hx,hn⟩)
  .obtain⟨k,A,rfl⟩:=e6p hp;have D:k<T.length:=by rw[h.len];grind
   have Q:i<(T[k]).length:=by rw[h.rlen D];grind
   obtain⟨_,e⟩:=h.ent A D Q;refine⟨(k,(i:Int)),M5.2 (.inl ⟨k,D,i,Q,?_,rfl⟩),?_⟩
   .grind[Ax]
   .unfold eW;dsimp only;rw[if_neg (by omega),h.weq k k (Wy _) A]
  .obtain⟨k,A,rfl⟩:=e6p hx;have D:k<T.length:=by rw[h.len];grind
   refine⟨(k,-1),M5.2 (.inr ⟨k,D,?_,rfl⟩),?_⟩
   .unfold Ec;rw[W7];intro e U;obtain⟨i,hi,rfl⟩:=e6p U;obtain⟨Q,e⟩:=h.ent A D hi;grind[Ax]
   .unfold eW;dsimp only;rw[if_pos rfl,e6b,h.weq k k (Wy _) A]
theorem a5u{O:Int}:∀(r:Wd),(∀o∈r,0<=o/\o<O)->1<=O->okR O false r=true/\okR O false (r++[-1])=true
 | [],_,A=>⟨rfl,Vh (by omega) (by omega) (λh=>by cases h) rfl⟩
 | o::r,h,A=>by
  have D:=h o (by simp);obtain⟨Q,U⟩:=a5u r (λx hx=>h x (by simp[hx])) A;refine⟨Vh (by omega) D.2 (λh=>by cases h) ?_,Vh (by omega) D.2 (λh=>by cases h) ?_⟩
  .rw[decide_eq_false (by omega)];exact Q
  .rw[decide_eq_false (by omega)];exact U
theorem TL.endr(h:TL I O V ws T W)(Z:1<=O){x:Wd}(hx:EW T W x):(Bm T 0 x).length=x.length/\(∀k,k<x.length->V (x.take (k+1))=some ((Bm T 0 x).getD k 0))/\okR O false (Bm T 0 x)=true/\inW x I=true:=by
 have a0:∀(n:Nat)(y:Wd),y.length=n->y∈ws->inW y I=true:=by
  intro n
  induction n with
  | zero=>intro y hy _;rw[List.eq_nil_of_length_eq_zero hy];rfl
  | succ n ih =>
   intro y hy A;have a2:y≠[]:=λe=>by grind
   have e:=e8f a2;rw[<- e] at A |-;rcases (h.nod.mem _).1 A with h1|⟨o,h1,h2⟩
   .grind
   .have h3:=ih y.dropLast (by grind) (h.nod.up A);have h4:=(h.vin _ _ _ h1).1;grind[inW]
 rcases h.ew.1 hx with⟨p,hp,i,hi,hv,rfl⟩|⟨A,_⟩
 .obtain⟨k,D,rfl⟩:=e6p hp;have Q:k<T.length:=by rw[h.len];grind
  have a1:i<(T[k]).length:=by rw[h.rlen Q];grind
  obtain⟨_,e⟩:=h.ent D Q a1;have he:T[k][i]=(-1,-2):=by grind[Ax]
  have er:=b6p h.lab Q a1 he;have e0:eW W (k,(i:Int))=ws[k]++[(i:Int)]:=by unfold eW;dsimp only;rw[if_neg (by omega),h.weq k k (Wy _) D]
  rw[e0,h.weq k k (Wy _) D] at er;obtain⟨i1,i2,U⟩:=h.resp k k (Wy _) D;rw[er];refine⟨by grind,λm A=>?_,(a5u _ U Z).2,?_⟩
  .grind
  .have h3:=a0 _ _ rfl hp;grind[inW]
 .obtain⟨k,D,rfl⟩:=e6p A;obtain⟨i1,i2,U⟩:=h.resp k k (Wy _) D;exact⟨i1,i2,(a5u _ U Z).1,a0 _ _ rfl A⟩
theorem TL.ext(h:TL I O V ws T W):∀(n t:Nat)(A:t<ws.length),ws.length-t<=n->∃x,EW T W x/\(ws[t]).length<=x.length/\x.take (ws[t]).length=ws[t]
 | 0,t,A,Z=>by omega
 | n+1,t,A,Z=>by
  by_cases hl:∀i:Nat,i<I->V (ws[t]++[(i:Int)])=none
  .exact⟨ws[t],h.ew.2 (.inr ⟨W2 A,hl⟩),Wy _,by grind⟩
  .have a0:∃i:Nat,i<I/\V (ws[t]++[(i:Int)])≠none:=by
    grind
   obtain⟨i,hi,hv⟩:=a0
   cases a1:V (ws[t]++[(i:Int)]) with
   | none=>grind
   | some o =>
    by_cases ho:o = -1
    .refine⟨ws[t]++[(i:Int)],h.ew.2 (.inl ⟨ws[t],W2 A,i,hi,by grind,rfl⟩),by grind,?_⟩;grind
    .obtain⟨Q,a2⟩:=Mt ((h.nod.mem _).2 (.inr ⟨o,a1,ho⟩));have a3:t<ws.idxOf (ws[t]++[(i:Int)]):=by
      rcases e9c t (ws.idxOf (ws[t]++[(i:Int)])) with D|D|D
      .grind
      .have:ws[t]=ws[t]++[(i:Int)]:=by
        grind
       have:=congrArg List.length this;grind
      .have U:=h.srt _ _ Q A D;rw[a2] at U;have h3:=U.le;grind
     obtain⟨x,x1,x2,x3⟩:=h.ext n _ Q (by omega);grind
end
section
variable {I:Nat}{O:Int}{V:Wd→Option Int}{ws:Wq}{T:Tq}{W:Wq}
def Ga(T:Tq)(W:Wq)(U:Lq):Prop:=∀u,u∈U↔EW T W u.1/\u.2=Bm T 0 u.1
theorem bkM_of:Ga T W (bkM T W):=λu=>by
 unfold bkM;rw[Xc];constructor
 .rintro⟨s,h,rfl⟩;exact⟨⟨s,h,rfl⟩,rfl⟩
 .rintro⟨⟨s,h,e⟩,e2⟩;grind
theorem Ga.perm{U A:Lq}(h:Ga T W U)(D:A.Perm U):Ga T W A:=λu=>(D.mem_iff).trans (h u)
theorem TL.valid(h:TL I O V ws T W)(A:1<=O){U:Lq}(D:Ga T W U):∀u∈U,Cf I O u=true:=by
 intro u Q;obtain⟨Z,h2⟩:=(D u).1 Q;obtain⟨i1,_,i3,i4⟩:=h.endr A Z;grind[b3r]
theorem TL.get(h:TL I O V ws T W)(A:1<=O){U:Lq}(D:Ga T W U){u:List Int×Wd}(Q:u∈U){k:Nat}(Z:k<u.1.length):V (u.1.take (k+1))=some (u.2.getD k 0):=by
 obtain⟨h1,h2⟩:=(D u).1 Q;rw[h2];exact(h.endr A h1).2.1 k Z
theorem TL.cons(h:TL I O V ws T W)(A:1<=O){U:Lq}(D:Ga T W U):Eb U:=by
 intro u Q t Z k hk a0 he;have h1:=h.get A D Q hk;have h2:=h.get A D Z a0;grind
theorem TL.of(h:TL I O V ws T W)(A:1<=O){U:Lq}(D:Ga T W U){y:Wd}{o:Int}(hy:valT U y=some o):V y=some o:=by
 obtain⟨u,Q,Z,g3,g4,g5⟩:=J1 hy;have a0:0<y.length:=e7y.2 Z;have h1:=h.get A D Q (k:=y.length-1) (by omega);grind
theorem TL.valU(h:TL I O V ws T W)(Q:1<=O){U:Lq}(A:Ga T W U){p:Wd}(hp:p∈ws){i:Nat}(hi:i<I):valT U (p++[(i:Int)])=V (p++[(i:Int)]):=by
 have hC:=h.cons Q A;have key:∀x,EW T W x->(p++[(i:Int)]).length<=x.length->x.take (p++[(i:Int)]).length=p++[(i:Int)]->valT U (p++[(i:Int)])=V (p++[(i:Int)]):=by
  intro x hx Z ht;have D:(x,Bm T 0 x)∈U:=(A _).2 ⟨hx,rfl⟩;rw[W0,Xg] at Z ht;have h1:=a4t hC D (k:=p.length) (by grind);have h2:=h.get Q A D (k:=p.length) (by grind);grind
 cases hv:V (p++[(i:Int)]) with
 | none =>
  cases D:valT U (p++[(i:Int)]) with
  | none=>rfl
  | some o=>rw[h.of Q A D] at hv;grind
 | some o =>
  rw[<- hv];by_cases ho:o = -1
  .exact key _ (h.ew.2 (.inl ⟨p,hp,i,hi,by grind,rfl⟩)) (Wy _) (Xn)
  .obtain⟨Z,a0⟩:=Mt ((h.nod.mem _).2 (.inr ⟨o,hv,ho⟩));obtain⟨x,x1,x2,x3⟩:=h.ext _ _ Z (Wy _);grind
theorem TL.nodU(h:TL I O V ws T W)(D:1<=O){U:Lq}(Q:Ga T W U):Bi U=ws:=by
 have hv:=h.valid D Q;have hC:=h.cons D Q;refine srt_eq (Ob hv).1 h.srt λx=>?_;rw[J2 hv hC x];constructor
 .rintro (rfl|⟨o,A,Z⟩)
  .exact h.nil
  .exact(h.nod.mem x).2 (.inr ⟨o,h.of D Q A,Z⟩)
 .intro hx;rcases (h.nod.mem x).1 hx with rfl|⟨o,A,Z⟩
  .grind
  .by_cases a0:x=[]
   .grind
   .refine .inr ⟨o,?_,Z⟩;have e:=e8f a0;rw[<- e] at hx A |-;have h3:=(h.vin _ _ _ A).1;obtain⟨i,hi⟩:∃i:Nat,x.getLast a0=(i:Int):=⟨(x.getLast a0).toNat,by omega⟩;rw[hi] at hx A h3 |-;rw[h.valU D Q (h.nod.up hx) (by omega),A]
theorem TL.rowsU(h:TL I O V ws T W)(A:1<=O){U:Lq}(D:Ga T W U):Aj I U=T:=by
 unfold Aj;rw[h.nodU A D,h.rows];unfold Bk;apply e7o;intro p Q;unfold A2;apply e7o;intro i hi;unfold Ax;rw[h.valU A D Q (e8a.1 hi)]
theorem TL.anti(h:TL I O V ws T W)(A:1<=O){x y:Wd}(hx:EW T W x)(hy:EW T W y)(hl:x.length<=y.length)(Q:y.take x.length=x):x=y:=by
 by_cases a0:x.length=y.length
 .grind
 .have D:x.length<y.length:=by omega
  have U:x∈ws:=by
   rcases h.ew.1 hy with⟨p,Z,i,hi,hv,rfl⟩|⟨hm,_⟩
   .rw[W0,Xg] at D;rw[List.take_append_of_le_length (by omega)] at Q;have:=h.nod.pre _ (p.drop x.length) rfl (x:=x) (by grind[List.take_append_drop]);grind
   .exact h.nod.pre _ (y.drop x.length) rfl (x:=x) (by
     grind[List.take_append_drop])
  have hk:=(h.endr A hy).2.1 x.length D;have a1:=(h.endr A hy).2.2.2;have ht:y.take (x.length+1)=x++[y[x.length]]:=by grind[Bv]
  rw[ht] at hk;have hr:0<=y[x.length]/\y[x.length] < (I:Int):=by
   simp_all[inW]
  rcases h.ew.1 hx with⟨p,Z,i,hi,hv,rfl⟩|⟨_,hn⟩
  .rcases (h.nod.mem _).1 U with h1|⟨o,h1,h2⟩
   all_goals grind
  .obtain⟨j,hj⟩:∃j:Nat,y[x.length]=(j:Int):=⟨(y[x.length]).toNat,by omega⟩;grind
theorem TL.count(D:1<=O){ts:Lq}(h:TL I O (valT ts) ws T W){X:Wq}(hX:∀x∈X,EW T W x)(a0:X.Nodup):X.length<=max 1 ts.length:=by
 by_cases U:[]∈X
 .have a1:∀x∈X,x∈[([]:Wd)]:=λx hx=>by
   have:=h.anti D (hX _ U) (hX x hx) (W3 _) rfl;grind
  have:=nodup_len a0 a1;grind
 .have A:∀x∈X,∃i:Nat,i<ts.length/\∃hi:i<ts.length,x.length<=(ts[i]).1.length/\(ts[i]).1.take x.length=x:=by
   intro x hx;have a5:x≠[]:=λe=>U (e ▸ hx);have a8:0<x.length:=e7y.2 a5;have Z:=(h.endr D (hX x hx)).2.1 (x.length-1) (by omega);rw[show x.length-1+1=x.length by omega,Xn] at Z;obtain⟨u,g1,g2,g3,g4,g5⟩:=J1 Z;obtain⟨i,hi,rfl⟩:=e6p g1;grind
  classical
  let f:Wd->Wd:=λx=>if hx:x∈X then [((Classical.choose (A x hx):Nat):Int)] else []
  have hf:∀x (hx:x∈X),f x=[((Classical.choose (A x hx):Nat):Int)]:=λx hx=>by grind
  have a9:∀x (hx:x∈X) y (hy:y∈X),f x=f y->x=y:=by
   intro x hx y hy he;rw[hf x hx,hf y hy] at he;have e1:Classical.choose (A x hx)=Classical.choose (A y hy):=by
    grind
   obtain⟨_,a2,a3,a4⟩:=Classical.choose_spec (A x hx);obtain⟨_,b2,b3,b4⟩:=Classical.choose_spec (A y hy);have e2:(ts[Classical.choose (A x hx)]'a2).1=(ts[Classical.choose (A y hy)]'b2).1:=by
    grind
   rw[e2] at a3 a4;generalize (ts[Classical.choose (A y hy)]'b2).1=w at *;rcases Nat.le_total x.length y.length with Q|Q
   .exact h.anti D (hX x hx) (hX y hy) Q (by grind)
   .exact(h.anti D (hX y hy) (hX x hx) Q (by grind)).symm
  have a6:(X.map f).Nodup:=by
   have:∀(l:Wq),(∀x∈l,x∈X)->l.Nodup->(l.map f).Nodup:=by
    intro l
    induction l with
    | nil=>grind
    | cons a l ih =>
     grind
   grind
  have a7:∀z∈X.map f,z∈(List.range ts.length).map λi:Nat=>[(i:Int)]:=by
   grind
  have:=nodup_len a6 a7;grind
theorem TL.short(A:1<=O){ts:Lq}(h:TL I O (valT ts) ws T W){k:Nat}(Q:∀t∈ts,t.1.length<=k){x:Wd}(hx:EW T W x):x.length<=k:=by
 by_cases D:x=[]
 .grind
 .have U:0<x.length:=e7y.2 D;have Z:=(h.endr A hx).2.1 (x.length-1) (by omega);grind[List.take_length,J1,Nat.le_trans]
end
def a5v(s t:Nat×Int):Prop:=s.1<t.1\/(s.1=t.1/\s.2<t.2)
theorem b6r(n:Nat):∀(row:List (Int×Int)) (i:Nat),(C7 n row i).Pairwise a5v/\∀s∈C7 n row i,s.1=n/\(i:Int)<=s.2
 | [],i=>⟨List.Pairwise.nil,λs h=>by cases h⟩
 | e::row,i=>by
  obtain⟨A,D⟩:=b6r n row (i+1);have Q:C7 n (e::row) i=(if e.1 = -1/\e.2 = -2 then [(n,(i:Int))] else [])++C7 n row (i+1):=rfl;rw[Q];split
  .refine⟨?_,λs h=>?_⟩
   .rw[List.singleton_append,List.pairwise_cons];refine⟨λs h=>?_,A⟩;have:=D s h;exact .inr ⟨this.1.symm,by grind⟩
   grind
  grind
theorem e4d{row:List (Int×Int)}(h:Ec row=true)(i:Nat):C7 n row i=[]:=by
 apply List.eq_nil_iff_forall_not_mem.2;intro s A;obtain⟨k,D,Q,U,_⟩:=V8.1 A;unfold Ec at h;grind
theorem endsM_pw:∀(T:Tq)(n:Nat),(endsM T n).Pairwise a5v/\∀s∈endsM T n,n<=s.1
 | [],n=>⟨List.Pairwise.nil,λs h=>by cases h⟩
 | r::T,n=>by
  obtain⟨A,U⟩:=endsM_pw T (n+1);obtain⟨Z,h4⟩:=b6r n r 0;have D:endsM (r::T) n=F8 n r++endsM T (n+1):=rfl;have Q:(F8 n r).Pairwise a5v/\∀s∈F8 n r,s.1=n:=by
   unfold F8;by_cases hl:Ec r=true
   .simp_all[e4d]
   grind
  rw[D];refine⟨List.pairwise_append.2 ⟨Q.1,A,λs h t ht=>.inl ?_⟩,λs h=>?_⟩
  all_goals grind
theorem Lab.eW_inj(D:Lab T W){s t:Nat×Int}(hs:s∈endsM T 0)(ht:t∈endsM T 0)(h:eW W s=eW W t):s=t:=by
 have key:∀(k:Nat)(Q:k<T.length)(i:Nat)(hi:i<(T[k]).length) (_:T[k][i]=(-1,-2)) (A:Nat) (_:A < T.length),W.getD A []=W.getD k []++[(i:Int)]->False:=by
  intro k Q i hi he A U Z;have h0:A≠0:=λe=>by rw[e,D.nil] at Z;simp_all
  obtain⟨p,j,hE⟩:=D.src A (by omega) U;obtain⟨_,_,_,h4⟩:=D.ed p j A hE;rw[h4] at Z;obtain⟨e1,e2⟩:=J0 Z;have e3:=D.inj hE.lt Q e1;have e4:j=i:=by omega
  subst e3 e4;obtain⟨o,hp,hj,e⟩:=hE.out;grind
 rcases M5.1 hs with⟨k,Q,i,hi,he,rfl⟩|⟨k,Q,hb,rfl⟩<;>rcases M5.1 ht with⟨A,U,i',hi',a0,rfl⟩|⟨A,U,a1,rfl⟩
 .unfold eW at h;dsimp only at h;rw[if_neg (by omega),if_neg (by omega)] at h;obtain⟨e1,e2⟩:=J0 h;have:=D.inj Q U e1;grind
 .unfold eW at h;grind
 .unfold eW at h;grind
 .unfold eW at h;dsimp only at h;simp only[if_true,e6b] at h;rw[D.inj Q U h]
theorem Lab.nodup(A:Lab T W):((bkM T W).map λu=>u.1).Nodup:=by
 unfold bkM;rw[e9e];refine List.pairwise_map.2 ?_;refine List.Pairwise.imp_of_mem (λ{a b} D Q U Z=>?_) (endsM_pw T 0).1;have:=A.eW_inj D Q Z;subst this;rcases U with h|⟨_,h⟩<;>omega
theorem Lab.srtU(h:Lab T W){U:Lq}(A:U.Perm (bkM T W))(Q:∀(i j:Nat)(_:i<j)(Z:j<U.length),¬ A4 U[j].1 (U[i]'(by omega)).1<0):B8 (U.map λu=>u.1)/\(U.map λu=>u.1).Nodup:=by
 have D:(U.map λu=>u.1).Nodup:=((A.map λu=>u.1).nodup_iff).2 h.nodup;refine⟨λa b ha hb a0=>?_,D⟩;grind[List.getElem_inj,K4,Se]
def rbk(W:Wq)(l:Wq)(E:List (Nat×Int)):Wq:=E.foldl (λl s=>Be (eW W s) l) l
theorem b6s:∀(E:List (Nat×Int)) (l:Wq),B8 l->B8 (rbk W l E)
 | [],l,h=>h
 | s::E,l,h=>b6s E _ (Vo h)
theorem V9{x:Wd}:∀(E:List (Nat×Int)) (l:Wq),x∈rbk W l E↔x∈l\/∃s∈E,x=eW W s
 | [],l=>by simp[rbk]
 | s::E,l=>by
  show x∈rbk W (Be (eW W s) l) E↔_;rw[V9 E,Po];grind
theorem b6t{w:Wd}:∀{l:Wq},(Be w l).length<=l.length+1
 | []=>by simp[Be]
 | x::l=>by
  have:=b6t (w:=w) (l:=l);unfold Be;split
  .simp
  .split<;>simp<;>omega
theorem b6u {W:Wq} : ∀ (E:List (Nat×Int)) (l:Wq),(rbk W l E).length≤l.length+E.length
 | [],l=>Wy _
 | s :: E,l=>by
  have h1:=b6u (W:=W) E (Be (eW W s) l);have h2:=b6t (w:=eW W s) (l:=l);show (rbk W (Be (eW W s) l) E).length≤l.length+(E.length+1);omega
theorem e4e{U:Lq}(A:Ga T W U)(D:B8 (U.map λu=>u.1)):(rbk W [] (endsM T 0)).map (λw=>(w,Bm T 0 w))=U:=by
 have e:rbk W [] (endsM T 0)=U.map λu=>u.1:=by
  refine srt_eq (b6s _ [] (λa b Z=>by grind)) D λx=>?_;rw[V9,Xc];constructor
  .rintro (h|⟨s,D,h⟩)
   .cases h
   .exact⟨(x,Bm T 0 x),(A _).2 ⟨⟨s,D,h⟩,rfl⟩,rfl⟩
  .rintro⟨u,Q,rfl⟩;exact .inr ((A u).1 Q).1
 rw[e,e9e];have:∀u∈U,((λw=>(w,Bm T 0 w)) ∘ λu:List Int×Wd=>u.1) u=u:=λu Q=>Prod.ext rfl ((A u).1 Q).2.symm;rw[e7o this];simp
def M7(c d:Nat)(g:Gb):Gb:=λa=>if c<a/\a≠d then g a else none
theorem b6v{c d:Nat}:∀a x,M7 c d g a=some x->g a=some x:=by
 intro a x h;unfold M7 at h;split at h
 .exact h
 .cases h
theorem Bs.two{c d:Nat}{v:AV}(h:Bs (M7 c d g) n l v):∃svs,Af g n v l.length svs/\RowsW (M7 c d g) n l svs:=
 let ⟨svs,A,D⟩:=h;⟨svs,Xz (Wy _) (λa x _ hx=>b6v a x hx) A,D⟩
theorem Bs.ext{v:AV}(h:Bs g n l v)(A:n<=n')(D:∀a x,a<n->g a=some x->g' a=some x):Bs g' n' l v:=
 let ⟨svs,Q,U⟩:=h;⟨svs,Xz A D Q,U.ext A D⟩
theorem M6.v{sv:AV}(h:M6 g n l sv):Bs g n l sv:=let ⟨svs,A,D,_⟩:=h.ex;⟨svs,A,D⟩
def RowsO(gk:Gb)(lo:Nat)(g:Gb)(n B:Nat)(ts:Lq)(cs:List AV):Prop:=
 cs.length=ts.length*2/\∀(k:Nat)(h:k<ts.length),∃s1 s2,cs[k*2]?=some s1/\cs[k*2+1]?=some s2/\Al gk lo ts[k].1 s1/\Ba g lo n B ts[k].2 s2
theorem RowsO.keep{lo B': Nat}(h:RowsO gk lo g n B ts cs)(A:n<=n')(D:n<=B'\/B'=B\/B' < lo)(Q:∀a,lo<=a->a<n->a≠B->g' a=g a):RowsO gk lo g' n' B' ts cs:=
 ⟨h.1,λk U=>let ⟨s1,s2,Z,h3,h4,h5⟩:=h.2 k U;⟨s1,s2,Z,h3,h4,h5.keep (Wy _) A D Q⟩⟩
theorem RowsO.snoc{lo:Nat}(h:RowsO gk lo g n B ts cs){t:List Int×Wd}{s1 s2:AV}(Q:Al gk lo t.1 s1)(U:Ba g lo n B t.2 s2):RowsO gk lo g n B (ts++[t]) (cs++[s1,s2]):=by
 have A:=h.1;refine⟨by simp[A];omega,λk Z=>?_⟩;rw[W0,Xg] at Z;by_cases D:k<ts.length
 .obtain⟨t1,t2,e1,e2,e3,e4⟩:=h.2 k D;refine⟨t1,t2,?_,?_,?_,?_⟩
  .rw[Xs (by omega)];exact e1
  .rw[Xs (by omega)];exact e2
  .rw[e6f D];exact e3
  .rw[e6f D];exact e4
 .have a0:k=ts.length:=by omega
  subst a0;refine⟨s1,s2,?_,?_,?_,?_⟩
  .rw[Xq (by omega),A,e6h];rfl
  .rw[Xq (by omega),A,show ts.length*2+1-ts.length*2=1 by omega];rfl
  .simpa using Q
  .simpa using U
theorem RowsO.rows{lo:Nat}(h:RowsO gk lo g n B ts cs)(D:lo<=n)(Q:∀a x,a<lo->gk a=some x->g' a=some x)(U:∀a,lo<=a->a<n->g' a=g a):RowsT g' n ts cs:=
 ⟨h.1,λk Z=>let ⟨s1,s2,A,h3,h4,h5⟩:=h.2 k Z;⟨s1,s2,A,h3,Xz D Q h4,(h5.keep (Wy _) (Wy _) (.inr (.inl rfl)) λa A h2 _=>U a A h2).rep⟩⟩
end Go.Ai
