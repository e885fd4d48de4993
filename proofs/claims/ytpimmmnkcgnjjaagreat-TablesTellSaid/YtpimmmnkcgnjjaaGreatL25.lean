/- A small verified interpreter over names, its proofs, and what was proved with it. No condition. -/
import Derived.Test.YtpimmmnkcgnjjaaGreatL24
import Derived.Test.YtpimmmnkcgnjjaaGreatL12
import Derived.Test.YtpimmmnkcgnjjaaGreatL13
import Derived.Test.YtpimmmnkcgnjjaaGreatL10
import Derived.Test.YtpimmmnkcgnjjaaGreatL23
set_option linter.all false
set_option linter.deprecated false
section
namespace Go.Ai
open Go.Proofs Go.Proofs.Tryz
set_option maxRecDepth 10000
set_option maxHeartbeats 40000000
theorem b2q.keep {g g': Gb} {n n': Nat} {T:Tq} {sv:AV} (h:b2q g n T sv) (hn:n<=n') (hg:∀ b,b<n->g' b=g b) : b2q g' n' T sv:=h.mono hn hg
end Go.Ai
end
section
namespace Go.Ai
open Go.Proofs Go.Proofs.Tryz
set_option maxRecDepth 10000
set_option maxHeartbeats 40000000
theorem nodW_len:∀ (w r:Wd) (L:Wq) (p:Wd),(nodW L p w r).length<=L.length+w.length
 | [],r,L,p=>by cases r<;>exact Dp _
 | _ :: _,[],L,p=>g5n _ _
 | i :: w,o :: r,L,p=>by
  have h1:=nodW_len w r (Bk (p++[i]) L) (p++[i]);have h2:=@c6o (p++[i]) L;unfold nodW;rw[Ek];split<;>omega
theorem d8o {ts:Lq} (h:∀ t∈ts,t.1.length<=256) : (Bv ts).length<=1+256*ts.length:=by
 have key:∀ (us:Lq) (out:Wq),(∀ t∈us,t.1.length<=256)->(us.foldl (fun out t=>nodW out [] t.1 t.2) out).length<=out.length+256*us.length:=by
  intro us
  induction us with
  | nil=>intro out _;exact Dp _
  | cons t us ih =>
   intro out hu;have h1:=ih (nodW out [] t.1 t.2) fun t ht=>hu t (by simp[ht]);have h2:=nodW_len t.1 t.2 out [];have h3:=hu t (by simp);rw[g5k,Ek];omega
 exact key ts [[]] h
end Go.Ai
end
section
namespace Go.Ai
set_option maxRecDepth 10000
structure TL (I:Nat) (O:Int) (V:Wd->Option Int) (ws:Wq) (T:Tq) (W:Wq) : Prop where
 nod:Nod V ws
 srt:Cx ws
 rows:T=Bu V ws I
 lab:Lab T W
 vin:∀ x i o,V (x++[i])=some o->(0<=i/\i<(I:Int))/\(o ≠ -1->0<=o/\o<O)
variable {I:Nat} {O:Int} {V:List Int→Option Int} {ws:List (List Int)} {T:List (List (Int×Int))} {W:List (List Int)}
theorem TL.len (h:TL I O V ws T W) : T.length=ws.length:=by rw[h.rows,a3q]
theorem TL.nil (h:TL I O V ws T W) : []∈ws:=(h.nod.mem []).2 (.inl rfl)
theorem TL.row (h:TL I O V ws T W) {k:Nat} (hk:k<ws.length) (hk2:k<T.length) : T[k]=Av V ws I ws[k]:=by
 have e:T.getD k []=Av V ws I ws[k]:=by rw[h.rows];exact c5z hk
 grind
theorem TL.ent (h:TL I O V ws T W) {k i:Nat} (hk:k<ws.length) (hk2:k<T.length) (hi:i<(T[k]).length) : i<I/\T[k][i]=Ar V ws ws[k] i:=by
 have e:=h.row hk hk2;have hi2:i<I:=by grind[a5t]
 refine⟨hi2,?_⟩;have e2:(T[k])[i]?=some (Ar V ws ws[k] i):=by grind[b4b]
 grind
theorem TL.rlen (h:TL I O V ws T W) {k:Nat} (hk2:k<T.length) : (T[k]).length=I:=by
 have hk:k<ws.length:=by rw[<- h.len];grind
 rw[h.row hk hk2,a5t]
theorem TL.edo (h:TL I O V ws T W) {p j t:Nat} {o:Int} (hE:EdO T p j t o) : ∃ (hp:p<ws.length) (ht:t<ws.length),V ws[t]=some o/\o ≠ -1/\ws[t]=ws[p]++[(j:Int)]:=by
 obtain⟨hp2,hj,e⟩:=hE;have hp:p<ws.length:=by rw[<- h.len];grind
 obtain⟨hj2,e2⟩:=h.ent hp hp2 hj;rw[e2] at e;unfold Ar at e
 cases hv:V (ws[p]++[(j:Int)]) with
 | none=>grind
 | some o' =>
  rw[hv] at e;dsimp only at e;by_cases ho:o' = -1
  ·grind
  ·rw[if_neg ho] at e;injection e with e1 e2;obtain⟨hl,hat⟩:=b2h ((h.nod.mem _).2 (.inr ⟨o',hv,ho⟩));grind
theorem TL.weq (h:TL I O V ws T W) : ∀ (n t:Nat),t<=n->∀ ht:t<ws.length,W.getD t []=ws[t]
 | n,0,_,ht=>by
  obtain⟨hl,hat⟩:=b2h h.nil;rw[h.lab.nil];have e:=f9b h.srt h.nil;grind
 | 0,t+1,hn,_=>by omega
 | n+1,t+1,hn,ht=>by
  obtain⟨p,j,hE⟩:=h.lab.src (t+1) (by omega) (by rw[h.len];grind);obtain⟨_,_,h3,h4⟩:=h.lab.ed p j _ hE;obtain⟨o,hO⟩:=hE.out;obtain⟨hp,ht2,_,_,e⟩:=h.edo hO;rw[h4,h.weq n p (by omega) hp,e]
theorem TL.resp (h:TL I O V ws T W) : ∀ (n t:Nat),t<=n->∀ ht:t<ws.length,(Bb T 0 ws[t]).length=(ws[t]).length/\(∀ k,k<(ws[t]).length->V ((ws[t]).take (k+1))=some ((Bb T 0 ws[t]).getD k 0))/\∀ o∈Bb T 0 ws[t],0<=o/\o<O
 | n,0,_,ht=>by
  have e:ws[0]=[]:=by rw[<- h.weq 0 0 (Dp _) ht];exact h.lab.nil
  rw[e];exact⟨rfl,⟨fun k hk=>(by grind),fun o ho=>(by cases ho)⟩⟩
 | 0,t+1,hn,_=>by omega
 | n+1,t+1,hn,ht=>by
  obtain⟨p,j,hE⟩:=h.lab.src (t+1) (by omega) (by rw[h.len];grind);obtain⟨_,_,h3,_⟩:=h.lab.ed p j _ hE;obtain⟨o,hO⟩:=hE.out;obtain⟨hp,ht2,hv,hne,e⟩:=h.edo hO;obtain⟨i1,i2,i3⟩:=h.resp n p (by omega) hp;have er:=d8k h.lab hO;rw[h.weq (t+1) (t+1) (Dp _) ht,h.weq p p (Dp _) hp] at er;refine⟨by grind,fun k hk=>?_,fun x hx=>?_⟩
  ·grind
  ·rw[er] at hx;rcases Eg.1 hx with h5|h5
   ·grind
   ·rw[En.1 h5];have h6:=(h.vin ws[p] (j:Int) o (by grind)).2 hne;grind
def EW (T:Tq) (W:Wq) (x:Wd) : Prop:=∃ s∈endsM T 0,x=eW W s
theorem TL.ew (h:TL I O V ws T W) {x:Wd} : EW T W x↔(∃ p∈ws,∃ i:Nat,i<I/\V (p++[(i:Int)])=some (-1)/\x=p++[(i:Int)])\/(x∈ws/\∀ i:Nat,i<I->V (x++[(i:Int)])=none):=by
 constructor
 ·rintro⟨s,hs,rfl⟩;rcases a8s.1 hs with⟨k,hk,i,hi,he,rfl⟩|⟨k,hk,hb,rfl⟩
  ·have hk2:k<ws.length:=by rw[<- h.len];grind
   obtain⟨hi2,e⟩:=h.ent hk2 hk hi;rw[he] at e;refine .inl ⟨ws[k],Dt hk2,i,hi2,?_,?_⟩
   ·unfold Ar at e;grind
   ·unfold eW;dsimp only;rw[if_neg (by omega),h.weq k k (Dp _) hk2]
  ·have hk2:k<ws.length:=by rw[<- h.len];grind
   have e0:eW W (k,-1)=ws[k]:=by unfold eW;dsimp only;rw[if_pos rfl,Ej,h.weq k k (Dp _) hk2]
   rw[e0];refine .inr ⟨Dt hk2,fun i hi=>?_⟩;have hi2:i<(T[k]).length:=by rw[h.rlen hk];grind
   obtain⟨_,e⟩:=h.ent hk2 hk hi2;unfold Dm at hb;have hb2:=of_decide_eq_true (Eb.1 hb _ (Dt hi2));rw[e] at hb2;unfold Ar at hb2;grind
 ·rintro (⟨p,hp,i,hi,hv,rfl⟩|⟨hx,hn⟩)
  ·obtain⟨k,hk2,rfl⟩:=g3m hp;have hk:k<T.length:=by rw[h.len];grind
   have hi2:i<(T[k]).length:=by rw[h.rlen hk];grind
   obtain⟨_,e⟩:=h.ent hk2 hk hi2;refine⟨(k,(i:Int)),a8s.2 (.inl ⟨k,hk,i,hi2,?_,rfl⟩),?_⟩
   ·grind[Ar]
   ·unfold eW;dsimp only;rw[if_neg (by omega),h.weq k k (Dp _) hk2]
  ·obtain⟨k,hk2,rfl⟩:=g3m hx;have hk:k<T.length:=by rw[h.len];grind
   refine⟨(k,-1),a8s.2 (.inr ⟨k,hk,?_,rfl⟩),?_⟩
   ·unfold Dm;rw[Eb];intro e he;obtain⟨i,hi,rfl⟩:=g3m he;obtain⟨hi2,e⟩:=h.ent hk2 hk hi;grind[Ar]
   ·unfold eW;dsimp only;rw[if_pos rfl,Ej,h.weq k k (Dp _) hk2]
theorem c7l {O:Int} : ∀ (r:Wd),(∀ o∈r,0<=o/\o<O)->1<=O->okR O false r=true/\okR O false (r++[-1])=true
 | [],_,hO=>⟨rfl,b0j (by omega) (by omega) (fun h=>by cases h) rfl⟩
 | o :: r,h,hO=>by
  have h1:=h o (by simp);obtain⟨i1,i2⟩:=c7l r (fun x hx=>h x (by simp[hx])) hO;refine⟨b0j (by omega) h1.2 (fun h=>by cases h) ?_,b0j (by omega) h1.2 (fun h=>by cases h) ?_⟩
  ·rw[decide_eq_false (by omega)];exact i1
  ·rw[decide_eq_false (by omega)];exact i2
theorem TL.endr (h:TL I O V ws T W) (hO:1<=O) {x:Wd} (hx:EW T W x) : (Bb T 0 x).length=x.length/\(∀ k,k<x.length->V (x.take (k+1))=some ((Bb T 0 x).getD k 0))/\okR O false (Bb T 0 x)=true/\inW x I=true:=by
 have hin:∀ (n:Nat) (y:Wd),y.length=n->y∈ws->inW y I=true:=by
  intro n
  induction n with
  | zero=>intro y hy _;rw[g5f hy];rfl
  | succ n ih =>
   intro y hy hm;have hne:y≠[]:=fun e=>by grind
   have e:=g4s hne;rw[<- e] at hm |-;rcases (h.nod.mem _).1 hm with h1|⟨o,h1,h2⟩
   ·grind
   ·have h3:=ih y.dropLast (by grind) (h.nod.up hm);have h4:=(h.vin _ _ _ h1).1;grind[inW]
 rcases h.ew.1 hx with⟨p,hp,i,hi,hv,rfl⟩|⟨hm,_⟩
 ·obtain⟨k,hk2,rfl⟩:=g3m hp;have hk:k<T.length:=by rw[h.len];grind
  have hi2:i<(T[k]).length:=by rw[h.rlen hk];grind
  obtain⟨_,e⟩:=h.ent hk2 hk hi2;have he:T[k][i]=(-1,-2):=by grind[Ar]
  have er:=d8l h.lab hk hi2 he;have e0:eW W (k,(i:Int))=ws[k]++[(i:Int)]:=by unfold eW;dsimp only;rw[if_neg (by omega),h.weq k k (Dp _) hk2]
  rw[e0,h.weq k k (Dp _) hk2] at er;obtain⟨i1,i2,i3⟩:=h.resp k k (Dp _) hk2;rw[er];refine⟨by grind,fun m hm=>?_,(c7l _ i3 hO).2,?_⟩
  ·grind
  ·have h3:=hin _ _ rfl hp;grind[inW]
 ·obtain⟨k,hk2,rfl⟩:=g3m hm;obtain⟨i1,i2,i3⟩:=h.resp k k (Dp _) hk2;exact⟨i1,i2,(c7l _ i3 hO).1,hin _ _ rfl hm⟩
theorem TL.ext (h:TL I O V ws T W) : ∀ (n t:Nat) (ht:t<ws.length),ws.length-t<=n->∃ x,EW T W x/\(ws[t]).length<=x.length/\x.take (ws[t]).length=ws[t]
 | 0,t,ht,hn=>by omega
 | n+1,t,ht,hn=>by
  by_cases hl:∀ i:Nat,i<I->V (ws[t]++[(i:Int)])=none
  ·exact⟨ws[t],h.ew.2 (.inr ⟨Dt ht,hl⟩),Dp _,by grind⟩
  ·have hex:∃ i:Nat,i<I/\V (ws[t]++[(i:Int)])≠none:=by
    grind
   obtain⟨i,hi,hv⟩:=hex
   cases hv2:V (ws[t]++[(i:Int)]) with
   | none=>grind
   | some o =>
    by_cases ho:o = -1
    ·refine⟨ws[t]++[(i:Int)],h.ew.2 (.inl ⟨ws[t],Dt ht,i,hi,by grind,rfl⟩),by grind,?_⟩;grind
    ·obtain⟨hu,hat⟩:=b2h ((h.nod.mem _).2 (.inr ⟨o,hv2,ho⟩));have hlt:t<ws.idxOf (ws[t]++[(i:Int)]):=by
      rcases g6b t (ws.idxOf (ws[t]++[(i:Int)])) with h1|h1|h1
      ·grind
      ·have:ws[t]=ws[t]++[(i:Int)]:=by
        grind
       have:=congrArg List.length this;grind
      ·have h2:=h.srt _ _ hu ht h1;rw[hat] at h2;have h3:=h2.le;grind
     obtain⟨x,x1,x2,x3⟩:=h.ext n _ hu (by omega);grind
end Go.Ai
end
section
namespace Go.Ai
set_option maxRecDepth 10000
variable {I:Nat} {O:Int} {V:List Int→Option Int} {ws:List (List Int)} {T:List (List (Int×Int))} {W:List (List Int)}
def a3t (T:Tq) (W:Wq) (U:Lq) : Prop:=∀ u,u∈U↔EW T W u.1/\u.2=Bb T 0 u.1
theorem bkM_of:a3t T W (bkM T W):=fun u=>by
 unfold bkM;rw[Ei];constructor
 ·rintro⟨s,hs,rfl⟩;exact⟨⟨s,hs,rfl⟩,rfl⟩
 ·rintro⟨⟨s,hs,e⟩,e2⟩;grind
theorem a3t.perm {U U': Lq} (h:a3t T W U) (hp:U'.Perm U) : a3t T W U':=fun u=>(hp.mem_iff).trans (h u)
theorem TL.valid (h:TL I O V ws T W) (hO:1<=O) {U:Lq} (hU:a3t T W U) : ∀ u∈U,Cn I O u=true:=by
 intro u hu;obtain⟨h1,h2⟩:=(hU u).1 hu;obtain⟨i1,_,i3,i4⟩:=h.endr hO h1;grind[c0e]
theorem TL.get (h:TL I O V ws T W) (hO:1<=O) {U:Lq} (hU:a3t T W U) {u:List Int×Wd} (hu:u∈U) {k:Nat} (hk:k<u.1.length) : V (u.1.take (k+1))=some (u.2.getD k 0):=by
 obtain⟨h1,h2⟩:=(hU u).1 hu;rw[h2];exact(h.endr hO h1).2.1 k hk
theorem TL.cons (h:TL I O V ws T W) (hO:1<=O) {U:Lq} (hU:a3t T W U) : a2j U:=by
 intro u hu t ht k hk hk2 he;have h1:=h.get hO hU hu hk;have h2:=h.get hO hU ht hk2;grind
theorem TL.of (h:TL I O V ws T W) (hO:1<=O) {U:Lq} (hU:a3t T W U) {y:Wd} {o:Int} (hy:valT U y=some o) : V y=some o:=by
 obtain⟨u,g1,g2,g3,g4,g5⟩:=a8m hy;have hpos:0<y.length:=g3n.2 g2;have h1:=h.get hO hU g1 (k:=y.length-1) (by omega);grind
theorem TL.valU (h:TL I O V ws T W) (hO:1<=O) {U:Lq} (hU:a3t T W U) {p:Wd} (hp:p∈ws) {i:Nat} (hi:i<I) : valT U (p++[(i:Int)])=V (p++[(i:Int)]):=by
 have hC:=h.cons hO hU;have key:∀ x,EW T W x->(p++[(i:Int)]).length<=x.length->x.take (p++[(i:Int)]).length=p++[(i:Int)]->valT U (p++[(i:Int)])=V (p++[(i:Int)]):=by
  intro x hx hl ht;have hu:(x,Bb T 0 x)∈U:=(hU _).2 ⟨hx,rfl⟩;rw[Dr,Em] at hl ht;have h1:=d6e hC hu (k:=p.length) (by grind);have h2:=h.get hO hU hu (k:=p.length) (by grind);grind
 cases hv:V (p++[(i:Int)]) with
 | none =>
  cases hu:valT U (p++[(i:Int)]) with
  | none=>rfl
  | some o=>rw[h.of hO hU hu] at hv;grind
 | some o =>
  rw[<- hv];by_cases ho:o = -1
  ·exact key _ (h.ew.2 (.inl ⟨p,hp,i,hi,by grind,rfl⟩)) (Dp _) (Ep)
  ·obtain⟨hl,hat⟩:=b2h ((h.nod.mem _).2 (.inr ⟨o,hv,ho⟩));obtain⟨x,x1,x2,x3⟩:=h.ext _ _ hl (Dp _);grind
theorem TL.nodU (h:TL I O V ws T W) (hO:1<=O) {U:Lq} (hU:a3t T W U) : Bv U=ws:=by
 have hv:=h.valid hO hU;have hC:=h.cons hO hU;refine srt_eq (b4c hv).1 h.srt fun x=>?_;rw[b0m hv hC x];constructor
 ·rintro (rfl|⟨o,h1,h2⟩)
  ·exact h.nil
  ·exact(h.nod.mem x).2 (.inr ⟨o,h.of hO hU h1,h2⟩)
 ·intro hx;rcases (h.nod.mem x).1 hx with rfl|⟨o,h1,h2⟩
  ·grind
  ·by_cases hne:x=[]
   ·grind
   ·refine .inr ⟨o,?_,h2⟩;have e:=g4s hne;rw[<- e] at hx h1 |-;have h3:=(h.vin _ _ _ h1).1;obtain⟨i,hi⟩ : ∃ i:Nat,x.getLast hne=(i:Int):=⟨(x.getLast hne).toNat,by omega⟩;rw[hi] at hx h1 h3 |-;rw[h.valU hO hU (h.nod.up hx) (by omega),h1]
theorem TL.rowsU (h:TL I O V ws T W) (hO:1<=O) {U:Lq} (hU:a3t T W U) : Al I U=T:=by
 unfold Al;rw[h.nodU hO hU,h.rows];unfold Bu;apply g3r;intro p hp;unfold Av;apply g3r;intro i hi;unfold Ar;rw[h.valU hO hU hp (g4l.1 hi)]
theorem TL.anti (h:TL I O V ws T W) (hO:1<=O) {x y:List Int} (hx:EW T W x) (hy:EW T W y) (hl:x.length<=y.length) (he:y.take x.length=x) : x=y:=by
 by_cases hlt:x.length=y.length
 ·grind
 ·have hl2:x.length<y.length:=by omega
  have hxw:x∈ws:=by
   rcases h.ew.1 hy with⟨p,hp,i,hi,hv,rfl⟩|⟨hm,_⟩
   ·rw[List.length_append,List.length_singleton] at hl2;rw[List.take_append_of_le_length (by omega)] at he;have:=h.nod.pre _ (p.drop x.length) rfl (x:=x) (by grind[List.take_append_drop]);grind
   ·exact h.nod.pre _ (y.drop x.length) rfl (x:=x) (by
     grind[List.take_append_drop])
  have hk:=(h.endr hO hy).2.1 x.length hl2;have hin:=(h.endr hO hy).2.2.2;have ht:y.take (x.length+1)=x++[y[x.length]]:=by grind[Cr]
  rw[ht] at hk;have hr:0<=y[x.length]/\y[x.length] < (I:Int):=by
   simp_all[inW]
  rcases h.ew.1 hx with⟨p,hp,i,hi,hv,rfl⟩|⟨_,hn⟩
  ·rcases (h.nod.mem _).1 hxw with h1|⟨o,h1,h2⟩
   all_goals grind
  ·obtain⟨j,hj⟩ : ∃ j:Nat,y[x.length]=(j:Int):=⟨(y[x.length]).toNat,by omega⟩;grind
theorem TL.count (hO:1<=O) {ts:Lq} (h:TL I O (valT ts) ws T W) {X:Wq} (hX:∀ x∈X,EW T W x) (hnd:X.Nodup) : X.length<=max 1 ts.length:=by
 by_cases h0:[]∈X
 ·have hall:∀ x∈X,x∈[([] : Wd)]:=fun x hx=>by
   have:=h.anti hO (hX _ h0) (hX x hx) (Du _) rfl;grind
  have:=nodup_len hnd hall;grind
 ·have hex:∀ x∈X,∃ i:Nat,i<ts.length/\∃ hi:i<ts.length,x.length<=(ts[i]).1.length/\(ts[i]).1.take x.length=x:=by
   intro x hx;have hne:x≠[]:=fun e=>h0 (e ▸ hx);have hpos:0<x.length:=g3n.2 hne;have h1:=(h.endr hO (hX x hx)).2.1 (x.length-1) (by omega);rw[show x.length-1+1=x.length by omega,Ep] at h1;obtain⟨u,g1,g2,g3,g4,g5⟩:=a8m h1;obtain⟨i,hi,rfl⟩:=g3m g1;grind
  classical
  let f:Wd->Wd:=fun x=>if hx:x∈X then [((Classical.choose (hex x hx) : Nat) : Int)] else []
  have hf:∀ x (hx:x∈X),f x=[((Classical.choose (hex x hx) : Nat) : Int)]:=fun x hx=>by grind
  have hinj:∀ x (hx:x∈X) y (hy:y∈X),f x=f y->x=y:=by
   intro x hx y hy he;rw[hf x hx,hf y hy] at he;have e1:Classical.choose (hex x hx)=Classical.choose (hex y hy):=by
    grind
   obtain⟨_,a2,a3,a4⟩:=Classical.choose_spec (hex x hx);obtain⟨_,b2,b3,b4⟩:=Classical.choose_spec (hex y hy);have e2:(ts[Classical.choose (hex x hx)]'a2).1=(ts[Classical.choose (hex y hy)]'b2).1:=by
    grind
   rw[e2] at a3 a4;generalize (ts[Classical.choose (hex y hy)]'b2).1=w at *;rcases Nat.le_total x.length y.length with hl|hl
   ·exact h.anti hO (hX x hx) (hX y hy) hl (by grind)
   ·exact(h.anti hO (hX y hy) (hX x hx) hl (by grind)).symm
  have hn2:(X.map f).Nodup:=by
   have:∀ (l:Wq),(∀ x∈l,x∈X)->l.Nodup->(l.map f).Nodup:=by
    intro l
    induction l with
    | nil=>grind
    | cons a l ih =>
     grind
   grind
  have hsub:∀ z∈X.map f,z∈(List.range ts.length).map fun i:Nat=>[(i:Int)]:=by
   grind
  have:=nodup_len hn2 hsub;grind
theorem TL.short (hO:1<=O) {ts:Lq} (h:TL I O (valT ts) ws T W) {k:Nat} (hk:∀ t∈ts,t.1.length<=k) {x:Wd} (hx:EW T W x) : x.length<=k:=by
 by_cases hne:x=[]
 ·grind
 ·have hpos:0<x.length:=List.length_pos_iff.2 hne
  have h1:=(h.endr hO hx).2.1 (x.length-1) (by omega)
  grind[List.take_length,a8m,Nat.le_trans]
end Go.Ai
end
section
namespace Go.Ai
set_option maxRecDepth 10000
variable {W:Wq} {T:Tq}
def c7m (s t:Nat×Int) : Prop:=s.1<t.1\/(s.1=t.1/\s.2<t.2)
theorem d8p (n:Nat) : ∀ (row:List (Int×Int)) (i:Nat),(Cb n row i).Pairwise c7m/\∀ s∈Cb n row i,s.1=n/\(i:Int)<=s.2
 | [],i=>⟨List.Pairwise.nil,fun s hs=>by cases hs⟩
 | e :: row,i=>by
  obtain⟨h1,h2⟩:=d8p n row (i+1);have e0:Cb n (e :: row) i=(if e.1 = -1/\e.2 = -2 then [(n,(i:Int))] else [])++Cb n row (i+1):=rfl;rw[e0];split
  ·refine⟨?_,fun s hs=>?_⟩
   ·rw[List.singleton_append,List.pairwise_cons];refine⟨fun s hs=>?_,h1⟩;have:=h2 s hs;exact .inr ⟨this.1.symm,by grind⟩
   grind
  grind
theorem g1s {n:Nat} {row:List (Int×Int)} (h:Dm row=true) (i:Nat) : Cb n row i=[]:=by
 apply List.eq_nil_iff_forall_not_mem.2;intro s hs;obtain⟨k,hk,h1,h2,_⟩:=c0v.1 hs;unfold Dm at h;grind
theorem endsM_pw:∀ (T:Tq) (n:Nat),(endsM T n).Pairwise c7m/\∀ s∈endsM T n,n<=s.1
 | [],n=>⟨List.Pairwise.nil,fun s hs=>by cases hs⟩
 | r :: T,n=>by
  obtain⟨h1,h2⟩:=endsM_pw T (n+1);obtain⟨h3,h4⟩:=d8p n r 0;have e0:endsM (r :: T) n=a1j n r++endsM T (n+1):=rfl;have hR:(a1j n r).Pairwise c7m/\∀ s∈a1j n r,s.1=n:=by
   unfold a1j;by_cases hl:Dm r=true
   ·simp_all[g1s]
   grind
  rw[e0];refine⟨List.pairwise_append.2 ⟨hR.1,h1,fun s hs t ht=>.inl ?_⟩,fun s hs=>?_⟩
  all_goals grind
theorem Lab.eW_inj (hL:Lab T W) {s t:Nat×Int} (hs:s∈endsM T 0) (ht:t∈endsM T 0) (h:eW W s=eW W t) : s=t:=by
 have key:∀ (k:Nat) (hk:k<T.length) (i:Nat) (hi:i<(T[k]).length) (_:T[k][i]=(-1,-2)) (k' : Nat) (_:k' < T.length),W.getD k' []=W.getD k []++[(i:Int)]->False:=by
  intro k hk i hi he k' hk' hw;have h0:k'≠0:=fun e=>by rw[e,hL.nil] at hw;simp_all
  obtain⟨p,j,hE⟩:=hL.src k' (by omega) hk';obtain⟨_,_,_,h4⟩:=hL.ed p j k' hE;rw[h4] at hw;obtain⟨e1,e2⟩:=a7c hw;have e3:=hL.inj hE.lt hk e1;have e4:j=i:=by omega
  subst e3 e4;obtain⟨o,hp,hj,e⟩:=hE.out;grind
 rcases a8s.1 hs with⟨k,hk,i,hi,he,rfl⟩|⟨k,hk,hb,rfl⟩<;>rcases a8s.1 ht with⟨k',hk',i',hi',he',rfl⟩|⟨k',hk',hb',rfl⟩
 ·unfold eW at h;dsimp only at h;rw[if_neg (by omega),if_neg (by omega)] at h;obtain⟨e1,e2⟩:=a7c h;have:=hL.inj hk hk' e1;grind
 ·unfold eW at h;grind
 ·unfold eW at h;grind
 ·unfold eW at h;dsimp only at h;simp only[if_true,Ej] at h;rw[hL.inj hk hk' h]
theorem Lab.nodup (hL:Lab T W) : ((bkM T W).map fun u=>u.1).Nodup:=by
 unfold bkM;rw[g5m];refine List.pairwise_map.2 ?_;refine List.Pairwise.imp_of_mem (fun {a b} ha hb hR he=>?_) (endsM_pw T 0).1;have:=hL.eW_inj ha hb he;subst this;rcases hR with h|⟨_,h⟩<;>omega
theorem Lab.srtU (hL:Lab T W) {U:Lq} (hp:U.Perm (bkM T W)) (hs:∀ (i j:Nat) (_:i<j) (hj:j<U.length),¬ Bl U[j].1 (U[i]'(by omega)).1<0) : Cx (U.map fun u=>u.1)/\(U.map fun u=>u.1).Nodup:=by
 have hnd:(U.map fun u=>u.1).Nodup:=((hp.map fun u=>u.1).nodup_iff).2 hL.nodup;refine⟨fun a b ha hb hab=>?_,hnd⟩;grind[List.getElem_inj,c0i,c6e]
def rbk (W:Wq) (l:Wq) (E:List (Nat×Int)) : Wq:=E.foldl (fun l s=>Bk (eW W s) l) l
theorem d8q {l:Wq} {a b:List (Nat×Int)} : rbk W l (a++b)=rbk W (rbk W l a) b:=g6c
theorem d8r : ∀ (E:List (Nat×Int)) (l:Wq),Cx l->Cx (rbk W l E)
 | [],l,h=>h
 | s :: E,l,h=>d8r E _ (c6g h)
theorem c0w {x:Wd} : ∀ (E:List (Nat×Int)) (l:Wq),x∈rbk W l E↔x∈l\/∃ s∈E,x=eW W s
 | [],l=>by simp[rbk]
 | s :: E,l=>by
  show x∈rbk W (Bk (eW W s) l) E↔_;rw[c0w E,b2k];grind
theorem d8s {w:Wd} : ∀ {l:Wq},(Bk w l).length<=l.length+1
 | []=>by simp[Bk]
 | x :: l=>by
  have:=d8s (w:=w) (l:=l);unfold Bk;split
  ·simp
  ·split<;>simp<;>omega
theorem c0x {W:Wq} : ∀ (E:List (Nat×Int)) (l:Wq),(rbk W l E).length≤l.length+E.length
 | [],l=>Dp _
 | s :: E,l=>by
  have h1:=c0x (W:=W) E (Bk (eW W s) l);have h2:=d8s (w:=eW W s) (l:=l);show (rbk W (Bk (eW W s) l) E).length≤l.length+(E.length+1);omega
theorem g1t {U:Lq} (hU:a3t T W U) (hs:Cx (U.map fun u=>u.1)) : (rbk W [] (endsM T 0)).map (fun w=>(w,Bb T 0 w))=U:=by
 have e:rbk W [] (endsM T 0)=U.map fun u=>u.1:=by
  refine srt_eq (d8r _ [] (fun a b ha=>by grind)) hs fun x=>?_;rw[c0w,Ei];constructor
  ·rintro (h|⟨s,hs,h⟩)
   ·cases h
   ·exact⟨(x,Bb T 0 x),(hU _).2 ⟨⟨s,hs,h⟩,rfl⟩,rfl⟩
  ·rintro⟨u,hu,rfl⟩;exact .inr ((hU u).1 hu).1
 rw[e,g5m];have:∀ u∈U,((fun w=>(w,Bb T 0 w)) ∘ fun u:List Int×Wd=>u.1) u=u:=fun u hu=>Prod.ext rfl ((hU u).1 hu).2.symm;rw[g3r this];simp
end Go.Ai
end
section
namespace Go.Ai
set_option maxRecDepth 10000
def b2r (T:Tq) : Int->Wd->Prop
 | _,[]=>True
 | x,i :: y=>∃ (a j:Nat) (ha:a<T.length) (hj:j<(T[a]).length),x=(a:Int)/\i=(j:Int)/\((T[a][j]).1 = -1\/b2r T (T[a][j]).1 y)
theorem c7n {T:Tq} {W:Wq} (hL:Lab T W) : ∀ (n t:Nat),t<=n->t<T.length->∀ y,b2r T ((t:Nat) : Int) y->b2r T 0 (W.getD t []++y)
 | n,0,_,_,y,h=>by rw[hL.nil];exact h
 | 0,t+1,h,_,_,_=>by omega
 | n+1,t+1,h,hl,y,hy=>by
  obtain⟨p,j,hE⟩:=hL.src (t+1) (by omega) hl;obtain⟨_,_,h3,h4⟩:=hL.ed p j _ hE;obtain⟨o,hp,hj,e⟩:=hE.out;rw[h4,Er];refine c7n hL n p (by omega) hE.lt _ ⟨p,j,hp,hj,rfl,rfl,.inr ?_⟩;simp_all
theorem g1u {T:Tq} {W:Wq} (hL:Lab T W) {w:Wd} (hw:w∈rbk W [] (endsM T 0)) : b2r T 0 w:=by
 rcases (c0w _ _).1 hw with h|⟨s,hs,rfl⟩
 ·cases h
 ·unfold eW;rcases a8s.1 hs with⟨k,hk,i,hi,he,rfl⟩|⟨k,hk,_,rfl⟩
  ·dsimp only;rw[if_neg (by omega)];exact c7n hL k k (Dp _) hk _ ⟨k,i,hk,hi,rfl,rfl,.inl (by rw[he])⟩
  ·dsimp only;rw[if_pos rfl];exact c7n hL k k (Dp _) hk _ trivial
end Go.Ai
end
section
namespace Go.Ai
open Go.Proofs Go.Proofs.Tryz
set_option maxRecDepth 10000
set_option maxHeartbeats 40000000
variable {g g':Gb} {c d n n':Nat} {l:Wq}
def Bo (c d:Nat) (g:Gb) : Gb:=fun a=>if c<a/\a≠d then g a else none
theorem b7d : ∀ a x,Bo c d g a=some x->g a=some x:=by
 intro a x h;unfold Bo at h;split at h
 ·exact h
 ·cases h
theorem d8t (hg:∀ a,a<n->c<a->a≠d->g' a=g a) : ∀ a x,a<n->Bo c d g a=some x->Bo c d g' a=some x:=by
 intro a x hn h;unfold Bo at h |-;split at h
 ·rename_i h1;rw[if_pos h1,hg a hn h1.1 h1.2];exact h
 ·cases h
theorem Ag.keepTo {len:Nat} {v:AV} {cs:List AV} (h:Ag (Bo c d g) n v len cs) (hn:n<=n') (hg:∀ a,a<n->c<a->a≠d->g' a=g a) : Ag (Bo c d g') n' v len cs:=Ag.ext hn (d8t hg) h
theorem Ag.keepOut {len:Nat} {v:AV} {cs:List AV} (h:Ag (Bo c d g) n v len cs) (hn:n<=n') (hg:∀ a,a<n->c<a->a≠d->g' a=g a) : Ag g' n' v len cs:=Ag.ext (Dp _) (fun a x _ hx=>b7d a x hx) (h.keepTo hn hg)
theorem Bt.two {v:AV} (h:Bt (Bo c d g) n l v) : ∃ svs,Ag g n v l.length svs/\RowsW (Bo c d g) n l svs :=
 let ⟨svs,h1,h2⟩:=h;⟨svs,Ag.ext (Dp _) (fun a x _ hx=>b7d a x hx) h1,h2⟩
theorem Bt.keepTo {v:AV} (h:Bt (Bo c d g) n l v) (hn:n<=n') (hg:∀ a,a<n->c<a->a≠d->g' a=g a) : Bt (Bo c d g') n' l v :=
 let ⟨svs,h1,h2⟩:=h;⟨svs,h1.keepTo hn hg,h2.ext hn (d8t hg)⟩
theorem Bt.ext {v:AV} (h:Bt g n l v) (hn:n<=n') (hg:∀ a x,a<n->g a=some x->g' a=some x) : Bt g' n' l v :=
 let ⟨svs,h1,h2⟩:=h;⟨svs,Ag.ext hn hg h1,h2.ext hn hg⟩
theorem Bt.keepOut {v:AV} (h:Bt (Bo c d g) n l v) (hn:n<=n') (hg:∀ a,a<n->c<a->a≠d->g' a=g a) : Bt g' n' l v :=
 (h.keepTo hn hg).ext (Dp _) fun a x _ hx=>b7d a x hx
end Go.Ai
end
section
namespace Go.Ai
open Go.Proofs Go.Proofs.Tryz
set_option maxRecDepth 10000
set_option maxHeartbeats 40000000
variable {g gk:Gb} {n B:Nat} {cs:List AV} {ts:Lq}
theorem a5x.v {l:Wq} {sv:AV} (h:a5x g n l sv) : Bt g n l sv:=let ⟨svs,h1,h2,_⟩:=h.ex;⟨svs,h1,h2⟩
theorem Ag.lowOut {c:Nat} {len:Nat} {v:AV} (h:Ag (a8t c g) n v len cs) : Ag g n v len cs:=Ag.ext (Dp _) (fun a x _ hx=>by
 unfold a8t at hx;split at hx
 ·exact hx
 ·cases hx) h
theorem g1v {c d b nX len:Nat} {w:Wd} (hb:b<nX) (hc:c<b) (hd:b≠d) (h:g b=some (.cells (wdC w) true 1)) (hl:len=w.length) : Ak (Bo c d g) nX w (.slq b 0 len 0) :=
 .inr ⟨b,0,hb,.inr ⟨0,by rw[hl]⟩,_,true,1,(if_pos ⟨hc,hd⟩).trans h,by simp[*]⟩
def RowsO (gk:Gb) (lo:Nat) (g:Gb) (n B:Nat) (ts:Lq) (cs:List AV) : Prop :=
 cs.length=ts.length*2/\∀ (k:Nat) (h:k<ts.length),∃ s1 s2,cs[k*2]?=some s1/\cs[k*2+1]?=some s2/\Ak gk lo ts[k].1 s1/\Bj g lo n B ts[k].2 s2
theorem RowsO.keep {g': Gb} {lo n' B': Nat} (h:RowsO gk lo g n B ts cs) (h2:n<=n') (hB:n<=B'\/B'=B\/B' < lo) (hg:∀ a,lo<=a->a<n->a≠B->g' a=g a) : RowsO gk lo g' n' B' ts cs :=
 ⟨h.1,fun k hk=>let ⟨s1,s2,h1,h3,h4,h5⟩:=h.2 k hk;⟨s1,s2,h1,h3,h4,h5.keep (Dp _) h2 hB hg⟩⟩
theorem RowsO.snoc {lo:Nat} (h:RowsO gk lo g n B ts cs) {t:List Int×Wd} {s1 s2:AV} (h1:Ak gk lo t.1 s1) (h2:Bj g lo n B t.2 s2) : RowsO gk lo g n B (ts++[t]) (cs++[s1,s2]):=by
 have hl:=h.1;refine⟨by simp[hl];omega,fun k hk=>?_⟩;rw[Dr,Em] at hk;by_cases hlt:k<ts.length
 ·obtain⟨t1,t2,e1,e2,e3,e4⟩:=h.2 k hlt;refine⟨t1,t2,?_,?_,?_,?_⟩
  ·rw[Ew (by omega)];exact e1
  ·rw[Ew (by omega)];exact e2
  ·rw[Ey hlt];exact e3
  ·rw[Ey hlt];exact e4
 ·have hk2:k=ts.length:=by omega
  subst hk2;refine⟨s1,s2,?_,?_,?_,?_⟩
  ·rw[Eu (by omega),hl,g2o];rfl
  ·rw[Eu (by omega),hl,show ts.length*2+1-ts.length*2=1 by omega];rfl
  ·simpa using h1
  ·simpa using h2
theorem RowsO.rows {g': Gb} {lo:Nat} (h:RowsO gk lo g n B ts cs) (hn:lo<=n) (hg:∀ a x,a<lo->gk a=some x->g' a=some x) (hg2:∀ a,lo<=a->a<n->g' a=g a) : RowsT g' n ts cs :=
 ⟨h.1,fun k hk=>let ⟨s1,s2,h1,h3,h4,h5⟩:=h.2 k hk;⟨s1,s2,h1,h3,Ag.ext hn hg h4,(h5.keep (Dp _) (Dp _) (.inr (.inl rfl)) fun a h1 h2 _=>hg2 a h1 h2).rep⟩⟩
end Go.Ai
end

