/- A small verified interpreter over names, its proofs, and what was proved with it. No condition. -/
import Derived.Test.YtpimmmnkcgnjjaaGreatO08
import Derived.Test.YtpimmmnkcgnjjaaGreatO05
set_option linter.all false
set_option linter.deprecated false
section
namespace Go.Ai
set_option maxRecDepth 10000
variable {ws os:Wq} {V:Wd→Option Int} {O:Int} {I n:Nat} {w:Wd}
def Dl (ws:Wq) : Prop:=∀ (a b:Nat) (ha:a<ws.length) (hb:b<ws.length),a<b->SL ws[a] ws[b]
theorem Dl.nodup (h:Dl ws) : ws.Nodup :=
 List.pairwise_iff_getElem.2 fun i j hi hj hij e=>by
  have h1:=h i j hi hj hij;grind[SL.irrefl]
theorem Dl.snoc (h:Dl ws) {x:Wd} (hx:∀ w∈ws,SL w x) : Dl (ws++[x]):=by
 intro a b ha hb hab;rw[Dr,Ef] at ha hb;by_cases hb2:b<ws.length
 ·rw[g4e (by omega),g4e hb2];exact h a b (by omega) hb2 hab
 grind
def chL (V:Wd->Option Int) (w:Wd) : List Nat->Wq
 | []=>[]
 | i :: l=>match V (w++[(i:Int)]) with
  | none=>chL V w l
  | some o=>if o = -1 then chL V w l else (w++[(i:Int)]) :: chL V w l
theorem b7w {V:Wd->Option Int} {w x:Wd} : ∀ {l:List Nat},x∈chL V w l↔∃ i∈l,x=w++[(i:Int)]/\∃ o,V x=some o/\o ≠ -1
 | []=>by simp[chL]
 | i :: l=>by
  have ih:=@b7w V w x l;unfold chL;grind
def numE:Nat->List (Int×Int)->List (Int×Int)
 | _,[]=>[]
 | k,e :: es=>if e.1 = -1 then e :: numE k es else ((k:Int),e.2) :: numE (k+1) es
theorem c1f {V:Wd→Option Int} {ws:Wq} {w:Wd} : ∀ (l:List Nat) (os:Wq),l.Nodup→(∀ i∈l,w++[(i:Int)] ∉ os)→numE os.length (l.map (Ay V ws w))=l.map (Ay V (os++chL V w l) w)
 | [],_,_,_=>rfl
 | i :: l,os,hn,hos=>by
  have hn':=List.nodup_cons.1 hn;rw [g4j,g4j];unfold chL
  cases h:V (w++[(i:Int)]) with
  | none =>
   have e1:∀ us,Ay V us w i=(-1,-1):=fun us=>by unfold Ay; rw [h]
   rw [e1,e1];show (-1,-1) :: numE os.length (l.map (Ay V ws w))=_;rw [c1f l os hn'.2 fun j hj=>hos j (by simp [hj])]
  | some o =>
   dsimp only;by_cases ho:o = -1
   ·simp_all [Ay,numE,c1f]
   ·rw [if_neg ho];have e1:∀ us,Ay V us w i=(((us.idxOf (w++[(i:Int)]) : Nat) : Int),o):=fun us=>by simp_all [Ay]
    rw [e1,e1];have e2:(os++(w++[(i:Int)]) :: chL V w l).idxOf (w++[(i:Int)])=os.length:=by
     grind
    rw [e2];have e3:numE os.length ((((ws.idxOf (w++[(i:Int)]) : Nat) : Int),o) :: l.map (Ay V ws w))=((os.length:Int),o) :: numE (os.length+1) (l.map (Ay V ws w)):=by
     rfl
    rw [e3];have ih:=c1f (V:=V) (ws:=ws) (w:=w) l (os++[w++[(i:Int)]]) hn'.2 fun j hj hm=>by
     rcases Ed.1 hm with h1 | h1
     ·grind
     ·have:=(b2v (Ek.1 h1)).2;have e:j=i:=by omega
      grind
    grind
theorem c1g (hV:∀ x o,V x=some o->o ≠ -1->0<=o/\o<O) : ∀ (l:List Nat) (k:Nat),goE O (numE k (l.map (Ay V ws w))) k=some (k+(chL V w l).length)
 | [],_=>rfl
 | i :: l,k=>by
  rw[g4j];unfold chL
  cases h:V (w++[(i:Int)]) with
  | none =>
   have e1:Ay V ws w i=(-1,-1):=by grind[Ay]
   rw[e1];show goE O ((-1,-1) :: numE k (l.map (Ay V ws w))) k=_;exact c1g hV l k
  | some o =>
   dsimp only;by_cases ho:o = -1
   ·rw[if_pos ho];have e1:Ay V ws w i=(-1,-2):=by simp_all[Ay]
    rw[e1];show goE O ((-1,-2) :: numE k (l.map (Ay V ws w))) k=_;exact c1g hV l k
   ·rw[if_neg ho];have e1:Ay V ws w i=(((ws.idxOf (w++[(i:Int)]) : Nat) : Int),o):=by simp_all[Ay]
    rw[e1];have e3:numE k ((((ws.idxOf (w++[(i:Int)]) : Nat) : Int),o) :: l.map (Ay V ws w))=((k:Int),o) :: numE (k+1) (l.map (Ay V ws w)):=by
     rfl
    rw[e3];have hb:=hV _ _ h ho;have e4:a1w O k ((k:Int),o)=some (k+1):=by
     unfold a1w;grind
    show (match a1w O k ((k:Int),o) with|none=>none|some nx=>goE O (numE (k+1) (l.map (Ay V ws w))) nx)=_;rw[e4];dsimp only;rw[c1g hV l (k+1),Ej];congr 1;omega
theorem d6c {I:Int} {r:List (Int×Int)} : ∀ (l:Tq) (n nx k k' : Nat),goT I O l n nx=some k->(r.length:Int)=I->n+l.length<k->goE O r k=some k'->goT I O (l++[r]) n nx=some k'
 | [],n,nx,k,k',h,h1,h2,h3=>by
  have e:nx=k:=Option.some.inj h;simp_all[goT]
 | a :: l,n,nx,k,k',h,h1,h2,h3=>by
  have h' : (if (a.length:Int)=I/\n<nx then (match goE O a nx with|none=>none|some q=>goT I O l (n+1) q) else none)=some k:=h;show (if (a.length:Int)=I/\n<nx then (match goE O a nx with|none=>none|some q=>goT I O (l++[r]) (n+1) q) else none)=_;split at h'
  ·rename_i hc;rw[if_pos hc]
   cases hq:goE O a nx with
   | none=>rw[hq] at h';cases h'
   | some q =>
    rw[hq] at h';exact d6c l (n+1) q k k' h' h1 (by rw[Ej] at h2;omega) h3
  grind
structure Bfs (V:Wd->Option Int) (ws:Wq) (I:Nat) (O:Int) (n:Nat) (os:Wq) : Prop where
 srt:Dl os
 sub:∀ x∈os,x∈ws
 le:n<=os.length
 hd:os[0]?=some []
 ch:∀ (m:Nat) (h:m<os.length),m<n->∀ x∈chL V os[m] (List.range I),x∈os
 par:∀ x∈os,x=[]\/∃ (m:Nat) (h:m<os.length),m<n/\∃ i:Int,x=os[m]++[i]
 go:goT I O ((os.take n).map (Bd V os I)) 0 1=some os.length
theorem Bfs.zero (h:[]∈ws) : Bfs V ws I O 0 [[]] :=
 ⟨fun a b ha hb hab=>by grind,fun x hx=>by grind,by simp,rfl,fun m h hm=>by omega,fun x hx=>.inl (Ek.1 hx),rfl⟩
theorem c1h {V:Wd→Option Int} {w:Wd} : ∀ (l:List Nat) (os:Wq),Dl os→l.Pairwise (· < ·)→(∀ x∈os,∀ i∈l,SL x (w++[(i:Int)]))→Dl (os++chL V w l)
 | [],os,h,_,_=>by grind [chL]
 | i :: l,os,h,hp,hx=>by
  have hp':=List.pairwise_cons.1 hp;unfold chL
  cases hv:V (w++[(i:Int)]) with
  | none=>exact c1h l os h hp'.2 fun x hx' j hj=>hx x hx' j (by simp [hj])
  | some o =>
   dsimp only;split
   ·exact c1h l os h hp'.2 fun x hx' j hj=>hx x hx' j (by simp [hj])
   ·have h1:=c1h (V:=V) (w:=w) l (os++[w++[(i:Int)]]) (h.snoc fun x hx'=>hx x hx' i (by simp)) hp'.2 fun x hx' j hj=>by
     rcases Ed.1 hx' with h2 | h2
     ·exact hx x h2 j (by simp [hj])
     ·rw [Ek.1 h2];exact SL.last w (by have:=hp'.1 j hj; omega)
    rwa [g4q] at h1
theorem d6d {us:Wq} (h:∀ x∈chL V w (List.range I),x∈os) : Bd V (os++us) I w=Bd V os I w:=by
 unfold Bd;apply g5w;intro i hi;unfold Ay
 cases hv:V (w++[(i:Int)]) with
 | none=>rfl
 | some o =>
  dsimp only;split
  ·rfl
  ·rename_i ho;rw[d5u (h _ (b7w.2 ⟨i,hi,rfl,o,hv,ho⟩))]
theorem Bfs.step (h:Bfs V ws I O n os) (hN:Nod V ws) (hV:∀ x o,V x=some o->o ≠ -1->0<=o/\o<O) (hn:n<os.length) :
  Bfs V ws I O (n+1) (os++chL V os[n] (List.range I))/\numE os.length (Bd V ws I os[n])=Bd V (os++chL V os[n] (List.range I)) I os[n]:=by
 have hgt:∀ x∈os,∀ i∈List.range I,SL x (os[n]++[(i:Int)]):=fun x hx i _=>by
  rcases h.par x hx with rfl|⟨m,hm,hmn,j,rfl⟩
  ·grind[SL.nil]
  ·exact(h.srt m n hm hn hmn).app j i
 have hnot:∀ i∈List.range I,os[n]++[(i:Int)] ∉ os:=fun i hi hm=>SL.irrefl (hgt _ hm i hi);have hnum:=c1f (V:=V) (ws:=ws) (w:=os[n]) (List.range I) os List.nodup_range hnot;have hnum' : numE os.length (Bd V ws I os[n])=Bd V (os++chL V os[n] (List.range I)) I os[n]:=hnum;refine⟨⟨c1h _ _ h.srt List.pairwise_lt_range hgt,fun x hx=>?_,?_,?_,fun m hm hmn x hx=>?_,fun x hx=>?_,?_⟩,hnum⟩
 ·rcases Ed.1 hx with h1|h1
  ·exact h.sub x h1
  ·obtain⟨i,_,_,o,h2,h3⟩:=b7w.1 h1;exact(hN.mem x).2 (.inr ⟨o,h2,h3⟩)
 ·grind
 ·rw[g3t (by omega)];exact h.hd
 ·rw[Ed];by_cases hmn2:m<n
  ·rw[g4e (by omega)] at hx;exact .inl (h.ch m (by omega) hmn2 x hx)
  grind
 ·rcases Ed.1 hx with h1|h1
  ·rcases h.par x h1 with h2|⟨m,hm,hmn,j,h2⟩
   ·grind
   ·exact .inr ⟨m,by grind,by omega,j,by grind⟩
  ·obtain⟨i,_,h2,_⟩:=b7w.1 h1;exact .inr ⟨n,by grind,by omega,i,by grind⟩
 ·have e1:(os++chL V os[n] (List.range I)).take (n+1)=os.take n++[os[n]]:=by
   grind[a2l]
  have e2:(os.take n).map (Bd V (os++chL V os[n] (List.range I)) I)=(os.take n).map (Bd V os I):=by
   apply g5w;intro w hw;obtain⟨m,hm,rfl⟩:=g3y.1 hw;rw[Du] at hm;rw[g4s];exact d6d fun x hx=>h.ch m (by omega) (by omega) x hx
  rw[e1,g3z,e2,g5v,<- hnum'];refine d6c _ 0 1 os.length _ h.go ?_ ?_ ?_
  ·grind[b2u]
  ·grind
  ·rw[Dr];exact c1g hV _ _
theorem Bfs.rows (h:Bfs V ws I O n os) (us:Wq) : (os.take n).map (Bd V (os++us) I)=(os.take n).map (Bd V os I):=by
 apply g5w;intro w hw;obtain⟨m,hm,rfl⟩:=g3y.1 hw;rw[Du] at hm;rw[g4s];exact d6d fun x hx=>h.ch m (by omega) (by omega) x hx
theorem nodup_len:∀ {a b:Wq},a.Nodup->(∀ x∈a,x∈b)->a.length<=b.length
 | [],b,_,_=>Dt _
 | x :: a,b,hn,hs=>by
  have hn':=List.nodup_cons.1 hn;have hx:=hs x (by simp);have h1:=@nodup_len a (b.erase x) hn'.2 fun y hy=>(List.mem_erase_of_ne (fun e=>hn'.1 (by grind))).2 (hs y (by grind));grind
theorem Bfs.len (h:Bfs V ws I O n os) : os.length<=ws.length:=nodup_len h.srt.nodup h.sub
theorem Bfs.done (h:Bfs V ws I O os.length os) (hN:Nod V ws) (hI:∀ (x:Wd) (i o:Int),V (x++[i])=some o->0<=i/\i<(I:Int)) : Nod V os:=by
 have hall:∀ (k:Nat) (x:Wd),x.length=k->x∈ws->x∈os:=by
  intro k
  induction k with
  | zero =>
   intro x hx _;rw[g3r.1 hx];exact En h.hd
  | succ k ih =>
   intro x hx hm;have hne:x≠[]:=fun e=>by grind
   have e:=g6m hne;have hd:x.dropLast∈os:=ih x.dropLast (by grind) (hN.up (by rw[e];grind));obtain⟨m,hm2,hm3⟩:=g3y.1 hd;rcases (hN.mem x).1 hm with h1|⟨o,h1,h2⟩
   ·grind
   ·have h3:=hI x.dropLast (x.getLast hne) o (by grind);refine h.ch m hm2 hm2 x (b7w.2 ⟨(x.getLast hne).toNat,?_,?_,o,h1,h2⟩)
    all_goals grind
 refine⟨h.srt.nodup,fun w=>?_,hN.clo⟩;rw[<- hN.mem w];exact⟨h.sub w,hall _ w rfl⟩
theorem srt_eq:∀ {a b:Wq},Dl a->Dl b->(∀ x,x∈a↔x∈b)->a=b
 | [],[],_,_,_=>rfl
 | [],y :: b,_,_,h=>by have:=(h y).2 (by simp);grind
 | x :: a,[],_,_,h=>by have:=(h x).1 (by simp);grind
 | x :: a,y :: b,ha,hb,h=>by
  have hxa:∀ z∈a,SL x z:=fun z hz=>by
   obtain⟨i,hi,rfl⟩:=g3y.1 hz;exact ha 0 (i+1) (by simp) (by grind) (by omega)
  have hyb:∀ z∈b,SL y z:=fun z hz=>by
   obtain⟨i,hi,rfl⟩:=g3y.1 hz;exact hb 0 (i+1) (by simp) (by grind) (by omega)
  have e:x=y:=by
   rcases Dv.1 ((h x).1 (by simp)) with h1|h1
   ·exact h1
   ·rcases Dv.1 ((h y).2 (by simp)) with h2|h2
    ·exact h2.symm
    ·exact absurd ((hyb x h1).trans (hxa y h2)) SL.irrefl
  subst e;have ta:Dl a:=fun i j hi hj hij=>ha (i+1) (j+1) (by simpa using hi) (by simpa using hj) (by omega);have tb:Dl b:=fun i j hi hj hij=>hb (i+1) (j+1) (by simpa using hi) (by simpa using hj) (by omega);rw[srt_eq ta tb fun z=>?_];constructor
  ·intro hz;rcases Dv.1 ((h z).1 (by simp[hz])) with h1|h1
   ·subst h1;exact absurd (hxa z hz) SL.irrefl
   ·exact h1
  ·intro hz;rcases Dv.1 ((h z).2 (by simp[hz])) with h1|h1
   ·subst h1;exact absurd (hyb z hz) SL.irrefl
   ·exact h1
end Go.Ai
end
section
namespace Go.Ai
set_option maxRecDepth 10000
variable {O I:Int} {ts:Lq} {a b:Wd}
theorem lexC_zero:∀ {a b:List Int},a.length=b.length->lexC a b=0->a=b
 | [],[],_,_=>rfl
 | [],_ :: _,h,_=>by grind
 | _ :: _,[],h,_=>by grind
 | x :: a,y :: b,hl,h=>by
  unfold lexC at h;by_cases h1:x<y
  ·grind
  ·rw[if_neg h1] at h;by_cases h2:y<x
   ·grind
   ·rw[if_neg h2] at h;rw[lexC_zero (by simpa using hl) h,show x=y by omega]
theorem lexC_pos:∀ {a b:List Int},a.length=b.length->0<lexC a b->LL b a
 | [],[],_,h=>by grind[lexC]
 | [],_ :: _,h,_=>by grind
 | _ :: _,[],h,_=>by grind
 | x :: a,y :: b,hl,h=>by
  unfold lexC at h;by_cases h1:x<y
  ·grind
  ·rw[if_neg h1] at h;by_cases h2:y<x
   ·exact .inl h2
   ·rw[if_neg h2] at h;exact .inr ⟨by omega,lexC_pos (by grind) h⟩
theorem b4o (h:Bh a b=0) : a=b:=by
 grind[Bh,lexC_zero]
theorem c6u (h:0<Bh a b) : SL b a:=by
 unfold Bh at h;split at h
 ·omega
 ·split at h
  ·rename_i h2;exact .inl h2
  ·exact .inr ⟨by omega,lexC_pos (by omega) h⟩
def Bv (w:Wd) : Wq->Wq
 | []=>[w]
 | x :: l=>if Bh w x<0 then w :: x :: l else if Bh w x=0 then x :: l else x :: Bv w l
theorem b7x {w:Wd} : ∀ {l:Wq} {x:Wd},x∈Bv w l↔x=w\/x∈l
 | [],x=>by simp[Bv]
 | y :: l,x=>by
  have ih:=@b7x w l x;unfold Bv;split
  ·grind
  ·split
   ·rename_i h;rw[b4o h];grind
   grind
theorem c1i {x:Wd} {l:Wq} : Dl (x :: l)↔(∀ y∈l,SL x y)/\Dl l:=by
 constructor
 ·intro h;refine⟨fun y hy=>?_,fun a b ha hb hab=>h (a+1) (b+1) (by grind) (by grind) (by omega)⟩;obtain⟨i,hi,rfl⟩:=g3y.1 hy;exact h 0 (i+1) (by simp) (by grind) (by omega)
 ·rintro⟨h1,h2⟩ a b ha hb hab
  cases b with
  | zero=>omega
  | succ b =>
   cases a with
   | zero=>grind
   | succ a=>exact h2 a b (by grind) (by grind) (by omega)
theorem c6v {w:Wd} : ∀ {l:Wq},Dl l->Dl (Bv w l)
 | [],_=>fun a b ha hb hab=>by grind[Bv]
 | y :: l,h=>by
  obtain⟨h1,h2⟩:=c1i.1 h;unfold Bv;split
  ·rename_i h3;refine c1i.2 ⟨fun z hz=>?_,h⟩;rcases Dv.1 hz with rfl|hz
   ·grind[a3w]
   ·exact(a3w.1 h3).trans (h1 z hz)
  ·split
   ·exact h
   ·refine c1i.2 ⟨fun z hz=>?_,c6v h2⟩;rcases b7x.1 hz with rfl|hz
    all_goals grind[c6u]
def nodW:Wq->Wd->Wd->Wd->Wq
 | out,p,i :: w,o :: r=>if o = -1 then out else nodW (Bv (p++[i]) out) (p++[i]) w r
 | out,_,_,_=>out
theorem nodW_srt:∀ (w r:Wd) (out:Wq) (p:Wd),Dl out->Dl (nodW out p w r)
 | [],_,_,_,h=>h
 | _ :: _,[],_,_,h=>h
 | i :: w,o :: r,out,p,h=>by
  unfold nodW;split
  ·exact h
  ·exact nodW_srt w r _ _ (c6v h)
theorem d6e : ∀ (w r:Wd) (out:Wq) (p x:Wd),r.length=w.length->okR O false r=true->(x∈nodW out p w r↔x∈out\/∃ k,k<w.length/\r.getD k 0 ≠ -1/\x=p++w.take (k+1))
 | [],_,_,_,_,_,_=>⟨fun h=>.inl h,fun h=>h.elim id fun⟨k,h1,_⟩=>by grind⟩
 | _ :: _,[],_,_,_,h,_=>by cases h
 | i :: w,o :: r,out,p,x,hl,hr=>by
  obtain⟨_,_,_,h4⟩:=b4j hr;unfold nodW;by_cases ho:o = -1
  ·rw[if_pos ho];rw[decide_eq_true ho] at h4;constructor
   ·grind
   ·rintro (h|⟨k,h1,h2,_⟩)
    ·exact h
    ·cases k with
     | zero=>grind
     | succ k=>exact absurd (c6r r k h4 (by grind)) h2
  ·rw[if_neg ho,d6e w r _ _ x (by grind) (by rw[decide_eq_false ho] at h4;omega),b7x];constructor
   ·rintro ((h|h)|⟨k,h1,h2,h3⟩)
    ·exact .inr ⟨0,by simp,ho,by grind⟩
    ·grind
    ·exact .inr ⟨k+1,by grind,h2,by grind⟩
   grind[d5x]
def Ck (ts:Lq) : Wq:=ts.foldl (fun out t=>nodW out [] t.1 t.2) [[]]
theorem c6w (hv:∀ t∈ts,a1a I O t=true) : Dl (Ck ts)/\∀ x,x∈Ck ts↔x=[]\/∃ t∈ts,∃ k,k<t.1.length/\t.2.getD k 0 ≠ -1/\x=t.1.take (k+1):=by
 have key:∀ (us:Lq) (out:Wq),(∀ t∈us,a1a I O t=true)->Dl out->Dl (us.foldl (fun out t=>nodW out [] t.1 t.2) out)/\∀ x,x∈us.foldl (fun out t=>nodW out [] t.1 t.2) out↔x∈out\/∃ t∈us,∃ k,k<t.1.length/\t.2.getD k 0 ≠ -1/\x=t.1.take (k+1):=by
  intro us
  induction us with
  | nil=>grind
  | cons t us ih =>
   intro out h1 h2;rw[List.foldl_cons];have hvt:=h1 t (by simp);unfold a1a at hvt;rw[Dq,Dq] at hvt;obtain⟨h3,h4⟩:=ih (nodW out [] t.1 t.2) (fun u hu=>h1 u (by grind)) (nodW_srt _ _ _ _ h2);refine⟨h3,fun x=>?_⟩;rw[h4 x,d6e t.1 t.2 out [] x (of_decide_eq_true hvt.1.1) hvt.2];constructor
   ·rintro ((h|⟨k,h5,h6,h7⟩)|⟨u,hu,h5⟩)
    all_goals grind
   ·rintro (h|⟨u,hu,k,h5⟩)
    all_goals grind
 obtain⟨h1,h2⟩:=key ts [[]] hv fun a b ha hb hab=>by grind
 refine⟨h1,fun x=>?_⟩;rw[show Ck ts=ts.foldl (fun out t=>nodW out [] t.1 t.2) [[]] from rfl,h2 x,Ek]
theorem b4p (hv:∀ t∈ts,a1a I O t=true) (hc:a5l ts) (x:Wd) : x∈Ck ts↔x=[]\/∃ o,valT ts x=some o/\o ≠ -1:=by
 rw[(c6w hv).2 x];constructor
 ·rintro (h|⟨t,ht,k,h1,h2,rfl⟩)
  all_goals simp_all[f9l]
 ·rintro (h|⟨o,h1,h2⟩)
  ·grind
  ·obtain⟨u,g1,g2,g3,g4,g5⟩:=b4n h1;grind
def a0g (I:Nat) (ts:Lq) : Tq:=Co (valT ts) (Ck ts) I
theorem d6f {I O:Int} {ts:Lq} (hv:∀ t∈ts,a1a I O t=true) {x:Wd} {i o:Int} (h:valT ts (x++[i])=some o) : (0<=i/\i<I)/\(o ≠ -1->0<=o/\o<O):=by
 obtain⟨u,g1,g2,g3,g4,g5⟩:=b4n h
 have hvt:=hv u g1
 unfold a1a at hvt
 rw[Bool.and_eq_true,Bool.and_eq_true] at hvt
 have hl:=of_decide_eq_true hvt.1.1
 rw[List.length_append,List.length_singleton] at g3 g4 g5
 constructor
 ·have hm:i∈u.1:=by
   grind[List.mem_of_mem_take]
  exact of_decide_eq_true (List.all_eq_true.1 hvt.1.2 i hm)
 ·intro ho
  have h1:=d5o u.2 (x.length+1-1) false hvt.2 (by omega)
  grind
theorem f9m (hv:∀ t∈ts,a1a I O t=true) {x:Wd} {o:Int} (h:valT ts x=some o) : o ≠ -1->0<=o/\o<O:=by
 obtain⟨u,g1,g2,g3,g4,g5⟩:=b4n h;have e:=g6m g2;rw[<- e] at h;exact(d6f hv h).2
theorem f9n {I:Nat} {ws os:Wq} (hv:∀ t∈ts,a1a I O t=true) (hc:a5l ts) (hN:Nod (valT ts) ws) (h:Bfs (valT ts) ws I O os.length os) : os=Ck ts/\Nod (valT ts) os/\goT I O (a0g I ts) 0 1=some (a0g I ts).length:=by
 have hN2:=h.done hN fun x i o hx=>(d6f hv hx).1;have e:os=Ck ts:=srt_eq h.srt (c6w hv).1 fun x=>(hN2.mem x).trans (b4p hv hc x).symm;refine⟨e,hN2,?_⟩;have h1:=h.go;rw[g4n] at h1;unfold a0g;rw[b4l,<- e];exact h1
end Go.Ai
end
section
namespace Go.Ai
open Go.Proofs Go.Proofs.Tryz
set_option maxRecDepth 10000
set_option maxHeartbeats 40000000
theorem mkI81:mkI prog 98=none:=by kernel_rfl
theorem mk81 {H:Mem} {a b:Int} (h0:0<=a) (h1:a<=b) (h2:b<=1048576) : a8j prog H 98 none (some (.li a)) (some (.li b))=.val (.sl H.next 0 a.toNat b.toNat) (H.add (.cells (rep [.li 0,.li 0] b.toNat) true 0)) :=
 d3k (e:=97) (size:=2) (bytes:=16) (z:=[.li 0,.li 0]) (by kernel_rfl) (by decide) (by decide) (by kernel_rfl) h0 h1 h2
attribute [simp] mkI81 mk81
end Go.Ai
end
section
namespace Go.Ai
open Go.Proofs Go.Proofs.Tryz
set_option maxRecDepth 10000
set_option maxHeartbeats 40000000
variable {I:Nat} {bs:List Nat}
def a8w (I:Nat) (bs:List Nat) : List AV:=bs.map fun b=>.sl b 0 I I
theorem c6x : (a8w I bs).length=bs.length:=by simp[a8w]
theorem f9o {k:Nat} (h:k<bs.length) : (a8w I bs)[k]'(by rw[c6x];exact h)=.sl bs[k] 0 I I:=by simp[a8w]
structure RowsB (g:Gb) (lo n I:Nat) (rows:Tq) (bs:List Nat) : Prop where
 len:bs.length=rows.length
 nd:bs.Nodup
 at' : ∀ (k:Nat) (h:k<bs.length) (h' : k<rows.length),lo<=bs[k]/\bs[k] < n/\g bs[k]=some (.cells (Bz rows[k]) true 0)/\rows[k].length=I
structure b4q (g:Gb) (lo n T I:Nat) (rows:Tq) (bs:List Nat) (B:Nat) (sv:AV) : Prop where
 rb:RowsB g lo n I rows bs
 pos:0<rows.length
 bl:lo<=B/\B<n
 tl:lo<=T/\T<n
 tb:T≠B
 tn:T ∉ bs
 bn:B ∉ bs
 gt:g T=some (.cells [sv] true 0)
 gb:(rows.length=1/\sv=.sl B 0 1 1/\g B=some (.cells (a8w I bs) true 0))\/(sv=.slq B 0 rows.length 0/\g B=some (.cells (a8w I bs) true 1))
def b4r (I:Nat) (rows:Tq) : Prop:=∀ row∈rows,row.length=I/\∀ e∈row,e.1 = -1\/(0<=e.1/\e.1<rows.length)
theorem b4r.set {rows:Tq} (h:b4r I rows) {a i:Nat} (ha:a<rows.length) {e:Int×Int} (he:e.1 = -1\/(0<=e.1/\e.1<rows.length)) : b4r I (rows.set a ((rows.getD a []).set i e)):=by
 intro row hr;rcases g5q hr with h1|rfl
 ·obtain⟨h2,h3⟩:=h row h1;exact⟨h2,fun e he=>by rw[g4r];exact h3 e he⟩
 ·have hm:=(b4k (d:=[]) ha).1;obtain⟨h2,h3⟩:=h _ hm;refine⟨by rw[g4r];exact h2,fun e' he'=>?_⟩;rw[g4r];rcases g5q he' with h4|rfl
  ·exact h3 e' h4
  ·exact he
theorem b4r.new {rows:Tq} (h:b4r I rows) {a i:Nat} (ha:a<rows.length) {o:Int} : b4r I (rows.set a ((rows.getD a []).set i ((rows.length:Int),o))++[List.replicate I (-1,-1)]):=by
 intro row hr;rw[Dr,g4r,Ef];rcases Ed.1 hr with hr|hr
 ·rcases g5q hr with h1|rfl
  ·obtain⟨h2,h3⟩:=h row h1;exact⟨h2,fun e he=>by rcases h3 e he with h4|h4;exact .inl h4;exact .inr ⟨h4.1,by omega⟩⟩
  ·have hm:=(b4k (d:=[]) ha).1;obtain⟨h2,h3⟩:=h _ hm;refine⟨by rw[g4r];exact h2,fun e' he'=>?_⟩;rcases g5q he' with h4|rfl
   ·rcases h3 e' h4 with h5|h5
    ·exact .inl h5
    ·exact .inr ⟨h5.1,by omega⟩
   ·exact .inr ⟨by show (0:Int)<=rows.length;omega,by show (rows.length:Int)<_;omega⟩
 ·rw[Ek.1 hr];exact⟨by simp,fun e he=>.inl (by rw[(List.mem_replicate.1 he).2])⟩
theorem b4q.keep {g g': Gb} {lo n n' T:Nat} {rows:Tq} {B:Nat} {sv:AV} (h:b4q g lo n T I rows bs B sv) (hn:n<=n') (hg:∀ a,lo<=a->a<n->g' a=g a) : b4q g' lo n' T I rows bs B sv :=
 ⟨⟨h.rb.len,h.rb.nd,fun k h1 h2=>let ⟨e1,e2,e3,e4⟩:=h.rb.at' k h1 h2;⟨e1,by omega,(hg _ e1 e2).trans e3,e4⟩⟩,h.pos,⟨h.bl.1,by have:=h.bl.2;omega⟩,⟨h.tl.1,by have:=h.tl.2;omega⟩,h.tb,h.tn,h.bn,(hg _ h.tl.1 h.tl.2).trans h.gt,h.gb.imp (fun⟨e1,e2,e3⟩=>⟨e1,e2,(hg _ h.bl.1 h.bl.2).trans e3⟩) fun⟨e1,e2⟩=>⟨e1,(hg _ h.bl.1 h.bl.2).trans e2⟩⟩
theorem b4q.push {g g': Gb} {lo n n' T:Nat} {rows:Tq} {B B' b:Nat} {sv:AV} (h:b4q g lo n T I rows bs B sv) {row:List (Int×Int)} (hl:row.length=I) (hb:n<=b) (hb' : b<n') (hB:n<=B') (hB' : B' < n') (hne:b≠B') (h1:g' b=some (.cells (Bz row) true 0)) (h2:g' B'=some (.cells (a8w I (bs++[b])) true 1)) (h3:g' T=some (.cells [.slq B' 0 (rows.length+1) 0] true 0)) (hg:∀ x∈bs,g' x=g x) : b4q g' lo n' T I (rows++[row]) (bs++[b]) B' (.slq B' 0 (rows.length+1) 0):=by
 have hlt:∀ x∈bs,lo<=x/\x<n:=fun x hx=>by
  obtain⟨k,hk,rfl⟩:=g3y.1 hx;obtain⟨e1,e2,_⟩:=h.rb.at' k hk (by have:=h.rb.len;omega);exact⟨e1,e2⟩
 have htl:=h.tl;have hbl:=h.bl;refine⟨⟨by rw[Dr,Dr,h.rb.len];rfl,?_,fun k k1 k2=>?_⟩,by simp,⟨by omega,hB'⟩,⟨htl.1,by omega⟩,by omega,?_,?_,h3,.inr ⟨by rw[Dr];rfl,h2⟩⟩
 ·rw[List.nodup_append];refine⟨h.rb.nd,by simp,fun x hx y hy e=>?_⟩;rw[Ek] at hy;have:=hlt x hx;omega
 ·rw[Dr,Ef] at k1;by_cases hk:k<bs.length
  ·have hk2:k<rows.length:=by have:=h.rb.len;omega
   obtain⟨e1,e2,e3,e4⟩:=h.rb.at' k hk hk2;rw[g4e hk,g4e hk2];exact⟨e1,by omega,(hg _ (Ds hk)).trans e3,e4⟩
  ·have e:k=bs.length:=by omega
   have e2:k=rows.length:=by have:=h.rb.len;omega
   rw[g5g (by omega),g5g (by omega)];simp;exact⟨by omega,hb',h1,hl⟩
 ·rw[Ed,Ek];rintro (hx|hx)
  ·exact h.tn hx
  ·omega
 ·rw[Ed,Ek];rintro (hx|hx)
  ·have:=hlt _ hx;omega
  ·exact hne hx.symm
end Go.Ai
end
section
namespace Go.Ai
open Go.Proofs Go.Proofs.Tryz
set_option maxRecDepth 10000
set_option maxHeartbeats 40000000
theorem mkI36:mkI prog 23=some (.nl):=by kernel_rfl
attribute [simp] mkI36
end Go.Ai
end
section
namespace Go.Ai
open Go.Proofs Go.Proofs.Tryz
set_option maxRecDepth 10000
set_option maxHeartbeats 40000000
structure RowsC (g:Gb) (lo n I:Nat) (rows:Tq) (bs:List Nat) : Prop where
 len:bs.length=rows.length
 at' : ∀ (k:Nat) (h:k<bs.length) (h' : k<rows.length),lo<=bs[k]/\bs[k] < n/\g bs[k]=some (.cells (Bz rows[k]) true 2)/\rows[k].length=I
theorem RowsC.snoc {g g': Gb} {lo n n' I:Nat} {rows:Tq} {bs:List Nat} (h:RowsC g lo n I rows bs) (hn:n<=n') (hg:∀ a,lo<=a->a<n->g' a=g a) {b:Nat} {row:List (Int×Int)} (h1:lo<=b) (h2:b<n') (h3:g' b=some (.cells (Bz row) true 2)) (h4:row.length=I) : RowsC g' lo n' I (rows++[row]) (bs++[b]):=by
 have hl:=h.len;refine⟨by simp[hl],fun k k1 k2=>?_⟩;rw[Dr,Ef] at k1;by_cases hk:k<bs.length
 ·obtain⟨e1,e2,e3,e4⟩:=h.at' k hk (by omega);rw[g4e hk,g4e (by omega)];exact⟨e1,by omega,(hg _ e1 e2).trans e3,e4⟩
 ·rw[g5g (by omega),g5g (by omega)];simp;exact⟨h1,h2,h3,h4⟩
end Go.Ai
end
section
namespace Go.Ai
open Go.Proofs Go.Proofs.Tryz
set_option maxRecDepth 10000
set_option maxHeartbeats 40000000
end Go.Ai
end
section
namespace Go.Ai
open Go.Proofs Go.Proofs.Tryz
set_option maxRecDepth 10000
set_option maxHeartbeats 40000000
end Go.Ai
end
section
namespace Go.Ai
open Go.Proofs Go.Proofs.Tryz
set_option maxRecDepth 10000
set_option maxHeartbeats 40000000
theorem f9p (a b:Wd) (hal:a.length<=1000000) (hbl:b.length<=1000000) (g:Gb) (n:Nat) (sa sb:AV) (ha:Aj g n a sa) (hb:Aj g n b sb) :
  WC 0 prog 80 [sa,sb] ⟨.fn g,n⟩ fun r=>∃ z:Int,r=.ret (.li z) ⟨.fn g,n⟩/\decide (z=0)=decide (a=b):=by
 have hla:=@Am prog _ _ _ _ _ ha;have hlb:=@Am prog _ _ _ _ _ hb;have HA:=Aa.mk ha;have HB:=Aa.mk hb;clear ha hb;obtain⟨ret,hret⟩ : ∃ c,c=decide (a=b):=⟨_,rfl⟩;rw[<- hret];have HRET:=Aa.mk hret;clear hret;by_cases t1:a.length<b.length
 ·have t1I:(a.length:Int)<(b.length:Int):=by omega
  have hr:ret=false:=by
   rw[HRET.out];exact decide_eq_false fun h=>by rw[h] at t1;omega
  refine ent pl80 func80 rfl (by decide +kernel) (by kernel_rfl) ?_
  iterate 6 all_goals try first|apply spl<;>intro h|simp (disch:=first|assumption|omega|simp) [*]
 by_cases t2:b.length<a.length
 ·have t2I:(b.length:Int)<(a.length:Int):=by omega
  have t1I:¬(a.length:Int)<(b.length:Int):=by omega
  have hr:ret=false:=by
   rw[HRET.out];exact decide_eq_false fun h=>by rw[h] at t2;omega
  refine ent pl80 func80 rfl (by decide +kernel) (by kernel_rfl) ?_
  iterate 6 all_goals try first|apply spl<;>intro h|simp (disch:=first|assumption|omega|simp) [*]
 have hL:b.length=a.length:=by omega
 have HL:=Aa.mk hL;rw[hL] at hlb;clear t1 t2 hL hbl;refine ent pl80 func80 rfl (by decide +kernel) (by kernel_rfl) ?_
 iterate 6 all_goals try first|apply spl<;>intro h|simp (disch:=first|assumption|omega|simp) [*]
 refine LX.ind (fun m gf H'=>∃ (k:Nat),k<=a.length/\m=a.length-k/\H'=⟨.fn g,n⟩/\Aa (a.take k=b.take k)/\gf 0=some sa/\gf 1=some sb/\gf 5=some (.li k)) (m0:=a.length) ?_ ?_
 ·exact⟨0,Dt _,rfl,rfl,⟨by simp⟩,by simp[*]⟩
 rintro m gf H' ⟨k,hk,rfl,rfl,HPRE,w0,w1,w5⟩ ih;refine rnd pl80 (by decide +kernel) ?_;by_cases hlt:k<a.length
 ·have hltI:(k:Int)<(a.length:Int):=by omega
  have hltb:k<b.length:=by rw[HL.out];exact hlt
  obtain⟨a2,off,ha2,hrow,hia⟩:=Af.ia (P:=prog) HA.out hlt 1;obtain⟨b2,ofb,hb2,hrob,hib⟩:=Af.ia (P:=prog) HB.out hltb 1;simp only[Ea] at hia hib;have hca:=hrow.one (k:=k) (s:=1) (by rw[Bl];exact hlt);have hcb:=hrob.one (k:=k) (s:=1) (by rw[Bl];exact hltb);rw[(Eb.1 (a7a a k hlt)).2] at hca;rw[(Eb.1 (a7a b k hltb)).2] at hcb;have hta:a.take (k+1)=a.take k++[a[k]]:=by rw[g5j,Dy hlt];rfl
  have htb:b.take (k+1)=b.take k++[b[k]]:=by rw[g5j,Dy hltb];rfl
  have hneq:a=b->a[k]=b[k]:=fun h=>by subst h;rfl
  have HTA:=Aa.mk hta;have HTB:=Aa.mk htb;have HN:=Aa.mk hneq;clear hta htb hneq hrow hrob ha2 hb2;generalize a[k]=u at *;generalize b[k]=v at *;clear hltb;have hbad:u≠v->ret=false:=fun h=>by rw[HRET.out];exact decide_eq_false fun e=>h (HN.out e)
  have HBAD:=Aa.mk hbad;clear hbad;by_cases t1:u<v
  ·have hr:=HBAD.out (by omega)
   iterate 6 all_goals try first|apply spl<;>intro h|simp (disch:=first|assumption|omega|simp) [*]
  by_cases t2:v<u
  ·have hr:=HBAD.out (by omega)
   iterate 6 all_goals try first|apply spl<;>intro h|simp (disch:=first|assumption|omega|simp) [*]
  ·have HUV:=Aa.mk (show u=v by omega)
   iterate 6 all_goals try first|apply spl<;>intro h|simp (disch:=first|assumption|omega|simp) [*]
   refine ih.out (a.length-(k+1)) _ _ (by omega) ⟨k+1,by omega,rfl,rfl,⟨?_⟩,by simp[*]⟩;rw[HTA.out,HTB.out,HPRE.out,HUV.out]
 ·have hltI:¬(k:Int)<(a.length:Int):=by omega
  have hk2:k=a.length:=by omega
  have hr:ret=true:=by
   rw[HRET.out];have h1:=HPRE.out;rw[hk2,g4n,<- HL.out,g4n] at h1;exact decide_eq_true h1
  clear hk2
  iterate 6 all_goals try first|apply spl<;>intro h|simp (disch:=first|assumption|omega|simp) [*]
theorem b4s (a b:Wd) (hal:a.length<=1000000) (hbl:b.length<=1000000) (g:Gb) (n:Nat) (sa sb:AV) (ha:Aj g n a sa) (hb:Aj g n b sb) :
  WC 0 prog 29 [sa,sb] ⟨.fn g,n⟩ fun r=>r=.ret (.lit (.bool (decide (a=b)))) ⟨.fn g,n⟩:=by
 have HC:=Aa.mk (f9p a b hal hbl g n sa sb ha hb);clear ha hb;obtain⟨ret,hret⟩ : ∃ c,c=decide (a=b):=⟨_,rfl⟩;rw[<- hret] at HC |-;clear hret;refine ent [] func29 rfl (by decide +kernel) (by kernel_rfl) ?_
 iterate 6 all_goals try first|apply spl<;>intro h|simp (disch:=first|assumption|omega|simp) [*]
 refine WC.mono HC.out ?_;rintro _ ⟨z,rfl,hz⟩
 cases ret with
 | true =>
  have hz1:z=0:=of_decide_eq_true hz;clear hz;subst hz1
  iterate 6 all_goals try first|apply spl<;>intro h|simp (disch:=first|assumption|omega|simp) [*]
 | false =>
  have hz1:¬z=0:=of_decide_eq_false hz;clear hz
  iterate 6 all_goals try first|apply spl<;>intro h|simp (disch:=first|assumption|omega|simp) [*]
end Go.Ai
end
section
namespace Go.Ai
open Go.Proofs Go.Proofs.Tryz
set_option maxRecDepth 10000
set_option maxHeartbeats 40000000
theorem d6g {l:Wq} (hll:l.length<=100000) {w:Wd} (hwl:w.length<=1000) (hm:w∈l) (hwls:∀ x∈l,x.length<=1000) (g:Gb) (n:Nat) (lv sv:AV) (h1:Bj g n l lv) (hw:Aj g n w sv) :
  WC 0 prog 75 [lv,sv] ⟨.fn g,n⟩ fun r=>r=.ret (.li (l.idxOf w:Nat)) ⟨.fn g,n⟩:=by
 have hlen:=@Am prog _ _ _ _ _ h1.choose_spec.1;have H1:=Aa.mk h1;have HW:=Aa.mk hw;have HWL:=Aa.mk hwls;have HM:=Aa.mk hm;clear h1 hw hwls hm;refine ent [] func75 rfl (by decide +kernel) (by kernel_rfl) ?_
 iterate 8 all_goals try first|apply spl<;>intro h|simp (disch:=first|assumption|omega|simp) [*]
 refine LX.ind (fun m gf H'=>∃ k:Nat,k<l.length/\m=l.length-k/\H'=⟨.fn g,n⟩/\Aa (w ∉ l.take k)/\gf 0=some lv/\gf 1=some sv/\gf 5=some (.li k)) (m0:=l.length) ?_ ?_
 ·exact⟨0,g4m HM.out,rfl,rfl,⟨by simp⟩,by simp[*]⟩
 rintro m gf H' ⟨k,hk,rfl,rfl,HN,w0,w1,w5⟩ ih;have hkI:(k:Int)<(l.length:Int):=by omega
 obtain⟨a,off,q,ha,hia,hc,hq⟩:=H1.out.at hk;have HS:=Aa.mk (b4s l[k] w (by have:=HWL.out _ (Ds hk);omega) (by omega) g n q sv hq HW.out);have hwk:Aa (w ∉ l.take (k+1)\/l[k]=w):=⟨by
  by_cases h:l[k]=w
  ·exact .inr h
  ·refine .inl ?_;rw[a2l hk,Ed,Ek];rintro (h1|h1)
   ·exact HN.out h1
   ·exact h h1.symm⟩
 have HIX:Aa (l[k]=w->l.idxOf w=k):=⟨fun h=>by
  have e:l=l.take k++(l[k] :: l.drop (k+1)):=by rw[<- El hk,List.take_append_drop]
  rw[e,List.idxOf_append,if_neg HN.out,h];simp;omega⟩
 generalize l[k]=x at *;refine rnd [] (by decide +kernel) ?_
 iterate 8 all_goals try first|apply spl<;>intro h|simp (disch:=first|assumption|omega|simp) [*]
 refine WC.mono HS.out ?_;rintro _ rfl;by_cases hx:x=w
 ·have hix:=HIX.out hx;simp only[hx,decide_true]
  iterate 8 all_goals try first|apply spl<;>intro h|simp (disch:=first|assumption|omega|simp) [*]
 ·have hnm:w ∉ l.take (k+1):=hwk.out.resolve_right hx;have hk1:k+1<l.length:=by
   rcases g4k (k+1) l.length with h|h
   ·exact h
   ·exact absurd HM.out (by rwa [Ee h] at hnm)
  simp only[hx,decide_false]
  iterate 8 all_goals try first|apply spl<;>intro h|simp (disch:=first|assumption|omega|simp) [*]
  exact ih.out (l.length-(k+1)) _ _ (by omega) ⟨k+1,hk1,rfl,rfl,⟨hnm⟩,by simp[*]⟩
end Go.Ai
end
section
namespace Go.Ai
open Go.Proofs Go.Proofs.Tryz
set_option maxRecDepth 10000
set_option maxHeartbeats 40000000
theorem f9q (a b:Wd) (hal:a.length<=1000000) (hbl:b.length<=1000000) (g:Gb) (n:Nat) (sa sb:AV) (ha:Aj g n a sa) (hb:Aj g n b sb) :
  WC 0 prog 80 [sa,sb] ⟨.fn g,n⟩ fun r=>r=.ret (.li (Bh a b)) ⟨.fn g,n⟩:=by
 have hla:=@Am prog _ _ _ _ _ ha;have hlb:=@Am prog _ _ _ _ _ hb;have HA:=Aa.mk ha;have HB:=Aa.mk hb;clear ha hb;obtain⟨ret,hret⟩ : ∃ c,c=Bh a b:=⟨_,rfl⟩;rw[<- hret];unfold Bh at hret;by_cases t1:a.length<b.length
 ·have t1I:(a.length:Int)<(b.length:Int):=by omega
  have hr:ret = -1:=by rw[hret,if_pos t1]
  clear hret;refine ent pl80 func80 rfl (by decide +kernel) (by kernel_rfl) ?_
  iterate 6 all_goals try first|apply spl<;>intro h|simp (disch:=first|assumption|omega|simp) [*]
 rw[if_neg t1] at hret;by_cases t2:b.length<a.length
 ·have t2I:(b.length:Int)<(a.length:Int):=by omega
  have t1I:¬(a.length:Int)<(b.length:Int):=by omega
  have hr:ret=1:=by rw[hret,if_pos t2]
  clear hret;refine ent pl80 func80 rfl (by decide +kernel) (by kernel_rfl) ?_
  iterate 6 all_goals try first|apply spl<;>intro h|simp (disch:=first|assumption|omega|simp) [*]
 rw[if_neg t2] at hret;have hL:b.length=a.length:=by omega
 have HL:=Aa.mk hL;have HRET:=Aa.mk hret;rw[hL] at hlb;clear t1 t2 hL hbl hret;refine ent pl80 func80 rfl (by decide +kernel) (by kernel_rfl) ?_
 iterate 6 all_goals try first|apply spl<;>intro h|simp (disch:=first|assumption|omega|simp) [*]
 refine LX.ind (fun m gf H'=>∃ (k:Nat),k<=a.length/\m=a.length-k/\H'=⟨.fn g,n⟩/\Aa (ret=lexC (a.drop k) (b.drop k))/\gf 0=some sa/\gf 1=some sb/\gf 5=some (.li k)) (m0:=a.length) ?_ ?_
 ·exact⟨0,Dt _,rfl,rfl,HRET,by simp[*]⟩
 rintro m gf H' ⟨k,hk,rfl,rfl,HPRE,w0,w1,w5⟩ ih;refine rnd pl80 (by decide +kernel) ?_;by_cases hlt:k<a.length
 ·have hltI:(k:Int)<(a.length:Int):=by omega
  have hltb:k<b.length:=by rw[HL.out];exact hlt
  obtain⟨a2,off,ha2,hrow,hia⟩:=Af.ia (P:=prog) HA.out hlt 1;obtain⟨b2,ofb,hb2,hrob,hib⟩:=Af.ia (P:=prog) HB.out hltb 1;simp only[Ea] at hia hib;have hca:=hrow.one (k:=k) (s:=1) (by rw[Bl];exact hlt);have hcb:=hrob.one (k:=k) (s:=1) (by rw[Bl];exact hltb);rw[(Eb.1 (a7a a k hlt)).2] at hca;rw[(Eb.1 (a7a b k hltb)).2] at hcb;have hp:=HPRE.out;rw[El hlt,El hltb] at hp;have HP:=Aa.mk hp;clear hp HPRE hrow hrob ha2 hb2;generalize a[k]=u at *;generalize b[k]=v at *;clear hltb;by_cases t1:u<v
  ·have hr:ret = -1:=by rw[HP.out];unfold lexC;rw[if_pos t1]
   iterate 6 all_goals try first|apply spl<;>intro h|simp (disch:=first|assumption|omega|simp) [*]
  by_cases t2:v<u
  ·have hr:ret=1:=by rw[HP.out];unfold lexC;rw[if_neg t1,if_pos t2]
   iterate 6 all_goals try first|apply spl<;>intro h|simp (disch:=first|assumption|omega|simp) [*]
  ·have HUV:Aa (ret=lexC (a.drop (k+1)) (b.drop (k+1))):=⟨by rw[HP.out];show (if u<v then -1 else if v<u then 1 else lexC (a.drop (k+1)) (b.drop (k+1)))=_;rw[if_neg t1,if_neg t2]⟩
   iterate 6 all_goals try first|apply spl<;>intro h|simp (disch:=first|assumption|omega|simp) [*]
   exact ih.out (a.length-(k+1)) _ _ (by omega) ⟨k+1,by omega,rfl,rfl,HUV,by simp[*]⟩
 ·have hltI:¬(k:Int)<(a.length:Int):=by omega
  have hk2:k=a.length:=by omega
  have hr:ret=0:=by
   rw[HPRE.out,hk2,g4t,<- HL.out,g4t];rfl
  clear hk2
  iterate 6 all_goals try first|apply spl<;>intro h|simp (disch:=first|assumption|omega|simp) [*]
end Go.Ai
end
section
namespace Go.Ai
open Go.Proofs Go.Proofs.Tryz
set_option maxRecDepth 10000
set_option maxHeartbeats 40000000
def a7e (g:Gb) (n:Nat) (ts:Lq) (sv:AV) : Prop:=∃ cs,Af g n sv ts.length cs/\RowsT g n ts cs/\∀ v∈cs,Bm v
theorem a7e.mono {g g': Gb} {n n': Nat} {ts:Lq} {sv:AV} (h:a7e g n ts sv) (hn:n<=n') (hg:∀ a,a<n->g' a=g a) : a7e g' n' ts sv :=
 let ⟨cs,h1,h2,h3⟩:=h;⟨cs,h1.mono hn hg,h2.ext hn fun a x ha hx=>(hg a ha).trans hx,h3⟩
theorem a7e.at {g:Gb} {n:Nat} {ts:Lq} {sv:AV} (h:a7e g n ts sv) {k:Nat} (hk:k<ts.length) : ∃ a off s1 s2,AtT g n sv k ts[k] a off s1 s2/\Bm s1/\Bm s2:=by
 obtain⟨cs,h1,h2,h3⟩:=h;obtain⟨s1,s2,e1,e2,r1,r2⟩:=h2.2 k hk;obtain⟨a,off,ha,hrow,hia⟩:=Af.ia (P:=prog) h1 hk 2;have hl:=h2.1;refine⟨a,off,s1,s2,⟨ha,hia,?_,?_,?_,r1,r2⟩,h3 _ (En e1),h3 _ (En e2)⟩
 ·rw[hrow.agg (k:=k*2) (s:=2) (by omega),d5d e1 e2]
 ·have:=hrow.one (k:=k*2) (s:=1) (by omega)
  rwa [(Eb.1 e1).2] at this
 ·have:=hrow.one (k:=k*2+1) (s:=1) (by omega);rw[(Eb.1 e2).2] at this;rw[g5k];exact this
theorem el57:(Cd prog 65).map (·.1)=some none:=by kernel_rfl
def lastV:Option Int->AV
 | some o=>.tup [.li o,.lit (.bool true)]
 | none=>.tup [.li 0,.lit (.bool false)]
theorem f9r {I O:Int} {ts:Lq} (hS:c6q ts) (hL2:∀ t∈ts,t.2.length=t.1.length) {w:Wd} (hw0:0<w.length) (hwl:w.length<=1000) (g:Gb) (n:Nat) (sv wv:AV) (hT:a7e g n ts sv) (hW:Aj g n w wv) :
  WC 0 prog 74 [.agg [.li I,.li O,sv],wv] ⟨.fn g,n⟩ fun r=>∃ g',r=.ret (lastV (valT ts w)) ⟨.fn g',n+1⟩/\∀ b,b<n->g' b=g b:=by
 have hlen:=@Am prog _ _ _ _ _ hT.choose_spec.1;have hlw:=@Am prog _ _ _ _ _ hW;have h1s:=hT.choose_spec.1.one;have hone:allOne [.li I,.li O,sv]=true:=by simp[h1s]
 have hsl:=hS.len;have HS:=Aa.mk hS;have HL2:=Aa.mk hL2;have HT:=Aa.mk hT;have HW:=Aa.mk hW;clear hS hL2 hT hW;obtain⟨RES,hRES⟩ : ∃ x,x=valT ts w:=⟨_,rfl⟩;rw[<- hRES];have HR:=Aa.mk hRES;clear hRES;refine ent [] func74 rfl (by decide +kernel) (by kernel_rfl) ?_
 iterate 8 all_goals try first|apply spl<;>intro h|simp (disch:=first|assumption|omega|simp) [*]
 refine LX.ind (fun m gf H'=>∃ k:Nat,k<=ts.length/\m=ts.length-k/\H'=⟨.fn (Ap g n (some (.cells [.li I,.li O,sv] true 0))),n+1⟩/\Aa (RES=valT (ts.drop k) w)/\gf 1=some wv/\gf 2=some (.ptr n 0)/\gf 6=some (.li k)) (m0:=ts.length) ?_ ?_
 ·exact⟨0,Dt _,rfl,rfl,HR,by simp[*]⟩
 clear HR;rintro m gf H' ⟨k,hk,rfl,rfl,HR,w1,w2,w6⟩ ih;refine rnd [] (by decide +kernel) ?_;by_cases hlt:k<ts.length
 ·have hltI:(k:Int)<(ts.length:Int):=by omega
  obtain⟨a2,off,s1,s2,HAT0,hc1,hc2⟩:=(HT.out.mono (n':=n+1) (g':=Ap g n (some (.cells [.li I,.li O,sv] true 0))) (Dx n) fun b hb=>Ad hb).at hlt;have HAT:=Aa.mk HAT0;clear HAT0;have hia:∀ {H:Mem} {ev:Ev} {o:Oper} {ty:TypeId},iaS prog H ev o ty (some (none,2)) (some sv) (some (.li (k:Int)))=.val (.ptr a2 (off+k*2)) H:=fun {H ev o ty}=>HAT.out.ia;have han:a2<n+1:=HAT.out.an;have hcc0:=HAT.out.c0;have hcc1:=HAT.out.c1;have hw1:=HS.out.w1 _ (Ds hlt);have hl2:=HL2.out _ (Ds hlt);have HST:=Aa.mk (HR.out.trans (show valT (ts.drop k) w=if w≠[]/\w.length<=ts[k].1.length/\ts[k].1.take w.length=w then some (ts[k].2.getD (w.length-1) 0) else valT (ts.drop (k+1)) w from by rw[El hlt];rfl));have hl1:=@Am prog _ _ _ _ _ HAT.out.r1;have HR1:=Aa.mk HAT.out.r1;have HR2:=Aa.mk HAT.out.r2;have HC1:=Aa.mk hc1;clear HAT hc1 hc2;generalize ts[k]=t at *;have hwne:w≠[]:=fun h=>by rw[h] at hw0;cases hw0
  by_cases hge:w.length<=t.1.length
  ·have hgeI:(w.length:Int)<=(t.1.length:Int):=by omega
   obtain⟨cut,hcut,hcv⟩:=Af.cut HR1.out HC1.out el57 (k:=w.length) (sz:=1) hge (by omega);have htl:(t.1.take w.length).length=w.length:=by rw[Du,g4a hge]
   have hcv2:Aj (Ap g n (some (.cells [.li I,.li O,sv] true 0))) (n+1) (t.1.take w.length) cut:=by
    unfold Aj;rw[htl,show wdC (t.1.take w.length)=(wdC t.1).take (w.length*1) by simp[wdC]];exact hcv
   have HSM:=Aa.mk (b4s (t.1.take w.length) w (by omega) (by omega) _ (n+1) cut wv hcv2 (Af.mono (Dx n) (fun b hb=>Ad hb) HW.out));obtain⟨a3,o3,ha3,hia3,hc3⟩:=Aj.at HR2.out (by omega:w.length-1<t.2.length);rw[show ((w.length-1:Nat) : Int)=(w.length:Int)-1 by omega] at hia3;have HRV:Aa (t.2.getD (w.length-1) 0=t.2[w.length-1]):=⟨by rw[g3s,Dy];rfl⟩;clear hcv hcv2;have hw1n:(0:Int)<=(w.length:Int)-1:=by omega
   iterate 8 all_goals try first|apply spl<;>intro h|simp (disch:=first|assumption|omega|simp) [*]
   refine WC.mono HSM.out ?_;rintro _ rfl;by_cases hq:t.1.take w.length=w
   ·rw[if_pos ⟨hwne,hge,hq⟩,HRV.out] at HST;have hRS:=HST.out;simp only[hq,decide_true];clear HRV;generalize t.2[w.length-1]=o at *;subst hRS
    iterate 8 all_goals try first|apply spl<;>intro h|simp (disch:=first|assumption|omega|simp) [*]
    exact⟨_,⟨rfl,rfl⟩,fun b hb=>Ad hb⟩
   ·rw[if_neg (fun h=>hq h.2.2)] at HST;simp only[hq,decide_false]
    iterate 8 all_goals try first|apply spl<;>intro h|simp (disch:=first|assumption|omega|simp) [*]
    exact ih.out (ts.length-(k+1)) _ _ (by omega) ⟨k+1,by omega,rfl,rfl,HST,by simp[*]⟩
  ·have hgeI:¬(w.length:Int)<=(t.1.length:Int):=by omega
   rw[if_neg (fun h=>hge h.2.1)] at HST;clear hwne
   iterate 8 all_goals try first|apply spl<;>intro h|simp (disch:=first|assumption|omega|simp) [*]
   exact ih.out (ts.length-(k+1)) _ _ (by omega) ⟨k+1,by omega,rfl,rfl,HST,by simp[*]⟩
 ·have hltI:¬(k:Int)<(ts.length:Int):=by omega
  have hRN:RES=none:=by rw[HR.out,g3u (by omega)];rfl
  subst hRN
  iterate 8 all_goals try first|apply spl<;>intro h|simp (disch:=first|assumption|omega|simp) [*]
  exact⟨_,⟨rfl,rfl⟩,fun b hb=>Ad hb⟩
end Go.Ai
end
section
namespace Go.Ai
open Go.Proofs Go.Proofs.Tryz
set_option maxRecDepth 10000
set_option maxHeartbeats 40000000
def a7f (w:Wd) : Wq->Bool->Wq
 | [],p=>if p then [] else [w]
 | x :: l,p=>(if Bh w x<0/\p=false then [w] else [])++x :: a7f w l (p || decide (Bh w x<=0))
theorem c6y {w:Wd} : ∀ (l:Wq),a7f w l true=l
 | []=>rfl
 | x :: l=>by
  unfold a7f;rw[if_neg (by simp),g6t,c6y l];rfl
theorem d6h {w:Wd} : ∀ (l:Wq),a7f w l false=Bv w l
 | []=>rfl
 | x :: l=>by
  unfold a7f Bv;rw[g5p];by_cases h1:Bh w x<0
  ·rw[if_pos ⟨h1,rfl⟩,if_pos h1,decide_eq_true (by omega),c6y];rfl
  ·rw[if_neg (fun h=>h1 h.1),if_neg h1];by_cases h2:Bh w x=0
   ·rw[if_pos h2,decide_eq_true (by omega),c6y];rfl
   ·rw[if_neg h2,decide_eq_false (by omega),d6h l];rfl
theorem RowsW.snoc {g:Gb} {n:Nat} {l:Wq} {svs:List AV} (h:RowsW g n l svs) {x:Wd} {q:AV} (hq:Aj g n x q) : RowsW g n (l++[x]) (svs++[q]):=by
 refine⟨by simp[h.1],fun k hk=>?_⟩;have hl:=h.1;rw[Dr,Ef] at hk;by_cases h2:k<l.length
 ·obtain⟨sv,e1,e2⟩:=h.2 k h2;exact⟨sv,by rw[g3t (by omega)];exact e1,by rw[g4e h2];exact e2⟩
 ·have e:k=l.length:=by omega
  subst e;exact⟨q,by rw[<- hl,Em (Dm _)];simp,by rw[g5g (Dm _)];simpa using hq⟩
theorem f9s {l:Wq} (hll:l.length<=100000) {w:Wd} (hwl:w.length<=1000) (hwls:∀ x∈l,x.length<=1000) (g:Gb) (n:Nat) (lv wv:AV) (h1:Bj g n l lv) (hw:Aj g n w wv) :
  WC 0 prog 71 [lv,wv] ⟨.fn g,n⟩ fun r=>∃ ov g' n' B cs,r=.ret ov ⟨.fn g',n'⟩/\n<=n'/\(∀ b,b<n->g' b=g b)/\Bc g' n n' B ov (Bv w l).length 1 cs/\RowsW g n (Bv w l) cs:=by
 have hlen:=@Am prog _ _ _ _ _ h1.choose_spec.1;have h1w:oneC wv=true:=hw.one;have hcw:cellsOf wv=[wv]:=hw.cell;have h2w:allOne [wv]=true:=by simp[h1w]
 have HL:=Aa.mk h1;have HW:=Aa.mk hw;have HWL:=Aa.mk hwls;have HIN:=Aa.mk (d6h (w:=w) l);clear h1 hw hwls;generalize Bv w l=RES at *;refine ent [] func71 rfl (by decide +kernel) (by kernel_rfl) ?_
 iterate 8 all_goals try first|apply spl<;>intro h|simp (disch:=first|assumption|omega|simp) [*]
 refine LX.ind (fun m gf H'=>∃ (k n' B:Nat) (gL:Gb) (p:Bool) (out:Wq) (ov:AV) (cs:List AV),k<=l.length/\m=l.length-k/\H'=⟨.fn gL,n'⟩/\n<=n'/\Aa (∀ b,b<n->gL b=g b)/\Aa (RES=out++a7f w (l.drop k) p)/\out.length<=2*k/\Aa (Bc gL n n' B ov out.length 1 cs)/\Aa (RowsW g n out cs) /\
  gf 0=some lv/\gf 1=some wv/\gf 5=some ov/\gf 6=some (.lit (.bool p))/\gf 7=some (.li k)) (m0:=l.length) ?_ ?_
 ·exact⟨0,n,0,g,false,[],.nl,[],Dt _,rfl,rfl,Dm _,⟨fun _ _=>rfl⟩,⟨HIN.out.symm⟩,by simp,⟨.inl ⟨rfl,rfl,rfl⟩⟩,⟨⟨rfl,fun k h=>by cases h⟩⟩,by simp[*]⟩
 clear HIN;rintro m gf H' ⟨k,n',B,gL,p,out,ov,cs,hk,rfl,rfl,hn',HG,HRES,hol,HGR,HRW,w0,w1,w5,w6,w7⟩ ih;refine rnd [] (by decide +kernel) ?_;by_cases hlt:k<l.length
 ·have hltI:(k:Int)<(l.length:Int):=by omega
  obtain⟨a,off,q,ha,hia,hcell0,hq⟩:=HL.out.at hlt;have hcell:Be (some (false,1)) (gL a) (off+k)=some q:=(congrArg (fun z=>Be (some (false,1)) z (off+k)) (HG.out a ha)).trans hcell0;have h1q:oneC q=true:=hq.one;have hcq:cellsOf q=[q]:=hq.cell;have h2q:allOne [q]=true:=by simp[h1q]
  have HC:=Aa.mk (f9q w l[k] (by omega) (by have:=HWL.out _ (Ds hlt);omega) gL n' wv q (Af.mono hn' HG.out HW.out) (Af.mono hn' HG.out hq));have HST:=Aa.mk (HRES.out.trans (show out++a7f w (l.drop k) p=out++((if Bh w l[k] < 0/\p=false then [w] else [])++l[k] :: a7f w (l.drop (k+1)) (p || decide (Bh w l[k]<=0))) from by rw[El hlt];rfl));have HR1:=Aa.mk (HRW.out.snoc hq);have HR2:=Aa.mk ((HRW.out.snoc HW.out).snoc hq);have hcl:cs.length=out.length:=HRW.out.1;have hol2:out.length<=200000:=by omega
  have hcl2:(cs++[wv]).length=(out.length+1)*1:=by simp[hcl]
  clear hcell0 hq HRW HRES;generalize Bh w l[k]=c at *;generalize l[k]=x at *
  iterate 8 all_goals try first|apply spl<;>intro h|simp (disch:=first|assumption|omega|simp) [*]
  refine WC.mono HC.out ?_;rintro _ rfl;clear HC;rcases g6a c 0 with hc|hc|hc
  ·have hc1:¬c=0:=by omega
   have hc2:c<=0:=by omega
   cases p with
   | true =>
    rw[if_neg (by simp),g6t] at HST;rcases HGR.out with⟨ho,hc0,hs0⟩|⟨ho,hs0,hB1,hB2,hB3,hB4⟩
    ·subst hs0;have HZ:=Aa.mk (And.intro ho hc0);clear ho hc0
     iterate 8 all_goals try first|apply spl<;>intro h|simp (disch:=first|assumption|omega|simp) [*]
     refine ih.out (l.length-(k+1)) _ _ (by omega) ⟨k+1,n'+1+1,n'+1,_,true,out++[x],.slq (n'+1) 0 (out++[x]).length 0,cs++[q],by omega,rfl,rfl,by omega,⟨fun b hb=>?_⟩,⟨by rw[HST.out];simp⟩,by simp;omega,⟨.inr ⟨by simp,rfl,by omega,by omega,?_,by simp;omega⟩⟩,HR1,by simp[*],by simp[*],by simp[HZ.out.1, *],by simp[*]⟩
     ·simp (disch:=omega) only[Ad,Ae];exact HG.out b hb
     ·rw[HZ.out.2];simp (disch:=omega) [Ad,Ae,Ag, *]
    ·subst hs0
     iterate 8 all_goals try first|apply spl<;>intro h|simp (disch:=first|assumption|omega|simp) [*]
     refine ih.out (l.length-(k+1)) _ _ (by omega) ⟨k+1,n'+1+1,n'+1,_,true,out++[x],.slq (n'+1) 0 (out++[x]).length 0,cs++[q],by omega,rfl,rfl,by omega,⟨fun b hb=>?_⟩,⟨by rw[HST.out];simp⟩,by simp;omega,⟨.inr ⟨by simp,rfl,by omega,by omega,?_,by simp;omega⟩⟩,HR1,by simp[*]⟩
     ·simp (disch:=omega) only[Ad,Ae];exact HG.out b hb
     ·simp (disch:=omega) [Ad,Ae,Ag, *]
   | false =>
    rw[if_pos ⟨hc,rfl⟩,g5p,decide_eq_true hc2] at HST;rcases HGR.out with⟨ho,hc0,hs0⟩|⟨ho,hs0,hB1,hB2,hB3,hB4⟩
    ·subst hs0;have HZ:=Aa.mk (And.intro ho hc0);clear ho hc0
     iterate 8 all_goals try first|apply spl<;>intro h|simp (disch:=first|assumption|omega|simp) [*]
     refine ih.out (l.length-(k+1)) _ _ (by omega) ⟨k+1,n'+1+1+1+1,n'+1+1+1,_,true,out++[w]++[x],.slq (n'+1+1+1) 0 (out++[w]++[x]).length 0,cs++[wv]++[q],by omega,rfl,rfl,by omega,⟨fun b hb=>?_⟩,⟨by rw[HST.out];simp⟩,by simp;omega,⟨.inr ⟨by simp,rfl,by omega,by omega,?_,by simp;omega⟩⟩,HR2,by simp[*],by simp[*],by simp[HZ.out.1, *],by simp[*]⟩
     ·simp (disch:=omega) only[Ad,Ae];exact HG.out b hb
     ·rw[HZ.out.2];simp (disch:=omega) [Ad,Ae,Ag, *]
    ·subst hs0
     iterate 8 all_goals try first|apply spl<;>intro h|simp (disch:=first|assumption|omega|simp) [*]
     refine ih.out (l.length-(k+1)) _ _ (by omega) ⟨k+1,n'+1+1+1+1,n'+1+1+1,_,true,out++[w]++[x],.slq (n'+1+1+1) 0 (out++[w]++[x]).length 0,cs++[wv]++[q],by omega,rfl,rfl,by omega,⟨fun b hb=>?_⟩,⟨by rw[HST.out];simp⟩,by simp;omega,⟨.inr ⟨by simp,rfl,by omega,by omega,?_,by simp;omega⟩⟩,HR2,by simp[*]⟩
     ·simp (disch:=omega) only[Ad,Ae];exact HG.out b hb
     ·simp (disch:=omega) [Ad,Ae,Ag, *]
  ·have hc1:¬c<0:=by omega
   have hc2:c<=0:=by omega
   rw[if_neg (fun h=>hc1 h.1),decide_eq_true hc2,g6h] at HST;subst hc
   cases p with
   | true =>
    rcases HGR.out with⟨ho,hc0,hs0⟩|⟨ho,hs0,hB1,hB2,hB3,hB4⟩
    ·subst hs0;have HZ:=Aa.mk (And.intro ho hc0);clear ho hc0
     iterate 8 all_goals try first|apply spl<;>intro h|simp (disch:=first|assumption|omega|simp) [*]
     refine ih.out (l.length-(k+1)) _ _ (by omega) ⟨k+1,n'+1+1,n'+1,_,true,out++[x],.slq (n'+1) 0 (out++[x]).length 0,cs++[q],by omega,rfl,rfl,by omega,⟨fun b hb=>?_⟩,⟨by rw[HST.out];simp⟩,by simp;omega,⟨.inr ⟨by simp,rfl,by omega,by omega,?_,by simp;omega⟩⟩,HR1,by simp[*],by simp[*],by simp[HZ.out.1, *],by simp[*]⟩
     ·simp (disch:=omega) only[Ad,Ae];exact HG.out b hb
     ·rw[HZ.out.2];simp (disch:=omega) [Ad,Ae,Ag, *]
    ·subst hs0
     iterate 8 all_goals try first|apply spl<;>intro h|simp (disch:=first|assumption|omega|simp) [*]
     refine ih.out (l.length-(k+1)) _ _ (by omega) ⟨k+1,n'+1+1,n'+1,_,true,out++[x],.slq (n'+1) 0 (out++[x]).length 0,cs++[q],by omega,rfl,rfl,by omega,⟨fun b hb=>?_⟩,⟨by rw[HST.out];simp⟩,by simp;omega,⟨.inr ⟨by simp,rfl,by omega,by omega,?_,by simp;omega⟩⟩,HR1,by simp[*]⟩
     ·simp (disch:=omega) only[Ad,Ae];exact HG.out b hb
     ·simp (disch:=omega) [Ad,Ae,Ag, *]
   | false =>
    rcases HGR.out with⟨ho,hc0,hs0⟩|⟨ho,hs0,hB1,hB2,hB3,hB4⟩
    ·subst hs0;have HZ:=Aa.mk (And.intro ho hc0);clear ho hc0
     iterate 8 all_goals try first|apply spl<;>intro h|simp (disch:=first|assumption|omega|simp) [*]
     refine ih.out (l.length-(k+1)) _ _ (by omega) ⟨k+1,n'+1+1,n'+1,_,true,out++[x],.slq (n'+1) 0 (out++[x]).length 0,cs++[q],by omega,rfl,rfl,by omega,⟨fun b hb=>?_⟩,⟨by rw[HST.out];simp⟩,by simp;omega,⟨.inr ⟨by simp,rfl,by omega,by omega,?_,by simp;omega⟩⟩,HR1,by simp[*],by simp[*],by simp[HZ.out.1, *],by simp[*]⟩
     ·simp (disch:=omega) only[Ad,Ae];exact HG.out b hb
     ·rw[HZ.out.2];simp (disch:=omega) [Ad,Ae,Ag, *]
    ·subst hs0
     iterate 8 all_goals try first|apply spl<;>intro h|simp (disch:=first|assumption|omega|simp) [*]
     refine ih.out (l.length-(k+1)) _ _ (by omega) ⟨k+1,n'+1+1,n'+1,_,true,out++[x],.slq (n'+1) 0 (out++[x]).length 0,cs++[q],by omega,rfl,rfl,by omega,⟨fun b hb=>?_⟩,⟨by rw[HST.out];simp⟩,by simp;omega,⟨.inr ⟨by simp,rfl,by omega,by omega,?_,by simp;omega⟩⟩,HR1,by simp[*]⟩
     ·simp (disch:=omega) only[Ad,Ae];exact HG.out b hb
     ·simp (disch:=omega) [Ad,Ae,Ag, *]
  ·have hc1:¬c<0:=by omega
   have hc2:¬c<=0:=by omega
   have hc3:¬c=0:=by omega
   rw[if_neg (fun h=>hc1 h.1),decide_eq_false hc2,g5h] at HST
   cases p with
   | true =>
    rcases HGR.out with⟨ho,hc0,hs0⟩|⟨ho,hs0,hB1,hB2,hB3,hB4⟩
    ·subst hs0;have HZ:=Aa.mk (And.intro ho hc0);clear ho hc0
     iterate 8 all_goals try first|apply spl<;>intro h|simp (disch:=first|assumption|omega|simp) [*]
     refine ih.out (l.length-(k+1)) _ _ (by omega) ⟨k+1,n'+1+1,n'+1,_,true,out++[x],.slq (n'+1) 0 (out++[x]).length 0,cs++[q],by omega,rfl,rfl,by omega,⟨fun b hb=>?_⟩,⟨by rw[HST.out];simp⟩,by simp;omega,⟨.inr ⟨by simp,rfl,by omega,by omega,?_,by simp;omega⟩⟩,HR1,by simp[*],by simp[*],by simp[HZ.out.1, *],by simp[*]⟩
     ·simp (disch:=omega) only[Ad,Ae];exact HG.out b hb
     ·rw[HZ.out.2];simp (disch:=omega) [Ad,Ae,Ag, *]
    ·subst hs0
     iterate 8 all_goals try first|apply spl<;>intro h|simp (disch:=first|assumption|omega|simp) [*]
     refine ih.out (l.length-(k+1)) _ _ (by omega) ⟨k+1,n'+1+1,n'+1,_,true,out++[x],.slq (n'+1) 0 (out++[x]).length 0,cs++[q],by omega,rfl,rfl,by omega,⟨fun b hb=>?_⟩,⟨by rw[HST.out];simp⟩,by simp;omega,⟨.inr ⟨by simp,rfl,by omega,by omega,?_,by simp;omega⟩⟩,HR1,by simp[*]⟩
     ·simp (disch:=omega) only[Ad,Ae];exact HG.out b hb
     ·simp (disch:=omega) [Ad,Ae,Ag, *]
   | false =>
    rcases HGR.out with⟨ho,hc0,hs0⟩|⟨ho,hs0,hB1,hB2,hB3,hB4⟩
    ·subst hs0;have HZ:=Aa.mk (And.intro ho hc0);clear ho hc0
     iterate 8 all_goals try first|apply spl<;>intro h|simp (disch:=first|assumption|omega|simp) [*]
     refine ih.out (l.length-(k+1)) _ _ (by omega) ⟨k+1,n'+1+1,n'+1,_,false,out++[x],.slq (n'+1) 0 (out++[x]).length 0,cs++[q],by omega,rfl,rfl,by omega,⟨fun b hb=>?_⟩,⟨by rw[HST.out];simp⟩,by simp;omega,⟨.inr ⟨by simp,rfl,by omega,by omega,?_,by simp;omega⟩⟩,HR1,by simp[*],by simp[*],by simp[HZ.out.1, *],by simp[*]⟩
     ·simp (disch:=omega) only[Ad,Ae];exact HG.out b hb
     ·rw[HZ.out.2];simp (disch:=omega) [Ad,Ae,Ag, *]
    ·subst hs0
     iterate 8 all_goals try first|apply spl<;>intro h|simp (disch:=first|assumption|omega|simp) [*]
     refine ih.out (l.length-(k+1)) _ _ (by omega) ⟨k+1,n'+1+1,n'+1,_,false,out++[x],.slq (n'+1) 0 (out++[x]).length 0,cs++[q],by omega,rfl,rfl,by omega,⟨fun b hb=>?_⟩,⟨by rw[HST.out];simp⟩,by simp;omega,⟨.inr ⟨by simp,rfl,by omega,by omega,?_,by simp;omega⟩⟩,HR1,by simp[*]⟩
     ·simp (disch:=omega) only[Ad,Ae];exact HG.out b hb
     ·simp (disch:=omega) [Ad,Ae,Ag, *]
 ·have hltI:¬(k:Int)<(l.length:Int):=by omega
  have hcl:cs.length=out.length:=HRW.out.1;have hol2:out.length<=200000:=by omega
  have HR1:=Aa.mk (HRW.out.snoc HW.out);rw[g3u (by omega)] at HRES
  cases p with
  | true =>
   have hRE:RES=out:=by rw[HRES.out];simp[a7f]
   subst hRE
   iterate 8 all_goals try first|apply spl<;>intro h|simp (disch:=first|assumption|omega|simp) [*]
   exact⟨_,_,_,⟨rfl,rfl,rfl⟩,hn',HG.out,B,cs,HGR.out,HRW.out⟩
  | false =>
   have hRE:RES=out++[w]:=by rw[HRES.out];simp[a7f]
   subst hRE;rcases HGR.out with⟨ho,hc0,hs0⟩|⟨ho,hs0,hB1,hB2,hB3,hB4⟩
   ·subst hs0;subst hc0
    iterate 8 all_goals try first|apply spl<;>intro h|simp (disch:=first|assumption|omega|simp) [*]
    exact⟨_,_,_,⟨rfl,rfl,rfl⟩,by omega,fun b hb=>by simp (disch:=omega) only[Ad];exact HG.out b hb,n'+1,[wv],.inr ⟨by omega,rfl,by omega,by omega,Ag,rfl⟩,HR1.out⟩
   ·subst hs0
    iterate 8 all_goals try first|apply spl<;>intro h|simp (disch:=first|assumption|omega|simp) [*]
    exact⟨_,_,_,⟨rfl,rfl,rfl⟩,by omega,fun b hb=>by simp (disch:=omega) only[Ad,Ae];exact HG.out b hb,n'+1,cs++[wv],.inr ⟨by omega,rfl,by omega,by omega,Ag,by simp;omega⟩,HR1.out⟩
end Go.Ai
end
section
namespace Go.Ai
open Go.Proofs Go.Proofs.Tryz
set_option maxRecDepth 10000
set_option maxHeartbeats 40000000
theorem Bc.listv {g g0:Gb} {lo n B:Nat} {l:Wq} {sv:AV} {cs:List AV} (h:Bc g lo n B sv l.length 1 cs) (hn:lo<=n) (hg:∀ b,b<lo->g b=g0 b) (hr:RowsW g0 lo l cs) : Bj g n l sv:=by
 refine⟨cs,Af.ext (Dm _) (fun a x _ hx=>?_) h.slice,hr.ext hn fun a x ha hx=>(hg a ha).trans hx⟩;split at hx
 ·exact hx
 ·cases hx
theorem d6i {w:Wd} : ∀ {l:Wq},(Bv w l).length<=l.length+1
 | []=>Dm _
 | x :: l=>by
  have:=@d6i w l;unfold Bv;split
  ·simp
  ·split
   ·simp
   ·simp;omega
theorem f9t {w r:Wd} {i:Nat} {L:Wq} (h1:i<w.length) (h2:i<r.length) : nodW L (w.take i) (w.drop i) (r.drop i)=if r[i] = -1 then L else nodW (Bv (w.take (i+1)) L) (w.take (i+1)) (w.drop (i+1)) (r.drop (i+1)):=by
 rw[El h1,El h2,a2l h1];rfl
theorem f9u {w r:Wd} {i:Nat} {L:Wq} (h1:¬i<w.length) : nodW L (w.take i) (w.drop i) (r.drop i)=L:=by
 rw[g3u (by omega)];cases r.drop i<;>rfl
theorem f9v {ts:Lq} {k:Nat} (h:k<ts.length) : Ck (ts.take (k+1))=nodW (Ck (ts.take k)) [] ts[k].1 ts[k].2:=by
 unfold Ck;rw[a2l h,List.foldl_append];rfl
theorem f9w {I O:Int} {ts:Lq} (hS:c6q ts) (hL2:∀ t∈ts,t.2.length=t.1.length) (g:Gb) (n:Nat) (sv:AV) (hT:a7e g n ts sv) :
  WC 0 prog 73 [.agg [.li I,.li O,sv]] ⟨.fn g,n⟩ fun r=>∃ ov g' n',r=.ret ov ⟨.fn g',n'⟩/\n<=n'/\(∀ b,b<n->g' b=g b)/\Bj g' n' (Ck ts) ov/\(Ck ts).length<=1+300*ts.length/\∀ x∈Ck ts,x.length<=300:=by
 have hlen:=@Am prog _ _ _ _ _ hT.choose_spec.1;have h1s:=hT.choose_spec.1.one;have hone:allOne [.li I,.li O,sv]=true:=by simp[h1s]
 have hsl:=hS.len;have HS:=Aa.mk hS;have HL2:=Aa.mk hL2;have HT:=Aa.mk hT;clear hS hL2 hT;refine ent [] func73 rfl (by decide +kernel) (by kernel_rfl) ?_
 iterate 8 all_goals try first|apply spl<;>intro h|simp (disch:=first|assumption|omega|simp) [*]
 refine LX.ind (fun m gf H'=>∃ (k n' : Nat) (gL:Gb) (lv:AV),k<=ts.length/\m=ts.length-k/\H'=⟨.fn gL,n'⟩/\n+1+1+1<=n'/\Aa (∀ b,b<n->gL b=g b)/\gL n=some (.cells [.li I,.li O,sv] true 0)/\Aa (Bj gL n' (Ck (ts.take k)) lv)/\(Ck (ts.take k)).length<=1+300*k/\Aa (∀ x∈Ck (ts.take k),x.length<=300) /\
  gf 1=some (.ptr n 0)/\gf 3=some lv/\gf 4=some (.li k)) (m0:=ts.length) ?_ ?_
 ·refine⟨0,_,_,.sl (n+1+1) 0 1 1,Dt _,rfl,rfl,Dm _,⟨fun b hb=>?_⟩,?_,⟨[.sl (n+1) 0 0 0],?_,rfl,fun k hk=>?_⟩,?_,⟨fun x hx=>?_⟩,by simp[*]⟩
  ·simp (disch:=omega) only[Ad]
  ·simp (disch:=omega) only[Ad,Ag]
  ·exact b3x Ag (by omega)
  ·have e:k=0:=by simp[Ck] at hk;omega
   subst e;refine⟨.sl (n+1) 0 0 0,rfl,?_⟩;exact b3x (cs:=[]) (own:=true) (z:=0) (by simp (disch:=omega) only[Ad,Ag]) (by omega)
  ·simp[Ck]
  ·have e:x=[]:=by simpa[Ck] using hx
   rw[e];simp
 rintro m gf H' ⟨k,n',gL,lv,hk,rfl,rfl,hn',HG,hgn,HLV,hlL,HWL,w1,w3,w4⟩ ih;refine rnd [] (by decide +kernel) ?_;by_cases hlt:k<ts.length
 ·have hltI:(k:Int)<(ts.length:Int):=by omega
  obtain⟨a2,off,s1,s2,HAT0,hc1,hc2⟩:=(HT.out.mono (show n<=n' by omega) HG.out).at hlt;have HAT:=Aa.mk HAT0;clear HAT0;have hia:∀ {H:Mem} {ev:Ev} {o:Oper} {ty:TypeId},iaS prog H ev o ty (some (none,2)) (some sv) (some (.li (k:Int)))=.val (.ptr a2 (off+k*2)) H:=fun {H ev o ty}=>HAT.out.ia;have han:a2<n':=HAT.out.an;have hagg:=HAT.out.agg;have h1s1:oneC s1=true:=HAT.out.r1.one;have h1s2:oneC s2=true:=HAT.out.r2.one;have hone2:allOne [s1,s2]=true:=by simp[h1s1,h1s2]
  have hw1:=HS.out.w1 _ (Ds hlt);have hl2:=HL2.out _ (Ds hlt);have HSTP:=Aa.mk (f9v hlt);have hl1:=@Am prog _ _ _ _ _ HAT.out.r1;have HR1:=Aa.mk HAT.out.r1;have HR2:=Aa.mk HAT.out.r2;have HC1:=Aa.mk hc1;clear HAT hc1 hc2;generalize ts[k]=t at *;obtain⟨RES,hRE⟩ : ∃ x,x=Ck (ts.take (k+1)):=⟨_,rfl⟩;rw[<- hRE] at HSTP;have HRE:=Aa.mk hRE;clear hRE;generalize Ck (ts.take k)=L0 at *
  iterate 8 all_goals try first|apply spl<;>intro h|simp (disch:=first|assumption|omega|simp) [*]
  refine LX.ind (fun m gf H'=>∃ (i n2:Nat) (g2:Gb) (lv:AV) (L:Wq),i<=t.1.length/\m=t.1.length-i/\H'=⟨.fn g2,n2⟩/\n'+1<=n2/\Aa (∀ b,b<n'->g2 b=gL b)/\g2 n'=some (.cells [s1,s2] true 0)/\Aa (Bj g2 n2 L lv)/\L.length<=1+300*k+i/\Aa (∀ x∈L,x.length<=300)/\Aa (RES=nodW L (t.1.take i) (t.1.drop i) (t.2.drop i)) /\
   gf 1=some (.ptr n 0)/\gf 3=some lv/\gf 4=some (.li k)/\gf 5=some (.ptr n' 0)/\gf 6=some (.li i)) (m0:=t.1.length) ?_ ?_
  ·exact⟨0,n'+1,_,lv,L0,Dt _,rfl,rfl,Dm _,⟨fun b hb=>Ad hb⟩,Ag,⟨HLV.out.mono (Dx n') fun b hb=>Ad hb⟩,by omega,HWL,HSTP,by simp[*]⟩
  clear w1 w3 w4 HLV HWL HSTP hia hagg;rintro m gf H' ⟨i,n2,g2,lv2,L,hi,rfl,rfl,hn2,HG2,hgt,HLV,hlL2,HWL,HRES,w1,w3,w4,w5,w6⟩ ih2;have hgn2:=(HG2.out n (by omega)).trans hgn;refine rnd [] (by decide +kernel) ?_;by_cases hli:i<t.1.length
  ·have hliI:(i:Int)<(t.1.length:Int):=by omega
   have hli2:i<t.2.length:=by omega
   obtain⟨a3,o3,ha3,hia3,hc3⟩:=Aj.at (Af.mono (Dm n') HG2.out HR2.out) hli2;have HST:=Aa.mk (HRES.out.trans (f9t hli hli2));obtain⟨cut,hcut,hcv⟩:=Af.cut HR1.out HC1.out el57 (k:=i+1) (sz:=1) hli (by omega);have htl:(t.1.take (i+1)).length=i+1:=by rw[Du];omega
   have hcv2:Aj gL n' (t.1.take (i+1)) cut:=by
    unfold Aj;rw[htl,show wdC (t.1.take (i+1))=(wdC t.1).take ((i+1)*1) by simp[wdC]];exact hcv
   rw[show ((i+1:Nat) : Int)=(i:Int)+1 by omega] at hcut;have HAD:=Aa.mk (f9s (l:=L) (w:=t.1.take (i+1)) (by omega) (by omega) (fun x hx=>by have:=HWL.out x hx;omega) g2 n2 lv2 cut HLV.out (Af.mono (by omega) HG2.out hcv2));have HIM:Aa (∀ x∈Bv (t.1.take (i+1)) L,x.length<=300):=⟨fun x hx=>by
    rcases b7x.1 hx with h|h
    ·rw[h];omega
    ·exact HWL.out x h⟩
   have hil:=@d6i (t.1.take (i+1)) L;clear hcv hcv2;generalize t.2[i]=o at *;by_cases ho:o = -1
   ·rw[if_pos ho] at HST;have hRL:=HST.out;subst hRL;subst ho
    iterate 8 all_goals try first|apply spl<;>intro h|simp (disch:=first|assumption|omega|simp) [*]
    exact ih.out (ts.length-(k+1)) _ _ (by omega) ⟨k+1,n2,g2,lv2,by omega,rfl,rfl,by omega,⟨fun b hb=>(HG2.out b (by omega)).trans (HG.out b hb)⟩,hgn2,⟨by rw[<- HRE.out];exact HLV.out⟩,by rw[<- HRE.out];omega,⟨by rw[<- HRE.out];exact HWL.out⟩,by simp[*]⟩
   ·rw[if_neg ho] at HST;generalize Bv (t.1.take (i+1)) L=L2 at *
    iterate 8 all_goals try first|apply spl<;>intro h|simp (disch:=first|assumption|omega|simp) [*]
    refine WC.mono HAD.out ?_;rintro _ ⟨ov,g3,n3,B,cs,rfl,hn3,hg3,hgr,hrw⟩;have HG3:=Aa.mk hg3;have HLN:Aa (Bj g3 n3 L2 ov):=⟨hgr.listv hn3 hg3 hrw⟩;clear hg3 hgr hrw
    iterate 8 all_goals try first|apply spl<;>intro h|simp (disch:=first|assumption|omega|simp) [*]
    exact ih2.out (t.1.length-(i+1)) _ _ (by omega) ⟨i+1,n3,g3,ov,L2,by omega,rfl,rfl,by omega,⟨fun b hb=>(HG3.out b (by omega)).trans (HG2.out b hb)⟩,(HG3.out n' (by omega)).trans hgt,HLN,by omega,HIM,HST,by simp[*]⟩
  ·have hliI:¬(i:Int)<(t.1.length:Int):=by omega
   have hRL:=HRES.out.trans (f9u hli);subst hRL
   iterate 8 all_goals try first|apply spl<;>intro h|simp (disch:=first|assumption|omega|simp) [*]
   exact ih.out (ts.length-(k+1)) _ _ (by omega) ⟨k+1,n2,g2,lv2,by omega,rfl,rfl,by omega,⟨fun b hb=>(HG2.out b (by omega)).trans (HG.out b hb)⟩,hgn2,⟨by rw[<- HRE.out];exact HLV.out⟩,by rw[<- HRE.out];omega,⟨by rw[<- HRE.out];exact HWL.out⟩,by simp[*]⟩
 ·have hltI:¬(k:Int)<(ts.length:Int):=by omega
  rw[Ee (by omega)] at HLV HWL hlL
  iterate 8 all_goals try first|apply spl<;>intro h|simp (disch:=first|assumption|omega|simp) [*]
  exact⟨_,_,_,⟨rfl,rfl,rfl⟩,by omega,HG.out,HLV.out,by omega,HWL.out⟩
end Go.Ai
end
section
namespace Go.Ai
open Go.Proofs Go.Proofs.Tryz
set_option maxRecDepth 10000
set_option maxHeartbeats 40000000
variable {g:Gb} {n:Nat}
def RowsG (g:Gb) (n:Nat) (rows:Tq) (svs:List AV) : Prop:=svs.length=rows.length/\∀ (k:Nat) (h:k<rows.length),∃ sv,svs[k]?=some sv/\Af g n sv rows[k].length (Bz rows[k])
def Bw (g:Gb) (n:Nat) (rows:Tq) (tv:AV) : Prop:=∃ svs,Af g n tv rows.length svs/\RowsG g n rows svs
theorem RowsG.snoc {l:Tq} {svs:List AV} (h:RowsG g n l svs) {x:List (Int×Int)} {q:AV} (hq:Af g n q x.length (Bz x)) : RowsG g n (l++[x]) (svs++[q]):=by
 refine⟨by simp[h.1],fun k hk=>?_⟩;have hl:=h.1;rw[Dr,Ef] at hk;by_cases h2:k<l.length
 ·obtain⟨sv,e1,e2⟩:=h.2 k h2;exact⟨sv,by rw[g3t (by omega)];exact e1,by rw[g4e h2];exact e2⟩
 ·have e:k=l.length:=by omega
  subst e;exact⟨q,by rw[<- hl,Em (Dm _)];simp,by rw[g5g (Dm _)];simpa using hq⟩
theorem RowsG.ext {g': Gb} {n': Nat} {l:Tq} {svs:List AV} (h:RowsG g n l svs) (hn:n<=n') (hg:∀ a x,a<n->g a=some x->g' a=some x) : RowsG g' n' l svs :=
 ⟨h.1,fun k hk=>let ⟨sv,h1,h2⟩:=h.2 k hk;⟨sv,h1,Af.ext hn hg h2⟩⟩
theorem Bw.mono {g': Gb} {n': Nat} {rows:Tq} {tv:AV} (h:Bw g n rows tv) (hn:n<=n') (hg:∀ a,a<n->g' a=g a) : Bw g' n' rows tv :=
 let ⟨svs,h1,h2⟩:=h;⟨svs,h1.mono hn hg,h2.ext hn fun a x ha hx=>(hg a ha).trans hx⟩
theorem RowsC.tree {lo I B:Nat} {rows:Tq} {bs:List Nat} (h:RowsC g lo n I rows bs) (hB:B<n) (hg:g B=some (.cells (a8w I bs) true 0)) : Bw g n rows (.sl B 0 rows.length rows.length):=by
 refine⟨a8w I bs,b3x hg hB,by rw[c6x];exact h.len,fun k hk=>?_⟩;have hk2:k<bs.length:=by have:=h.len;omega
 obtain⟨e1,e2,e3,e4⟩:=h.at' k hk2 hk;refine⟨.sl bs[k] 0 I I,by rw[Dy (by rw[c6x];exact hk2),f9o hk2],?_⟩;rw[e4];exact b3x e3 e2
theorem Bw.at {rows:Tq} {tv:AV} (h:Bw g n rows tv) {k:Nat} (hk:k<rows.length) : ∃ a off q,a<n/\(∀ {H:Mem} {ev:Ev} {o:Oper} {t:TypeId},iaS prog H ev o t (some (none,1)) (some tv) (some (.li (k:Int)))=.val (.ptr a (off+k)) H)/\Be (some (false,1)) (g a) (off+k)=some q/\Af g n q rows[k].length (Bz rows[k]):=by
 obtain⟨svs,h1,h2,h3⟩:=h;obtain⟨q,e1,e2⟩:=h3 k hk;obtain⟨a,off,ha,hrow,hia⟩:=h1.ia (P:=prog) hk 1;simp only[Ea] at hia;have hc:=hrow.one (k:=k) (s:=1) (by omega);rw[(Eb.1 e1).2] at hc;exact⟨a,off,q,ha,hia,hc,e2⟩
theorem c1j {row:List (Int×Int)} {q:AV} (h:Af g n q row.length (Bz row)) {i:Nat} (hi:i<row.length) : ∃ a off,a<n/\(∀ {H:Mem} {ev:Ev} {o:Oper} {t:TypeId},iaS prog H ev o t (some (none,2)) (some q) (some (.li (i:Int)))=.val (.ptr a (off+i*2)) H)/\Be (some (true,2)) (g a) (off+i*2)=some (.agg [.lit (.int .i64 row[i].1),.lit (.int .i64 row[i].2)]):=by
 obtain⟨a,off,ha,hrow,hia⟩:=h.ia (P:=prog) hi 2;have hc:=hrow.agg (k:=i*2) (s:=2) (by rw[rowC_len];omega);rw[rowC_at row i hi] at hc;exact⟨a,off,ha,hia,hc⟩
theorem f9x {H:Mem} {ev:Ev} {d:Option Tmp} {ty rt:TypeId} {p:String} {af:Array Edge} {g:Option (Nat×Bool)} {x y:Operand} {a b a' b': Int} (hx:ev x=some (.agg [.li a,.li b])) (hy:ev y=some (.agg [.li a',.li b'])) :
  a2j prog H ev ⟨d,.binOp .neq 97 x y rt,ty,p,af,g⟩ .neq 97 (some (.agg [.li a,.li b])) (some (.agg [.li a',.li b']))=.val (.lit (.bool (!(decide (a=a') && decide (b=b'))))) H:=by
 show Bo prog H ev ⟨d,.binOp .neq 97 x y rt,ty,p,af,g⟩ .neq 97 (some (.agg [.li a,.li b])) (some (.agg [.li a',.li b']))=_;refine b0e rfl ?_;have h1:(Op.operands (.binOp .neq 97 x y rt)).toList=[x,y]:=rfl;unfold Ba;dsimp only;rw[h1];have l1:toLit (.agg [.li a,.li b])=some (.agg #[.int .i64 a,.int .i64 b]):=rfl;have l2:toLit (.agg [.li a',.li b'])=some (.agg #[.int .i64 a',.int .i64 b']):=rfl;simp only[g6n,List.all_nil,hx,hy,l1,l2,g6f,if_true];have h2:∀ ρ:Operand->Value,ρ x=.agg #[.int .i64 a,.int .i64 b]->ρ y=.agg #[.int .i64 a',.int .i64 b']->Ao prog (execOp ρ ⟨d,.binOp .neq 97 x y rt,ty,p,af,g⟩)=some (.value (.bool (!(decide (a=a') && decide (b=b'))))):=by
  intro ρ e1 e2;refine b0f e1 e2 ?_ ?_
  ·unfold eqGuard;kernel_rfl
  ·show Ao prog (do pure (Value.bool (!(<- Op.equal 97 _ _))))=_;exact(Bt (f8u a b a' b')).trans rfl
 rw[h2 _ (by simp only[hx,l1]) (by simp only[hy,l2])]
attribute [simp] f9x
end Go.Ai
end
section
namespace Go.Ai
open Go.Proofs Go.Proofs.Tryz
set_option maxRecDepth 10000
set_option maxHeartbeats 40000000
end Go.Ai
end
section
namespace Go.Ai
open Go.Proofs Go.Proofs.Tryz
set_option maxRecDepth 10000
set_option maxHeartbeats 40000000
def a3n (x:Nat) (g:Gb) : Gb:=fun a=>if a<x then none else g a
theorem a5m {x a:Nat} {g:Gb} (h:x<=a) : a3n x g a=g a:=if_neg (by omega)
theorem b2w {x a:Nat} {g:Gb} {u:Blk} (h:a3n x g a=some u) : x<=a/\g a=some u:=by
 unfold a3n at h;split at h
 ·cases h
 ·exact⟨by omega,h⟩
theorem f9y {I:Nat} {O:Int} {ts:Lq} (hL:a6e I O ts) (hC:a5l ts) (g:Gb) (n:Nat) (sv:AV) (hT:a7e g n ts sv) :
  WC 0 prog 25 [.agg [.li I,.li O,sv]] ⟨.fn g,n⟩ fun r=>∃ rv g' n',r=.ret (.agg [.li I,.li O,rv]) ⟨.fn g',n'⟩/\n<=n'/\(∀ b,b<n->g' b=g b)/\Bw (a3n n g') n' (a0g I ts) rv:=by
 have h1s:=hT.choose_spec.1.one
 have hone:allOne [.li I,.li O,sv]=true:=by simp[h1s]
 have hI1:=hL.i1
 have hI2:=hL.i2
 have htl:=hL.len
 have HNO:=Aa.mk fun (gX:Gb) (n2:Nat) (hn:n<=n2) (hX:∀ b,b<n->gX b=g b)=>f9w (I:=I) (O:=O) hL.small (fun t ht=>(hL.lens ht).1) gX n2 sv (hT.mono hn hX)
 have HLA:=Aa.mk fun (w:Wd) (h0:0<w.length) (hw:w.length<=1000) (gX:Gb) (n2:Nat) (wv:AV) (hn:n<=n2) (hX:∀ b,b<n->gX b=g b) (hW:Aj gX n2 w wv)=>f9r (I:=I) (O:=O) hL.small (fun t ht=>(hL.lens ht).1) h0 hw gX n2 sv wv (hT.mono hn hX) hW
 have HMV:=Aa.mk fun (x:Wd)=>b4p hL.ok hC x
 have HRL:Aa (a0g I ts=(Ck ts).map (Bd (valT ts) (Ck ts) I)):=⟨rfl⟩
 have hpos:Aa (0<(Ck ts).length):=⟨List.length_pos_of_mem ((b4p hL.ok hC []).2 (.inl rfl))⟩
 clear hL hC hT
 refine ent [] func25 rfl (by decide +kernel) (by kernel_rfl) ?_
 iterate 8 all_goals try first|refine spl (fun h=>?_) fun h=>?_|simp (maxSteps:=999999) (disch:=first|assumption|omega|(simp;done)|fail) [*]
 refine WC.mono (HNO.out _ _ (by omega) fun b hb=>by simp (disch:=omega) only[Ad]) ?_
 rintro _ ⟨ov,gX,n',rfl,hn',hX,hLV,hnl,hwl⟩
 have HX:Aa (∀ b,b<n->gX b=g b):=⟨fun b hb=>(hX b (by omega)).trans (by simp (disch:=omega) only[Ad])⟩
 have hb0:=hX n (by omega)
 have hb1:=hX (n+1) (by omega)
 simp (disch:=omega) only[Ad,Ag] at hb0 hb1
 have hlen:=@Am prog _ _ _ _ _ hLV.choose_spec.1
 have HLV:=Aa.mk hLV
 have HWL:=Aa.mk hwl
 clear hX hLV hwl HNO
 rw[HRL.out]
 clear HRL
 generalize Ck ts=ws at *
 generalize valT ts=V at *
 have hnl2:ws.length<=100000:=by omega
 iterate 8 all_goals try first|refine spl (fun h=>?_) fun h=>?_|simp (maxSteps:=999999) (disch:=first|assumption|omega|(simp;done)|fail) [*]
 refine LX.ind (fun m gf H'=>∃ (q n2 B:Nat) (gL:Gb) (rv:AV) (svs:List AV),q<=ws.length/\m=ws.length-q/\H'=⟨.fn gL,n2⟩/\n'+1<=n2/\B<n2/\Aa (∀ b,b<n'->gL b=gX b)/\gL n'=some (.cells [.li I,.li O,rv] true 0)/\Aa (Bc gL (n'+1) n2 B rv q 1 svs)/\Aa (RowsG (a3n (n+2) (a1v n' (a1v B gL))) n2 ((ws.take q).map (Bd V ws I)) svs) /\
  gf 1=some (.ptr n 0)/\gf 2=some (.ptr (n+1) 0)/\gf 3=some ov/\gf 4=some (.ptr n' 0)/\gf 5=some (.li q)) (m0:=ws.length) ?_ ?_
 ·exact⟨0,n'+1,0,_,_,[],Nat.zero_le _,rfl,rfl,Nat.le_refl _,Nat.succ_pos _,⟨fun b hb=>Ad hb⟩,Ag,⟨.inl ⟨rfl,rfl,rfl⟩⟩,⟨⟨by simp,fun k hk=>by simp at hk⟩⟩,by simp,by simp,by simp,by simp,by simp⟩
 rintro m gf H' ⟨q,n2,B,gL,rv,svs,hq,rfl,rfl,hn2,hBn,HG,hgr,HGR,HRG,w1,w2,w3,w4,w5⟩ ih
 have hg0:=(HG.out n (by omega)).trans hb0
 have hg1:=(HG.out (n+1) (by omega)).trans hb1
 refine rnd [] (by decide +kernel) ?_
 by_cases hlt:q<ws.length
 ·have hltI:(q:Int)<(ws.length:Int):=by omega
  obtain⟨a1,o1,qv,ha1,hia1,hc1,hqv⟩:=HLV.out.at hlt
  have HMQ:Aa (ws[q]∈ws):=⟨List.getElem_mem hlt⟩
  have hwq:=HWL.out _ HMQ.out
  have HQV:=Aa.mk hqv
  have HTK:Aa ((ws.take (q+1)).map (Bd V ws I)=(ws.take q).map (Bd V ws I)++[Bd V ws I ws[q]]):=⟨by rw[a2l hlt,List.map_append];rfl⟩
  clear hqv
  generalize ws[q]=node at *
  iterate 8 all_goals try first|refine spl (fun h=>?_) fun h=>?_|simp (maxSteps:=999999) (disch:=first|assumption|omega|(simp;done)|fail) [*]
  refine LX.ind (fun m gf H'=>∃ (i n3 B6:Nat) (gI:Gb) (tv:AV),i<=I/\m=I-i/\H'=⟨.fn gI,n3⟩/\n2<=n3/\Aa (∀ b,b<n2->gI b=gL b)/\Aa (Bc gI n2 n3 B6 tv i 2 (Bz ((Bd V ws I node).take i))) /\
   gf 1=some (.ptr n 0)/\gf 2=some (.ptr (n+1) 0)/\gf 3=some ov/\gf 4=some (.ptr n' 0)/\gf 5=some (.li q)/\gf 6=some tv/\gf 7=some (.li i)) (m0:=I) ?_ ?_
  ·exact⟨0,n2,0,gL,_,Nat.zero_le _,rfl,rfl,Nat.le_refl _,⟨fun _ _=>rfl⟩,⟨.inl ⟨rfl,rfl,rfl⟩⟩,by simp[*],by simp[*],by simp[*],by simp[*],by simp[*],by simp,by simp⟩
  clear w1 w2 w3 w4 w5
  rintro m gf H' ⟨i,n3,B6,gI,tv,hi,rfl,rfl,hn3,HGI,HG6,w1,w2,w3,w4,w5,w6,w7⟩ ih2
  have hi0:=(HGI.out n (by omega)).trans hg0
  have hi1:=(HGI.out (n+1) (by omega)).trans hg1
  have hir:=(HGI.out n' (by omega)).trans hgr
  refine rnd [] (by decide +kernel) ?_
  by_cases hli:i<I
  ·have hliI:(i:Int)<(I:Int):=by omega
   have HGX:Aa (∀ b,b<n'->gI b=gX b):=⟨fun b hb=>(HGI.out b (by omega)).trans (HG.out b hb)⟩
   have hc1' : Be (some (false,1)) (gI a1) (o1+q)=some qv:=(congrArg (fun z=>Be (some (false,1)) z (o1+q)) (HGX.out a1 ha1)).trans hc1
   have hv:Af gI n3 qv node.length (wdC node):=Af.mono (by omega) HGX.out HQV.out
   have hcr:(Bz ((Bd V ws I node).take i)).length=i*2:=by rw[rowC_len,List.length_take,b2u];omega
   have HNX:Aa ((Bd V ws I node).take (i+1)=(Bd V ws I node).take i++[Ay V ws node i]):=⟨by
    have h1:i<(Bd V ws I node).length:=by rw[b2u];exact hli
    rw[a2l h1]
    have h2:=b7t (V:=V) (ws:=ws) (I:=I) (w:=node) hli
    rw[(List.getElem?_eq_some_iff.1 h2).2]⟩
   have hcsn:∀ e:Int×Int,Bz ((Bd V ws I node).take i++[e])=Bz ((Bd V ws I node).take i)++[.li e.1,.li e.2]:=fun e=>b2c _ _
   have HSN:=Aa.mk hcsn
   clear hcsn hc1
   by_cases hne:node.length=0
   ·have hnn:node=[]:=List.length_eq_zero_iff.1 hne
    rw[hne] at hv
    have hap:=fun {H:Mem} {ev:Ev} {d:Option Tmp} {ty:TypeId} {p:String} {af:Array Edge} {gd:Option (Nat×Bool)} {x y:Operand} {s t:TypeId} {a off:Nat} {hx:ev x=some (.sl a off 0 0)} {hy:ev y=some qv} (hp:(apI prog s t).isSome=true)=>Af.ap00 (P:=prog) hv (H:=H) (ev:=ev) (d:=d) (ty:=ty) (p:=p) (af:=af) (gd:=gd) (x:=x) (y:=y) (a:=a) (off:=off) (hx:=hx) (hy:=hy) hp
    have HNN:=Aa.mk hnn
    clear hv hne hnn
    iterate 8 all_goals try first|refine spl (fun h=>?_) fun h=>?_|simp (maxSteps:=999999) (disch:=first|assumption|omega|(simp;done)|fail) [*]
    have HREP:=Aa.mk fun (g9:Gb) (n9:Nat) (h1:g9 (n3+1+1)=some (.cells [.li i] true 1)) (h2:n3+1+1<n9)=>show Aj g9 n9 (node++[(i:Int)]) (.slq (n3+1+1) 0 1 0) from by
     exact .inr ⟨n3+1+1,0,h2,.inr ⟨0,by rw[HNN.out];rfl⟩,_,true,1,h1,by simp[HNN.out,wdC],by rw[HNN.out];simp[wdC]⟩
    clear hap
    refine WC.mono (HLA.out (node++[(i:Int)]) (by simp) (by simp;omega) _ _ _ (by omega) (fun b hb=>?_) (HREP.out _ _ Ag (by omega))) ?_
    ·simp (disch:=omega) only[Ad,Ae];exact(HGX.out b (by omega)).trans (HX.out b hb)
    rintro _ ⟨g5,rfl,hg5⟩
    have H5:Aa (∀ b,b<n3->g5 b=gI b):=⟨fun b hb=>(hg5 b (by omega)).trans (by simp (disch:=omega) only[Ad,Ae])⟩
    have HR5:=Aa.mk (HREP.out g5 (n3+1+1+1+1) ((hg5 (n3+1+1) (by omega)).trans Ag) (by omega))
    clear hg5
    cases hVo:V (node++[(i:Int)]) with
    | none =>
     have HE:Aa (Ay V ws node i=(-1,-1)):=⟨by unfold Ay;rw[hVo]⟩
     simp only[lastV]
     rcases HG6.out with⟨h6,hc6,hs6⟩|⟨h6,hs6,hC1,hC2,hC3,hC4⟩
     ·subst hs6
      have HZ:=Aa.mk (And.intro h6 hc6)
      clear h6 hc6
      iterate 8 all_goals try first|refine spl (fun h=>?_) fun h=>?_|simp (maxSteps:=999999) (disch:=first|assumption|omega|(simp;done)|fail) [*]
      refine ih2.out (I-(i+1)) _ _ (by omega) ⟨i+1,n3+1+1+1+1+1+1,n3+1+1+1+1+1,_,.slq (n3+1+1+1+1+1) 0 (i+1) 0,by omega,rfl,rfl,by omega,⟨fun b hb=>?_⟩,⟨?_⟩,by simp[*],by simp[*],by simp[*],by simp[*],by simp[*],by simp[HZ.out.1, *],by simp⟩
      ·simp (disch:=omega) only[Ad,Ae];exact(H5.out b (by omega)).trans (HGI.out b hb)
      ·rw[HNX.out,HE.out,HSN.out]
       refine .mk ?_ (by omega) (by omega) (by simp;omega)
       rw[HZ.out.2]
       simp (disch:=omega) only[Ad,Ae,Ag];rfl
     ·subst hs6
      have hC5:=(H5.out B6 (by omega)).trans hC3
      clear hC3
      iterate 8 all_goals try first|refine spl (fun h=>?_) fun h=>?_|simp (maxSteps:=999999) (disch:=first|assumption|omega|(simp;done)|fail) [*]
      refine ih2.out (I-(i+1)) _ _ (by omega) ⟨i+1,n3+1+1+1+1+1+1,n3+1+1+1+1+1,_,.slq (n3+1+1+1+1+1) 0 (i+1) 0,by omega,rfl,rfl,by omega,⟨fun b hb=>?_⟩,⟨?_⟩,by simp[*],by simp[*],by simp[*],by simp[*],by simp[*],by simp[*],by simp⟩
      ·simp (disch:=omega) only[Ad,Ae];exact(H5.out b (by omega)).trans (HGI.out b hb)
      ·rw[HNX.out,HE.out,HSN.out]
       refine .mk ?_ (by omega) (by omega) (by simp;omega)
       simp (disch:=omega) only[Ad,Ae,Ag]
    | some o =>
     by_cases ho:o = -1
     ·have HE:Aa (Ay V ws node i=(-1,-2)):=⟨by unfold Ay;rw[hVo];exact if_pos ho⟩
      clear hVo
      subst ho
      simp only[lastV]
      rcases HG6.out with⟨h6,hc6,hs6⟩|⟨h6,hs6,hC1,hC2,hC3,hC4⟩
      ·subst hs6
       have HZ:=Aa.mk (And.intro h6 hc6)
       clear h6 hc6
       iterate 8 all_goals try first|refine spl (fun h=>?_) fun h=>?_|simp (maxSteps:=999999) (disch:=first|assumption|omega|(simp;done)|fail) [*]
       refine ih2.out (I-(i+1)) _ _ (by omega) ⟨i+1,n3+1+1+1+1+1+1,n3+1+1+1+1+1,_,.slq (n3+1+1+1+1+1) 0 (i+1) 0,by omega,rfl,rfl,by omega,⟨fun b hb=>?_⟩,⟨?_⟩,by simp[*],by simp[*],by simp[*],by simp[*],by simp[*],by simp[HZ.out.1, *],by simp⟩
       ·simp (disch:=omega) only[Ad,Ae];exact(H5.out b (by omega)).trans (HGI.out b hb)
       ·rw[HNX.out,HE.out,HSN.out]
        refine .mk ?_ (by omega) (by omega) (by simp;omega)
        rw[HZ.out.2]
        simp (disch:=omega) only[Ad,Ae,Ag];rfl
      ·subst hs6
       have hC5:=(H5.out B6 (by omega)).trans hC3
       clear hC3
       iterate 8 all_goals try first|refine spl (fun h=>?_) fun h=>?_|simp (maxSteps:=999999) (disch:=first|assumption|omega|(simp;done)|fail) [*]
       refine ih2.out (I-(i+1)) _ _ (by omega) ⟨i+1,n3+1+1+1+1+1+1,n3+1+1+1+1+1,_,.slq (n3+1+1+1+1+1) 0 (i+1) 0,by omega,rfl,rfl,by omega,⟨fun b hb=>?_⟩,⟨?_⟩,by simp[*],by simp[*],by simp[*],by simp[*],by simp[*],by simp[*],by simp⟩
       ·simp (disch:=omega) only[Ad,Ae];exact(H5.out b (by omega)).trans (HGI.out b hb)
       ·rw[HNX.out,HE.out,HSN.out]
        refine .mk ?_ (by omega) (by omega) (by simp;omega)
        simp (disch:=omega) only[Ad,Ae,Ag]
     ·have HE:Aa (Ay V ws node i=(((ws.idxOf (node++[(i:Int)]) : Nat) : Int),o)):=⟨by unfold Ay;rw[hVo];exact if_neg ho⟩
      have HFI:=Aa.mk (d6g (l:=ws) (by omega) (w:=node++[(i:Int)]) (by simp;omega) ((HMV.out _).2 (.inr ⟨o,hVo,ho⟩)) (fun x hx=>by have:=HWL.out x hx;omega) g5 (n3+1+1+1+1) ov _ (HLV.out.mono (by omega) fun b hb=>(H5.out b (by omega)).trans (HGX.out b hb)) HR5.out)
      clear hVo
      generalize ws.idxOf (node++[(i:Int)])=ix at *
      simp only[lastV]
      rcases HG6.out with⟨h6,hc6,hs6⟩|⟨h6,hs6,hC1,hC2,hC3,hC4⟩
      ·subst hs6
       have HZ:=Aa.mk (And.intro h6 hc6)
       clear h6 hc6
       iterate 8 all_goals try first|refine spl (fun h=>?_) fun h=>?_|simp (maxSteps:=999999) (disch:=first|assumption|omega|(simp;done)|fail) [*]
       refine WC.mono HFI.out ?_
       rintro _ rfl
       iterate 8 all_goals try first|refine spl (fun h=>?_) fun h=>?_|simp (maxSteps:=999999) (disch:=first|assumption|omega|(simp;done)|fail) [*]
       refine ih2.out (I-(i+1)) _ _ (by omega) ⟨i+1,n3+1+1+1+1+1+1,n3+1+1+1+1+1,_,.slq (n3+1+1+1+1+1) 0 (i+1) 0,by omega,rfl,rfl,by omega,⟨fun b hb=>?_⟩,⟨?_⟩,by simp[*],by simp[*],by simp[*],by simp[*],by simp[*],by simp[HZ.out.1, *],by simp⟩
       ·simp (disch:=omega) only[Ad,Ae];exact(H5.out b (by omega)).trans (HGI.out b hb)
       ·rw[HNX.out,HE.out,HSN.out]
        refine .mk ?_ (by omega) (by omega) (by simp;omega)
        rw[HZ.out.2]
        simp (disch:=omega) only[Ad,Ae,Ag];rfl
      ·subst hs6
       have hC5:=(H5.out B6 (by omega)).trans hC3
       clear hC3
       iterate 8 all_goals try first|refine spl (fun h=>?_) fun h=>?_|simp (maxSteps:=999999) (disch:=first|assumption|omega|(simp;done)|fail) [*]
       refine WC.mono HFI.out ?_
       rintro _ rfl
       iterate 8 all_goals try first|refine spl (fun h=>?_) fun h=>?_|simp (maxSteps:=999999) (disch:=first|assumption|omega|(simp;done)|fail) [*]
       refine ih2.out (I-(i+1)) _ _ (by omega) ⟨i+1,n3+1+1+1+1+1+1,n3+1+1+1+1+1,_,.slq (n3+1+1+1+1+1) 0 (i+1) 0,by omega,rfl,rfl,by omega,⟨fun b hb=>?_⟩,⟨?_⟩,by simp[*],by simp[*],by simp[*],by simp[*],by simp[*],by simp[*],by simp⟩
       ·simp (disch:=omega) only[Ad,Ae];exact(H5.out b (by omega)).trans (HGI.out b hb)
       ·rw[HNX.out,HE.out,HSN.out]
        refine .mk ?_ (by omega) (by omega) (by simp;omega)
        simp (disch:=omega) only[Ad,Ae,Ag]
   ·have hnp:0<node.length:=by omega
    obtain⟨a2,blk,ha2,hga2,hap⟩:=Af.ap0 (P:=prog) (sz:=1) hv hnp (by omega) (by rw[Bl,Nat.mul_one])
    have hwl1:(wdC node).length=node.length*1:=by rw[Bl,Nat.mul_one]
    have hnl3:node.length<=1000000:=by omega
    clear hv hne
    iterate 8 all_goals try first|refine spl (fun h=>?_) fun h=>?_|simp (maxSteps:=999999) (disch:=first|assumption|omega|(simp;done)|fail) [*]
    have HREP:=Aa.mk fun (g9:Gb) (n9:Nat) (h1:g9 (n3+1+1+1)=some (.cells (wdC node++[.li i]) true 1)) (h2:n3+1+1+1<n9)=>show Aj g9 n9 (node++[(i:Int)]) (.slq (n3+1+1+1) 0 (node.length+1) 0) from by
     exact .inr ⟨n3+1+1+1,0,h2,.inr ⟨0,by simp⟩,_,true,1,h1,by simp[wdC],by rw[a8u,List.drop_zero];exact List.take_of_length_le (by simp[wdC])⟩
    clear hap hga2 hwl1
    refine WC.mono (HLA.out (node++[(i:Int)]) (by simp) (by simp;omega) _ _ _ (by omega) (fun b hb=>?_) (HREP.out _ _ Ag (by omega))) ?_
    ·simp (disch:=omega) only[Ad,Ae];exact(HGX.out b (by omega)).trans (HX.out b hb)
    rintro _ ⟨g5,rfl,hg5⟩
    have H5:Aa (∀ b,b<n3->g5 b=gI b):=⟨fun b hb=>(hg5 b (by omega)).trans (by simp (disch:=omega) only[Ad,Ae])⟩
    have HR5:=Aa.mk (HREP.out g5 (n3+1+1+1+1+1) ((hg5 (n3+1+1+1) (by omega)).trans Ag) (by omega))
    clear hg5
    cases hVo:V (node++[(i:Int)]) with
    | none =>
     have HE:Aa (Ay V ws node i=(-1,-1)):=⟨by unfold Ay;rw[hVo]⟩
     simp only[lastV]
     rcases HG6.out with⟨h6,hc6,hs6⟩|⟨h6,hs6,hC1,hC2,hC3,hC4⟩
     ·subst hs6
      have HZ:=Aa.mk (And.intro h6 hc6)
      clear h6 hc6
      iterate 8 all_goals try first|refine spl (fun h=>?_) fun h=>?_|simp (maxSteps:=999999) (disch:=first|assumption|omega|(simp;done)|fail) [*]
      refine ih2.out (I-(i+1)) _ _ (by omega) ⟨i+1,n3+1+1+1+1+1+1+1,n3+1+1+1+1+1+1,_,.slq (n3+1+1+1+1+1+1) 0 (i+1) 0,by omega,rfl,rfl,by omega,⟨fun b hb=>?_⟩,⟨?_⟩,by simp[*],by simp[*],by simp[*],by simp[*],by simp[*],by simp[HZ.out.1, *],by simp⟩
      ·simp (disch:=omega) only[Ad,Ae];exact(H5.out b (by omega)).trans (HGI.out b hb)
      ·rw[HNX.out,HE.out,HSN.out]
       refine .mk ?_ (by omega) (by omega) (by simp;omega)
       rw[HZ.out.2]
       simp (disch:=omega) only[Ad,Ae,Ag];rfl
     ·subst hs6
      have hC5:=(H5.out B6 (by omega)).trans hC3
      clear hC3
      iterate 8 all_goals try first|refine spl (fun h=>?_) fun h=>?_|simp (maxSteps:=999999) (disch:=first|assumption|omega|(simp;done)|fail) [*]
      refine ih2.out (I-(i+1)) _ _ (by omega) ⟨i+1,n3+1+1+1+1+1+1+1,n3+1+1+1+1+1+1,_,.slq (n3+1+1+1+1+1+1) 0 (i+1) 0,by omega,rfl,rfl,by omega,⟨fun b hb=>?_⟩,⟨?_⟩,by simp[*],by simp[*],by simp[*],by simp[*],by simp[*],by simp[*],by simp⟩
      ·simp (disch:=omega) only[Ad,Ae];exact(H5.out b (by omega)).trans (HGI.out b hb)
      ·rw[HNX.out,HE.out,HSN.out]
       refine .mk ?_ (by omega) (by omega) (by simp;omega)
       simp (disch:=omega) only[Ad,Ae,Ag]
    | some o =>
     by_cases ho:o = -1
     ·have HE:Aa (Ay V ws node i=(-1,-2)):=⟨by unfold Ay;rw[hVo];exact if_pos ho⟩
      clear hVo
      subst ho
      simp only[lastV]
      rcases HG6.out with⟨h6,hc6,hs6⟩|⟨h6,hs6,hC1,hC2,hC3,hC4⟩
      ·subst hs6
       have HZ:=Aa.mk (And.intro h6 hc6)
       clear h6 hc6
       iterate 8 all_goals try first|refine spl (fun h=>?_) fun h=>?_|simp (maxSteps:=999999) (disch:=first|assumption|omega|(simp;done)|fail) [*]
       refine ih2.out (I-(i+1)) _ _ (by omega) ⟨i+1,n3+1+1+1+1+1+1+1,n3+1+1+1+1+1+1,_,.slq (n3+1+1+1+1+1+1) 0 (i+1) 0,by omega,rfl,rfl,by omega,⟨fun b hb=>?_⟩,⟨?_⟩,by simp[*],by simp[*],by simp[*],by simp[*],by simp[*],by simp[HZ.out.1, *],by simp⟩
       ·simp (disch:=omega) only[Ad,Ae];exact(H5.out b (by omega)).trans (HGI.out b hb)
       ·rw[HNX.out,HE.out,HSN.out]
        refine .mk ?_ (by omega) (by omega) (by simp;omega)
        rw[HZ.out.2]
        simp (disch:=omega) only[Ad,Ae,Ag];rfl
      ·subst hs6
       have hC5:=(H5.out B6 (by omega)).trans hC3
       clear hC3
       iterate 8 all_goals try first|refine spl (fun h=>?_) fun h=>?_|simp (maxSteps:=999999) (disch:=first|assumption|omega|(simp;done)|fail) [*]
       refine ih2.out (I-(i+1)) _ _ (by omega) ⟨i+1,n3+1+1+1+1+1+1+1,n3+1+1+1+1+1+1,_,.slq (n3+1+1+1+1+1+1) 0 (i+1) 0,by omega,rfl,rfl,by omega,⟨fun b hb=>?_⟩,⟨?_⟩,by simp[*],by simp[*],by simp[*],by simp[*],by simp[*],by simp[*],by simp⟩
       ·simp (disch:=omega) only[Ad,Ae];exact(H5.out b (by omega)).trans (HGI.out b hb)
       ·rw[HNX.out,HE.out,HSN.out]
        refine .mk ?_ (by omega) (by omega) (by simp;omega)
        simp (disch:=omega) only[Ad,Ae,Ag]
     ·have HE:Aa (Ay V ws node i=(((ws.idxOf (node++[(i:Int)]) : Nat) : Int),o)):=⟨by unfold Ay;rw[hVo];exact if_neg ho⟩
      have HFI:=Aa.mk (d6g (l:=ws) (by omega) (w:=node++[(i:Int)]) (by simp;omega) ((HMV.out _).2 (.inr ⟨o,hVo,ho⟩)) (fun x hx=>by have:=HWL.out x hx;omega) g5 (n3+1+1+1+1+1) ov _ (HLV.out.mono (by omega) fun b hb=>(H5.out b (by omega)).trans (HGX.out b hb)) HR5.out)
      clear hVo
      generalize ws.idxOf (node++[(i:Int)])=ix at *
      simp only[lastV]
      rcases HG6.out with⟨h6,hc6,hs6⟩|⟨h6,hs6,hC1,hC2,hC3,hC4⟩
      ·subst hs6
       have HZ:=Aa.mk (And.intro h6 hc6)
       clear h6 hc6
       iterate 8 all_goals try first|refine spl (fun h=>?_) fun h=>?_|simp (maxSteps:=999999) (disch:=first|assumption|omega|(simp;done)|fail) [*]
       refine WC.mono HFI.out ?_
       rintro _ rfl
       iterate 8 all_goals try first|refine spl (fun h=>?_) fun h=>?_|simp (maxSteps:=999999) (disch:=first|assumption|omega|(simp;done)|fail) [*]
       refine ih2.out (I-(i+1)) _ _ (by omega) ⟨i+1,n3+1+1+1+1+1+1+1,n3+1+1+1+1+1+1,_,.slq (n3+1+1+1+1+1+1) 0 (i+1) 0,by omega,rfl,rfl,by omega,⟨fun b hb=>?_⟩,⟨?_⟩,by simp[*],by simp[*],by simp[*],by simp[*],by simp[*],by simp[HZ.out.1, *],by simp⟩
       ·simp (disch:=omega) only[Ad,Ae];exact(H5.out b (by omega)).trans (HGI.out b hb)
       ·rw[HNX.out,HE.out,HSN.out]
        refine .mk ?_ (by omega) (by omega) (by simp;omega)
        rw[HZ.out.2]
        simp (disch:=omega) only[Ad,Ae,Ag];rfl
      ·subst hs6
       have hC5:=(H5.out B6 (by omega)).trans hC3
       clear hC3
       iterate 8 all_goals try first|refine spl (fun h=>?_) fun h=>?_|simp (maxSteps:=999999) (disch:=first|assumption|omega|(simp;done)|fail) [*]
       refine WC.mono HFI.out ?_
       rintro _ rfl
       iterate 8 all_goals try first|refine spl (fun h=>?_) fun h=>?_|simp (maxSteps:=999999) (disch:=first|assumption|omega|(simp;done)|fail) [*]
       refine ih2.out (I-(i+1)) _ _ (by omega) ⟨i+1,n3+1+1+1+1+1+1+1,n3+1+1+1+1+1+1,_,.slq (n3+1+1+1+1+1+1) 0 (i+1) 0,by omega,rfl,rfl,by omega,⟨fun b hb=>?_⟩,⟨?_⟩,by simp[*],by simp[*],by simp[*],by simp[*],by simp[*],by simp[*],by simp⟩
       ·simp (disch:=omega) only[Ad,Ae];exact(H5.out b (by omega)).trans (HGI.out b hb)
       ·rw[HNX.out,HE.out,HSN.out]
        refine .mk ?_ (by omega) (by omega) (by simp;omega)
        simp (disch:=omega) only[Ad,Ae,Ag]
  ·have hliI:¬(i:Int)<(I:Int):=by omega
   have hiI:i=I:=by omega
   have hRF:(Bd V ws I node).take i=Bd V ws I node:=List.take_of_length_le (by rw[b2u];omega)
   rw[hRF] at HG6
   rcases HG6.out with⟨h6,_⟩|⟨h6,hs6,hC1,hC2,hC3,hC4⟩
   ·omega
   subst hs6
   have hcl:=HRG.out.1
   rw[List.length_map,List.length_take,Nat.min_eq_left hq] at hcl
   have hq2:q<=1000000:=by omega
   have HRW:Aa ((Bd V ws I node).length=i):=⟨by rw[b2u];omega⟩
   have HEX:=Aa.mk fun (g2:Gb) (h1:∀ a,a<n3->a≠n'->a≠B->g2 a=gI a)=>show RowsG (a3n (n+2) (a1v n' (a1v (n3+1) g2))) (n3+1+1) ((ws.take (q+1)).map (Bd V ws I)) (svs++[.slq B6 0 i 0]) from by
    rw[HTK.out]
    refine RowsG.snoc (HRG.out.ext (by omega) fun a x ha hx=>?_) ?_
    ·obtain⟨e0,hx0⟩:=b2w hx
     have hx1:=a8m hx0
     have hx2:=a8m hx1
     have e1:a≠n':=fun h=>by rw[h] at hx0;simp[a1v] at hx0
     have e2:a≠B:=fun h=>by rw[h] at hx1;simp[a1v] at hx1
     rw[a5m e0,a3l e1,a3l (by omega),h1 a (by omega) e1 e2,HGI.out a ha]
     exact hx2
    ·rw[HRW.out]
     refine .inr ⟨B6,0,by omega,.inr ⟨0,rfl⟩,Bz (Bd V ws I node),true,2,?_,by simp,by simp⟩
     rw[a5m (by omega),a3l (by omega),a3l (by omega)]
     by_cases hb6:B6=B
     ·exact absurd hb6 (by omega)
     ·rw[h1 B6 hC2 (by omega) hb6];exact hC3
   clear hiI hRF
   rcases HGR.out with⟨h0,hc0,hs0⟩|⟨h0,hs0,hB1,hB2,hB3,hB4⟩
   ·subst hs0
    have HZ:=Aa.mk (And.intro h0 hc0)
    clear h0 hc0
    iterate 8 all_goals try first|refine spl (fun h=>?_) fun h=>?_|simp (maxSteps:=999999) (disch:=first|assumption|omega|(simp;done)|fail) [*]
    refine ih.out (ws.length-(q+1)) _ _ (by omega) ⟨q+1,n3+1+1,n3+1,_,.slq (n3+1) 0 (q+1) 0,svs++[.slq B6 0 i 0],by omega,rfl,rfl,by omega,by omega,⟨fun b hb=>?_⟩,?_,⟨.mk ?_ (by omega) (by omega) (by simp;omega)⟩,⟨HEX.out _ fun a k1 k2 k3=>?_⟩,by simp[*],by simp[*],by simp[*],by simp[*],by simp⟩
    ·simp (disch:=omega) only[Ad,Ae];exact(HGI.out b (by omega)).trans (HG.out b hb)
    ·rw[HZ.out.1];exact Ag
    ·rw[HZ.out.2];simp (disch:=omega) only[Ad,Ae,Ag];rfl
    ·simp (disch:=omega) only[Ad,Ae]
   ·subst hs0
    have hB3':=(HGI.out B (by omega)).trans hB3
    have hxn:∀ (G:Gb) (x:Option Blk),Ap G B x n'=G n':=fun G x=>Ae (by omega)
    iterate 8 all_goals try first|refine spl (fun h=>?_) fun h=>?_|simp (maxSteps:=999999) (disch:=first|assumption|omega|(simp;done)|fail) [*]
    refine ih.out (ws.length-(q+1)) _ _ (by omega) ⟨q+1,n3+1+1,n3+1,_,.slq (n3+1) 0 (q+1) 0,svs++[.slq B6 0 i 0],by omega,rfl,rfl,by omega,by omega,⟨fun b hb=>?_⟩,?_,⟨.mk ?_ (by omega) (by omega) (by simp;omega)⟩,⟨HEX.out _ fun a k1 k2 k3=>?_⟩,by simp[*],by simp[*],by simp[*],by simp[*],by simp⟩
    ·simp (disch:=omega) only[Ad,Ae];exact(HGI.out b (by omega)).trans (HG.out b hb)
    ·exact Ag
    ·simp (disch:=omega) only[Ad,Ae,Ag]
    ·simp (disch:=omega) only[Ad,Ae]
 ·have hltI:¬(q:Int)<(ws.length:Int):=by omega
  rw[List.take_of_length_le (by omega)] at HRG
  have h1r:oneC rv=true:=HGR.out.one
  have hone3:allOne [.li I,.li O,rv]=true:=by simp[h1r]
  have hqw:q=ws.length:=by omega
  have HTV:Aa (Bw (a3n n (Ap gL (n+1) (some (.cells [.li I,.li O,rv] true 0)))) n2 (ws.map (Bd V ws I)) rv):=⟨by
   refine⟨svs,?_,HRG.out.ext (Nat.le_refl _) fun a x ha hx=>?_⟩
   ·rw[List.length_map,<- hqw]
    refine Af.ext (Nat.le_refl _) (fun a x _ hx=>?_) HGR.out.slice
    split at hx
    ·rw[a5m (by omega),Ae (by omega)];exact hx
    ·cases hx
   ·obtain⟨e0,hx0⟩:=b2w hx
    rw[a5m (by omega),Ae (by omega)]
    exact a8m (a8m hx0)⟩
  iterate 8 all_goals try first|refine spl (fun h=>?_) fun h=>?_|simp (maxSteps:=999999) (disch:=first|assumption|omega|(simp;done)|fail) [*]
  exact⟨_,_,_,⟨rfl,rfl,rfl⟩,by omega,fun b hb=>by rw[Ad (by omega),HG.out b (by omega)];exact HX.out b hb,HTV.out⟩
end Go.Ai
end
section
namespace Go.Ai
open Go.Proofs Go.Proofs.Tryz
set_option maxRecDepth 10000
set_option maxHeartbeats 40000000
theorem c1k {a b:Wd} (hal:a.length<=10000) (hbl:b.length<=10000) (hb0:0<b.length) (g:Gb) (n:Nat) (av bv:AV) (ha:Aj g n a av) (hb:Aj g n b bv) :
  WC 0 prog 62 [av,bv] ⟨.fn g,n⟩ fun r=>∃ ov g' n',r=.ret ov ⟨.fn g',n'⟩/\n<=n'/\(∀ x,x<n->g' x=g x)/\a1b g' n n' (a++b) ov:=by
 have hwb:(wdC b).length=b.length*1:=by rw[Bl,Ea]
 have hwa:(wdC a).length=a.length*1:=by rw[Bl,Ea]
 have hab:=wdC_one b;by_cases ha0:a.length=0
 ·have hv:Af g n av a.length (wdC a):=ha;rw[ha0] at hv;have hap:=fun {H:Mem} {ev:Ev} {d:Option Tmp} {ty:TypeId} {p:String} {af:Array Edge} {gd:Option (Nat×Bool)} {x y:Operand} {s t:TypeId} {a off:Nat} {hx:ev x=some (.sl a off 0 0)} {hy:ev y=some av} (hp:(apI prog s t).isSome=true)=>Af.ap00 (P:=prog) hv (H:=H) (ev:=ev) (d:=d) (ty:=ty) (p:=p) (af:=af) (gd:=gd) (x:=x) (y:=y) (a:=a) (off:=off) (hx:=hx) (hy:=hy) hp;obtain⟨a9,blk,ha9,hga9,hap2⟩:=Af.ap0 (P:=prog) (sz:=1) hb hb0 (by omega) hwb;have HA:Aa (a=[]):=⟨g3r.1 ha0⟩;clear ha hb hv ha0;refine ent [] func62 rfl (by decide +kernel) (by kernel_rfl) ?_
  iterate 8 all_goals try first|apply spl<;>intro h|simp (disch:=first|assumption|omega|simp) [*]
  refine⟨_,_,_,⟨rfl,rfl,rfl⟩,by omega,fun x hx=>by simp (disch:=omega) only[Ad],?_⟩;rw[HA.out,g6q];exact Bc.fresh (B:=n+1) (.inr ⟨hb0,rfl,by omega,by omega,Ag,hwb⟩) rfl
 ·obtain⟨a8,blk8,ha8,hga8,hap⟩:=Af.ap0 (P:=prog) (sz:=1) ha (by omega) (by omega) hwa;obtain⟨a9,blk,ha9,hga9,hap2⟩:=Af.apq (P:=prog) (sz:=1) hb hb0 (by omega) hwb;have hal2:a.length<=40000:=by omega
  clear ha hb ha0;refine ent [] func62 rfl (by decide +kernel) (by kernel_rfl) ?_
  iterate 8 all_goals try first|apply spl<;>intro h|simp (disch:=first|assumption|omega|simp) [*]
  refine⟨_,_,_,⟨rfl,rfl,rfl⟩,by omega,fun x hx=>by simp (disch:=omega) only[Ad,Ae],?_⟩;exact Bc.fresh (B:=n+1+1) (.inr ⟨by omega,rfl,by omega,by omega,Ag.trans (by simp[wdC]),by rw[Bl,Dr,Ea]⟩) (by rw[Dr])
end Go.Ai
end

