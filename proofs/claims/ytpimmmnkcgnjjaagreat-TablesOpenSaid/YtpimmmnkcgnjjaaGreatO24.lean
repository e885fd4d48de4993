/- A small verified interpreter over names, its proofs, and what was proved with it. No condition. -/
import Derived.Test.YtpimmmnkcgnjjaaGreatO14
import Derived.Test.YtpimmmnkcgnjjaaGreatO18
import Derived.Test.YtpimmmnkcgnjjaaGreatO11
import Derived.Test.YtpimmmnkcgnjjaaGreatO07
set_option linter.all false
set_option linter.deprecated false
section
namespace Go.Ai
open Go.Proofs Go.Proofs.Tryz
set_option maxRecDepth 10000
set_option maxHeartbeats 40000000
variable {g:Gb} {n:Nat}
structure InQ (g:Gb) (n st inp out:Nat) (es:List Nat) (ev:AV) (ws:List (List Nat)) (wv:AV) (sb:List Nat) (sbv:AV) (eb:List (List Nat)) (ebv:AV) : Prop where
 i:InG g n st inp out es ev ws wv
 bs:∀ b∈sb,b<256
 be:∀ w∈eb,∀ b∈w,b<256
 s:a5k g n sb sbv
 e:a7d g n eb ebv
theorem InQ.mono {g': Gb} {n' st inp out:Nat} {es:List Nat} {ev:AV} {ws:List (List Nat)} {wv:AV} {sb:List Nat} {sbv:AV} {eb:List (List Nat)} {ebv:AV} (h:InQ g n st inp out es ev ws wv sb sbv eb ebv) (hn:n<=n') (hg:∀ a,a<n->g' a=g a) : InQ g' n' st inp out es ev ws wv sb sbv eb ebv :=
 ⟨h.i.mono hn hg,h.bs,h.be,Af.mono hn hg h.s,h.e.mono hn hg⟩
theorem g2f {st inp out:Nat} (part:Bool) {es:List Nat} {ev:AV} {ws:List (List Nat)} {wv:AV} (ia ib ic:Int) {sb:List Nat} {eb:List (List Nat)} (full:Bool) (g:Gb) (n:Nat) {sbv ebv:AV} (h:InQ g n st inp out es ev ws wv sb sbv eb ebv) :
  ∃ (I:Nat) (O:Int) (M:Bg) (S E:Wq) (L:Lq),M=Ce st inp out part es/\M.inp=I/\M.out=O/\S=qSx M sb/\E=qEx M eb/\L=qLx M ws full S E/\a2a I O S E (a0g I L)/\QOK M S E L/\WC 0 prog 16 [.agg [.lit (.int .u8 st),.lit (.int .u8 inp),.lit (.int .u8 out),.lit (.bool part),ev,wv,.lit (.int .u8 ia),.lit (.int .u8 ib),.lit (.int .u8 ic),sbv,ebv,.lit (.bool full)]] ⟨.fn g,n⟩ fun r=>∃ sv e2 tv g' n',r=.ret (.agg [.li I,.li O,sv,e2,.li I,.li O,tv]) ⟨.fn g',n'⟩/\n<=n'/\(∀ b,b<n->g' b=g b)/\b3a g' n' S E (a0g I L) sv e2 tv:=by
 have hM:=c5k st inp out part es;have hM3:(Ce st inp out part es).inp<=3:=by show 1+((inp % 3:Nat) : Int)<=3;omega
 have hI:(Ce st inp out part es).inp=((1+inp % 3:Nat) : Int):=by show 1+((inp % 3:Nat) : Int)=_;omega
 have hI3:1+inp % 3<=3:=by omega
 generalize 1+inp % 3=I at *;have hq:=d6y hM hM3 ws sb eb full;refine⟨I,_,_,_,_,_,rfl,hI,rfl,rfl,rfl,rfl,hq.tab hM hI rfl hI3,hq,WC.mono (g1l (part:=part) ia ib ic h.bs h.be full g n h.i sbv ebv h.s h.e) ?_⟩;rintro _ ⟨sv,e2,tv,g',n',rfl,h1,h2,h3,h4,h5⟩;rw[hI,g4f] at h5;refine⟨sv,e2,tv,g',n',?_,h1,h2,⟨h3,h4,h5⟩⟩;rw[hI]
theorem RowK.rep {lo:Nat} {r:Option (Wd)} {rv:AV} (h:RowK g lo n r rv) : Aj g n (r.getD []) rv:=by
 cases r with
 | none=>have h' : rv=.nl:=h;rw[h'];exact .inl ⟨rfl,rfl,.inl rfl⟩
 | some r=>exact h.1.rep
theorem b7z.rep {lo:Nat} {r:Option (Wd)} {rv:AV} (h:b7z g lo n r rv) : Aj g n (r.getD []) rv:=by
 cases r with
 | none=>have h' : rv=.nl:=h;rw[h'];exact .inl ⟨rfl,rfl,.inl rfl⟩
 | some r=>exact h.1.rep
theorem d7z {T:Tq} {w:Wd} : ∀ {E:Wq} {r:Wd},(∀ e∈E,e.length<=300)->Bk T w E=some r->r.length<=300*E.length
 | [],r,_,h=>by rw[Bk] at h;cases h;simp
 | e :: E,r,he,h=>by
  rw[Bk] at h
  cases hA:Bf T 0 (w++e) with
  | none=>rw[hA] at h;cases h
  | some u =>
   rw[hA] at h
   cases hR:Bk T w E with
   | none=>rw[hR] at h;cases h
   | some q =>
    rw[hR] at h;cases h;have h1:=d7z (fun e he'=>he e (by simp[he'])) hR;have h2:=b1b _ _ _ hA;have h3:=he e (by simp);rw[Dr] at h2;simp only[Dr,g4p,Ej];omega
end Go.Ai
end
section
namespace Go.Ai
open Go.Proofs Go.Proofs.Tryz
set_option maxRecDepth 10000
set_option maxHeartbeats 40000000
variable {T:Tq} {r w:Wd} {O:Int} {l E:Wq}
def a4q (w:Wd) : Prop:=∀ i∈w,-1<=i/\i<16
theorem d8a (hO:O<=16) (hok:∀ r∈T,∀ e∈r,okE T.length O e=true) : ∀ (w:Wd) (a:Int) (r:Wd),Bf T a w=some r->a4q r
 | [],_,_,h=>by cases h;intro i hi;cases hi
 | i :: w,a,r,h=>by
  rw[Bf] at h;split at h
  ·split at h
   ·cases h;intro x hx;rw[List.eq_of_mem_replicate hx];omega
   ·cases h
  ·rename_i hne;obtain⟨q,hq,rfl⟩:=g3v.1 h;have hq2:=d8a hO hok w _ q hq;intro x hx;rcases Dv.1 hx with rfl|hx
   ·have hmem:((T.getD a.toNat []).getD i.toNat (-1,-1))∈T.getD a.toNat []:=by
     generalize T.getD a.toNat []=row at *
     cases hg:row[i.toNat]? with
     | none=>exact absurd (by rw[g3s,hg];rfl) hne
     | some e=>rw[g3s,hg];exact En hg
    have hT:T.getD a.toNat []∈T:=by
     rw[g3s]
     cases hg:T[a.toNat]? with
     | none =>
      rw[g3s,hg] at hmem;cases hmem
     | some e=>exact En hg
    have h1:=hok _ hT _ hmem;unfold okE at h1;rw[g5r,decide_eq_true_eq,decide_eq_true_eq] at h1;omega
   ·exact hq2 x hx
theorem d8b (hO:O<=16) (hok:∀ r∈T,∀ e∈r,okE T.length O e=true) {w:Wd} : ∀ {E:Wq} {r:Wd},Bk T w E=some r->a4q r
 | [],_,h=>by cases h;intro i hi;cases hi
 | e :: E,r,h=>by
  rw[Bk] at h
  cases hA:Bf T 0 (w++e) with
  | none=>rw[hA] at h;cases h
  | some u =>
   rw[hA] at h;obtain⟨q,hq,rfl⟩:=g3v.1 h;have h1:=d8a hO hok _ _ _ hA;have h2:=d8b hO hok hq;intro i hi;rcases Ed.1 hi with hi|hi
   ·exact h1 i (g5y hi)
   ·exact h2 i hi
def Ax (T:Tq) (E:Wq) (w:Wd) : Wd:=(Bk T w E).getD []
theorem c7o (hO:O<=16) (hok:∀ r∈T,∀ e∈r,okE T.length O e=true) {E:Wq} {w:Wd} : a4q (Ax T E w):=by
 unfold Ax
 cases h:Bk T w E with
 | none=>intro i hi;cases hi
 | some r=>exact d8b hO hok h
theorem b5a (he:∀ e∈E,e.length<=300) : (Ax T E w).length<=300*E.length:=by
 unfold Ax
 cases h:Bk T w E with
 | none=>simp
 | some r=>exact d7z he h
theorem keyB_injR:∀ {w v:Wd},a4q w→a4q v→a1z w=a1z v→w=v
 | [],[],_,_,_=>rfl
 | [],_ :: _,_,_,h=>by simp [a1z] at h
 | _ :: _,[],_,_,h=>by simp [a1z] at h
 | x :: w,y :: v,hw,hv,h=>by
  have h2:UInt8.ofNat (x+1).toNat :: a1z w=UInt8.ofNat (y+1).toNat :: a1z v:=h;injection h2 with h3 h4;have hx:=hw x (by simp);have hy:=hv y (by simp);have h5:(UInt8.ofNat (x+1).toNat).toNat=(UInt8.ofNat (y+1).toNat).toNat:=by rw [h3]
  rw [UInt8.toNat_ofNat',UInt8.toNat_ofNat',g6b (by omega),g6b (by omega)] at h5;have:x=y:=by omega
  rw [this,keyB_injR (fun i hi=>hw i (by simp [hi])) (fun i hi=>hv i (by simp [hi])) h4]
theorem g2g {v:Wd} (hw:a4q w) (hv:a4q v) (h:Bu w=Bu v) : w=v:=by
 refine keyB_injR hw hv ?_;have h2:(Bu w).data=(Bu v).data:=by rw[h]
 have h3:(a1z w).toArray=(a1z v).toArray:=h2;simpa using h3
def Ch (rows:Wq) (r:Wd) : Option Nat:=rows.findIdx? fun x=>decide (x=r)
theorem d8c {rows:Wq} {r': Wd} : Ch (rows++[r']) r=(Ch rows r).or (if r'=r then some rows.length else none):=by
 unfold Ch;rw[List.findIdx?_append];congr 1;by_cases h:r'=r<;>simp[List.findIdx?_cons,h]
theorem c1z {rows:Wq} : Ch rows r=none↔r ∉ rows:=by
 unfold Ch;rw[List.findIdx?_eq_none_iff];constructor
 ·intro h hm;simpa using h r hm
 ·rintro h x hx;simp;rintro rfl;exact h hx
theorem d8d {rows:Wq} {k:Nat} (h:Ch rows r=some k) : ∃ hk:k<rows.length,rows[k]=r/\∀ j (hj:j<k),rows[j]'(by omega)≠r:=by
 unfold Ch at h;obtain⟨h1,h2,h3⟩:=List.findIdx?_eq_some_iff_getElem.1 h;exact⟨h1,by simpa using h2,fun j hj=>by simpa using h3 j hj⟩
def dcR:Wq->Nat
 | []=>0
 | r :: l=>dcR l+if r∈l then 0 else 1
theorem dcR_le:∀ l:Wq,dcR l<=l.length
 | []=>Dm _
 | r :: l=>by have:=dcR_le l;unfold dcR;rw[Ej];split<;>omega
theorem dcR_nodup:∀ l:Wq,dcR l=l.length↔l.Nodup
 | []=>by simp[dcR]
 | r :: l=>by
  have h1:=dcR_le l;have h2:=dcR_nodup l;unfold dcR;rw[Ej,List.nodup_cons,<- h2];split<;>simp_all<;>omega
def a4c (l:Wq) : Nat:=dcR l.reverse
theorem d8e : a4c (l++[r])=a4c l+if r∈l then 0 else 1:=by
 unfold a4c;rw[List.reverse_append,List.reverse_singleton,List.singleton_append,dcR];simp
theorem g2h : a4c l<=l.length:=by have:=dcR_le l.reverse;rwa [List.length_reverse] at this
theorem g2i : a4c l=l.length↔l.Nodup:=by
 have:=dcR_nodup l.reverse;rw[List.length_reverse] at this;exact this.trans (List.reverse_perm l).nodup_iff
theorem g2j : l.Nodup↔∀ k (h:k<l.length),Ch l l[k]=some k:=by
 constructor
 ·intro h k hk
  cases hs:Ch l l[k] with
  | none=>exact absurd (Ds hk) (c1z.1 hs)
  | some j =>
   obtain⟨hj,h1,h2⟩:=d8d hs;by_cases e:j=k
   ·rw[e]
   ·exfalso;rw[List.nodup_iff_pairwise_ne,List.pairwise_iff_getElem] at h;rcases Nat.lt_or_gt_of_ne e with h3|h3
    ·exact h j k hj hk h3 h1
    ·exact h k j hk hj h3 h1.symm
 ·intro h;rw[List.nodup_iff_pairwise_ne,List.pairwise_iff_getElem];intro i j hi hj hij e;have h1:=h i hi;have h2:=h j hj;rw[e,h2] at h1;cases h1;omega
def StV (L:List (ByteArray×Int×Nat)) (rows:Wq) : Prop:=(∀ r,a4q r->a0p (Bu r) L=(Ch rows r).map fun k:Nat=>(k:Int))/\L.length=a4c rows
theorem StV.nil:StV [] []:=⟨fun _ _=>rfl,rfl⟩
theorem StV.old {L:List (ByteArray×Int×Nat)} {rows:Wq} (h:StV L rows) (hr:r∈rows) : StV L (rows++[r]):=by
 refine⟨fun r2 h2=>?_,by rw[d8e,if_pos hr];exact h.2⟩;rw[h.1 r2 h2,d8c]
 cases hs:Ch rows r2 with
 | some k=>rfl
 | none =>
  rw[if_neg];rfl;rintro rfl;exact c1z.1 hs hr
theorem StV.new {L:List (ByteArray×Int×Nat)} {rows:Wq} {c:Nat} (h:StV L rows) (h1:a4q r) (hr:r ∉ rows) : StV (L++[(Bu r,(rows.length:Int),c)]) (rows++[r]):=by
 refine⟨fun r2 h2=>?_,by rw[d8e,if_neg hr,Dr];simp[h.2]⟩;rw[d5b,h.1 r2 h2,d8c]
 cases hs:Ch rows r2 with
 | some k=>rfl
 | none =>
  by_cases e:r=r2
  ·subst e;simp
  ·rw[if_neg e,if_neg fun e2=>e (g2g h2 h1 e2).symm];rfl
def Ca (T:Tq) (w:Wd) : Bool:=match Bf T 0 w with
 | some r=>decide (r.getLast?≠some (-1))
 | none=>false
def c2a (T:Tq) (w:Wd) : Int:=((Bf T 0 w).getD []).getLast?.getD 0
def a1n (T:Tq) (E:Wq) (rows:Wq) (w:Wd) : Bool:=Ca T w && (Ch rows (Ax T E w)).isNone
def Al (T:Tq) (E S:Wq) : Wq:=S.map (Ax T E)
def Cn (T:Tq) (E:Wq) (I:Nat) (S:Wq) : Option (Wd):=(a1m I S).find? (a1n T E (Al T E S))
def b1e (T:Tq) (E rows:Wq) (u:Wd) : Int×Int:=if Ca T u then ((((Ch rows (Ax T E u)).getD 0:Nat) : Int),c2a T u) else (-1,-1)
def Cv (T:Tq) (E rows:Wq) (I:Nat) (w:Wd) : List (Int×Int):=(List.range I).map fun i:Nat=>b1e T E rows (w++[(i:Int)])
def a0s (T:Tq) (E:Wq) (I:Nat) (S:Wq) : Tq:=S.map (Cv T E (Al T E S) I)
def b1f (T:Tq) (E S:Wq) : Bool:=decide (a4c (Al T E S)<S.length) || S.any fun w=>!Ca T w
def b1g (T:Tq) (E:Wq) (I:Nat) (S:Wq) : Int:=if (Bb T E (Ak I S)).isEmpty=false then 6 else if (Cn T E I S).isSome=true then 6 else if b1f T E S=true then 12 else 0
theorem g2k {S:Wq} : b1f T E S=false↔∀ k (h:k<S.length),Ch (Al T E S) (Ax T E S[k])=some k/\Ca T S[k]=true:=by
 have h1:=g2j (l:=Al T E S);have h2:=g2i (l:=Al T E S);have h3:=g2h (l:=Al T E S);have hl:(Al T E S).length=S.length:=by unfold Al;simp
 have hat:∀ k (h:k<S.length),(Al T E S)[k]'(by omega)=Ax T E S[k]:=fun k h=>by unfold Al;simp
 unfold b1f;rw[Bool.or_eq_false_iff,decide_eq_false_iff_not,List.any_eq_false];constructor
 ·rintro⟨e1,e2⟩ k hk;have e3:=h1.1 (h2.1 (by omega)) k (by omega);rw[hat k hk] at e3;exact⟨e3,by simpa using e2 _ (Ds hk)⟩
 ·intro h;have e1:a4c (Al T E S)=(Al T E S).length:=h2.2 (h1.2 fun k hk=>by rw[hat k (by omega)];exact(h k (by omega)).1);refine⟨by omega,fun w hw=>?_⟩;obtain⟨k,hk,rfl⟩:=g5u hw;simp[(h k hk).2]
theorem d8f {I:Nat} {S:Wq} (hp:a2a I O S E T) : (Ak I S).length<=80:=by
 rw[b4w];have:=g3w hp.sl hp.i2;have:=hp.sl;omega
end Go.Ai
end

