/- A small verified interpreter over names, its proofs, and what was proved with it. No condition. -/
import Derived.Test.YtpimmmnkcgnjjaaGreatL05
import Derived.Test.YtpimmmnkcgnjjaaGreatL04
set_option linter.all false
set_option linter.deprecated false
section
namespace Go.Ai
set_option maxRecDepth 10000
variable {g g':Gb} {cs:List AV} {b n' b' B sz:Nat} {sv:AV} {M:Bc}
theorem Row.ext {a off:Nat} (hr:Row g a off cs) (h:∀ x,g a=some x->g' a=some x) : Row g' a off cs :=
 let ⟨l,own,z,h1,h2,h3⟩:=hr;⟨l,own,z,h _ h1,h2,h3⟩
theorem Ag.ext {len:Nat} (hb:b<=b') (h:∀ a x,a<b->g a=some x->g' a=some x) : Ag g b sv len cs->Ag g' b' sv len cs :=
 fun hs=>hs.imp id fun⟨a,off,h1,h2,h3⟩=>⟨a,off,by omega,h2,h3.ext fun x hx=>h a x h1 hx⟩
theorem Ag.one {len:Nat} : Ag g b sv len cs->oneC sv=true:=by
 rintro (⟨_,_,rfl|rfl⟩|⟨a,off,_,⟨c,rfl⟩|⟨c,rfl⟩,_⟩)<;>rfl
def a8c (g:Gb) (b:Nat) (sv:AV) (len:Nat) (cs:List AV) : Prop :=
 (len=0/\(sv=.nl\/sv=.es))\/∃ a off c,a<b/\sv=.sl a off len c/\Row g a off cs
theorem a8c.mono {len:Nat} (hb:b<=b') (h:∀ a,a<b->g' a=g a) : a8c g b sv len cs->a8c g' b' sv len cs :=
 fun hs=>hs.imp id fun⟨a,off,c,h1,h2,h3⟩=>⟨a,off,c,by omega,h2,h3.mono (h a h1)⟩
theorem a8c.one {len:Nat} : a8c g b sv len cs->oneC sv=true:=by
 rintro (⟨_,rfl|rfl⟩|⟨a,off,c,_,rfl,_⟩)<;>rfl
def Aq (r:List (Int×Int)) : List AV:=r.flatMap fun e=>[.li e.1,.li e.2]
theorem rowC_len:∀ (r:List (Int×Int)),(Aq r).length=r.length*2
 | []=>rfl
 | e :: r=>by
  have:=rowC_len r;unfold Aq at this |-;rw[g4m,Dr,this,Ek];simp;omega
theorem c4t (r:List (Int×Int)) (e:Int×Int) : Aq (r++[e])=Aq r++[.li e.1,.li e.2]:=by
 grind[Aq]
theorem rowC_at:∀ (r:List (Int×Int)) (k:Nat) (h:k<r.length),((Aq r).drop (k*2)).take 2=[.lit (.int .i64 r[k].1),.lit (.int .i64 r[k].2)]
 | e :: r,0,_=>rfl
 | e :: r,k+1,h=>by
  have:=rowC_at r k (by grind);have e1:Aq (e :: r)=[.li e.1,.li e.2]++Aq r:=rfl;grind
theorem b3p (allr:List (Int×Int)) (k:Nat) (h:k<allr.length) : (Aq allr)[k*2]?=some (.lit (.int .i64 allr[k].1))/\(Aq allr)[k*2+1]?=some (.lit (.int .i64 allr[k].2)):=by
 have h1:=rowC_at allr k h;have h2:(((Aq allr).drop (k*2)).take 2)[0]?=some (.lit (.int .i64 allr[k].1)):=by grind
 have h3:(((Aq allr).drop (k*2)).take 2)[1]?=some (.lit (.int .i64 allr[k].2)):=by grind
 grind
def RowsE (g:Gb) (b:Nat) : Tq->List AV->Prop
 | [],cs=>cs=[]
 | r :: l,cs=>∃ c t,cs=c :: t/\Ag g b c r.length (Aq r)/\RowsE g b l t
theorem RowsE.ext (hb:b<=b') (h:∀ a x,a<b->g a=some x->g' a=some x) : ∀ {l:Tq} {cs:List AV},RowsE g b l cs->RowsE g' b' l cs
 | [],_,h0=>h0
 | _ :: _,_,⟨c,t,h1,h2,h3⟩=>⟨c,t,h1,h2.ext hb h,h3.ext hb h⟩
theorem RowsE.len : ∀ {l:Tq} {cs:List AV},RowsE g b l cs->cs.length=l.length
 | [],cs,h=>by have h' : cs=[]:=h;grind
 | r :: l,cs,⟨c,t,h1,h2,h3⟩=>by rw[h1,Ek,Ek,h3.len]
theorem RowsE.at : ∀ {l:Tq} {cs:List AV},RowsE g b l cs->∀ (k:Nat) (h:k<l.length) (h' : k<cs.length),Ag g b cs[k] l[k].length (Aq l[k])
 | r :: l,cs,⟨c,t,h1,h2,h3⟩,0,h,h'=>by grind
 | r :: l,cs,⟨c,t,h1,h2,h3⟩,k+1,h,h'=>by subst h1;exact h3.at k (by grind) (by grind)
theorem RowsE.snoc {r:List (Int×Int)} {c:AV} (hr:Ag g b c r.length (Aq r)) : ∀ {l:Tq} {cs:List AV},RowsE g b l cs->RowsE g b (l++[r]) (cs++[c])
 | [],cs,h=>by have h' : cs=[]:=h;subst h';exact⟨c,[],rfl,hr,rfl⟩
 | _ :: _,_,⟨d,t,h1,h2,h3⟩=>⟨d,t++[c],by grind,h2,h3.snoc hr⟩
def a2w (g:Gb) (b:Nat) (M:Bc) (cs:List AV) : Prop :=
 ∃ sv svs,cs=[.li M.inp,.li M.out,sv]/\RowsE g b M.rows svs/\Ag g b sv M.rows.length svs
theorem a2w.ext (hb:b<=b') (h:∀ a x,a<b->g a=some x->g' a=some x) {M:Bc} {cs:List AV} : a2w g b M cs->a2w g' b' M cs :=
 fun⟨sv,svs,h1,h2,h3⟩=>⟨sv,svs,h1,h2.ext hb h,h3.ext hb h⟩
theorem a2w.mono (hb:b<=b') (h:∀ a,a<b->g' a=g a) {M:Bc} {cs:List AV} (hr:a2w g b M cs) : a2w g' b' M cs:=hr.ext hb fun a x ha hx=>(h a ha).trans hx
theorem a2w.one (h:a2w g b M cs) : ∃ sv,cs=[.li M.inp,.li M.out,sv]/\oneC sv=true :=
 let ⟨sv,_,h1,_,h3⟩:=h;⟨sv,h1,h3.one⟩
def b3q (g:Gb) (n n' : Nat) (M:Bc) (cs:List AV) : Prop:=∃ gk:Gb,(∀ a z,gk a=some z->g a=some z/\n<=a/\a<n')/\a2w gk n' M cs
theorem b3q.keep {n0 n n2:Nat} (h:b3q g n n' M cs) (h0:n0<=n) (h2:n'<=n2) (hg:∀ a,n<=a->a<n'->g' a=g a) : b3q g' n0 n2 M cs:=by
 obtain⟨gk,h1,h3⟩:=h;refine⟨gk,fun a z hz=>?_,h3.ext h2 fun a z _ hz=>hz⟩;grind
theorem b3q.rep {n: Nat} (h:b3q g n n' M cs) : a2w g n' M cs :=
 let ⟨_,h1,h3⟩:=h;h3.ext (Dp _) fun a z _ hz=>(h1 a z hz).1
def Bh (g:Gb) (lo n' B:Nat) (sv:AV) (len sz:Nat) (cs:List AV) : Prop :=
 (len=0/\cs=[]/\sv=.nl)\/(0<len/\sv=.slq B 0 len 0/\lo<=B/\B<n'/\g B=some (.cells cs true sz)/\cs.length=len*sz)
theorem Bh.keep {lo n2 len:Nat} (h:Bh g lo n' B sv len sz cs) (hn:n'<=n2) (hg:lo<=B->B<n'->g' B=g B) : Bh g' lo n2 B sv len sz cs :=
 h.imp id fun⟨h0,h1,h2,h3,h4,h5⟩=>⟨h0,h1,h2,by omega,(hg h2 h3).trans h4,h5⟩
theorem Bh.mk {lo len:Nat} (h:g B=some (.cells cs true sz)) (h1:lo<=B) (h2:B<n') (h3:cs.length=(len+1)*sz) : Bh g lo n' B (.slq B 0 (len+1) 0) (len+1) sz cs :=
 .inr ⟨by omega,rfl,h1,h2,h,h3⟩
theorem Bh.one {lo len:Nat} : Bh g lo n' B sv len sz cs->oneC sv=true:=by
 rintro (⟨_,_,rfl⟩|⟨_,rfl,_⟩)<;>rfl
theorem Bh.slice {g:Gb} {lo n' B len sz:Nat} {sv:AV} {cs:List AV} (h:Bh g lo n' B sv len sz cs) : Ag (fun a=>if a=B/\lo<=B/\B<n' then g a else none) n' sv len cs:=by
 rcases h with⟨h1,h2,h3⟩|⟨h0,h1,h2,h3,h4,h5⟩
 ·exact .inl ⟨h1,h2,.inl h3⟩
 ·exact .inr ⟨B,0,h3,.inr ⟨0,h1⟩,cs,true,sz,(if_pos ⟨rfl,h2,h3⟩).trans h4,by simp,by simp⟩
def b1v (part:Bool) (n O v:Nat) : Int×Int:=if part=true/\v % 4=3 then (-1,-1) else (((v / 4 % n:Nat) : Int),((v / 4 / n % O:Nat) : Int))
def a8d (part:Bool) (es:List Nat) (n I O s:Nat) : List (Int×Int):=(List.range I).map fun i=>b1v part n O (es.getD (s*I+i) 0)
def Cg (st inp out:Nat) (part:Bool) (es:List Nat) : Bc :=
 ⟨1+((inp % 3:Nat) : Int),1+((out % 3:Nat) : Int),(List.range (1+st % 6)).map (a8d part es (1+st % 6) (1+inp % 3) (1+out % 3))⟩
theorem b1w (st inp out:Nat) (part:Bool) (es:List Nat) : (Cg st inp out part es).ok:=by
 have h1:=Es inp (show 0<3 by omega);have h2:=Es out (show 0<3 by omega);have h3:=Es st (show 0<6 by omega);refine⟨?_,?_,?_,?_,?_,?_,?_⟩
 ·show (1:Int)<=1+((inp % 3:Nat) : Int);omega
 ·show 1+((inp % 3:Nat) : Int)<=16;omega
 ·show (1:Int)<=1+((out % 3:Nat) : Int);omega
 ·show 1+((out % 3:Nat) : Int)<=16;omega
 ·show 1<=((List.range (1+st % 6)).map _).length;simp
 ·show ((List.range (1+st % 6)).map _).length<=64;grind
 ·intro r hr;have hr' : r∈(List.range (1+st % 6)).map (a8d part es (1+st % 6) (1+inp % 3) (1+out % 3)):=hr;obtain⟨s,hs,rfl⟩:=Ei.1 hr';refine⟨?_,fun e he=>?_⟩
  ·show ((((List.range (1+inp % 3)).map _).length:Nat) : Int)=1+((inp % 3:Nat) : Int);grind
  ·obtain⟨i,hi,rfl⟩:=Ei.1 he;have hl:(Cg st inp out part es).rows.length=1+st % 6:=by show ((List.range (1+st % 6)).map _).length=_;simp
   rw[hl];show b1u (1+st % 6) (1+((out % 3:Nat) : Int)) _=true;generalize es.getD (s*(1+inp % 3)+i) 0=v;unfold b1v;split
   ·rfl
   ·have e1:=Es (v / 4) (show 0<1+st % 6 by omega);have e2:=Es (v / 4 / (1+st % 6)) (show 0<1+out % 3 by omega)
    (simp_all[b1u];grind)
end Go.Ai
end
section
namespace Go.Ai
def wdC (w:Wd) : List AV:=w.map fun i=>.li i
theorem Bi (w:Wd) : (wdC w).length=w.length:=by simp[wdC]
theorem a4c (w:Wd) (k:Nat) (h:k<w.length) : (wdC w)[k]?=some (.lit (.int .i64 w[k])):=by grind[wdC]
theorem wdC_one:∀ (w:Wd),allOne (wdC w)=true
 | []=>rfl
 | i :: w=>wdC_one w
def Ak (g:Gb) (n:Nat) (w:Wd) (sv:AV) : Prop:=Ag g n sv w.length (wdC w)
theorem Am {P:Program} {g:Gb} {b len:Nat} {sv:AV} {cs:List AV} (h:Ag g b sv len cs) : ∀ {H:Mem} {ev:Ev} {o:Oper} {c:Call} {e:TypeId},a5m P H ev o c (some (.slice e)) (some [sv])=.val (.li len) H:=by
 intro H ev o c e;rcases h with⟨rfl,_,rfl|rfl⟩|⟨a,off,_,⟨c',rfl⟩|⟨c',rfl⟩,_⟩<;>rfl
theorem Ag.ia {P:Program} {g:Gb} {b len:Nat} {sv:AV} {cs:List AV} (h:Ag g b sv len cs) {k:Nat} (hk:k<len) (sz:Nat) :
  ∃ a off,a<b/\Row g a off cs/\∀ {H:Mem} {ev:Ev} {o:Oper} {t:TypeId},iaS P H ev o t (some (none,sz)) (some sv) (some (.li (k:Int)))=.val (.ptr a (off+k*sz)) H:=by
 rcases h with⟨h1,_⟩|⟨a,off,ha,⟨c,rfl⟩|⟨c,rfl⟩,hrow⟩
 all_goals grind[d1z,d2a]
def RowsW (g:Gb) (n:Nat) (l:Wq) (svs:List AV) : Prop:=svs.length=l.length/\∀ (k:Nat) (h:k<l.length),∃ sv,svs[k]?=some sv/\Ak g n l[k] sv
theorem RowsW.ext {g g': Gb} {b b': Nat} {l:Wq} {svs:List AV} (h:RowsW g b l svs) (hb:b<=b') (hg:∀ a x,a<b->g a=some x->g' a=some x) : RowsW g' b' l svs :=
 ⟨h.1,fun k hk=>let ⟨sv,h1,h2⟩:=h.2 k hk;⟨sv,h1,Ag.ext hb hg h2⟩⟩
def longM:Wq->Nat
 | []=>0
 | w :: l=>max w.length (longM l)
theorem longM_snoc:∀ (l:Wq) (w:Wd),longM (l++[w])=max (longM l) w.length
 | [],w=>by simp[longM]
 | x :: l,w=>by simp only[g4x,longM,longM_snoc l w,Nat.max_assoc]
theorem le_longM:∀ {l:Wq} {w:Wd},w∈l->w.length<=longM l
 | x :: l,w,h=>by
  unfold longM;rcases Dz.1 h with rfl|h
  ·omega
  ·have:=le_longM h;omega
theorem b6e {l:Wq} {m:Nat} (h:∀ w∈l,w.length<=m) : longM l<=m:=by
 induction l with
 | nil=>exact Du _
 | cons x l ih =>
  grind[longM]
end Go.Ai
end
section
namespace Go.Ai
open Go.RowKit (Below)
variable {B G:Nat} {P:Program} {n n0:Nat} {ρ0 ρ:Rn} {w0 w:World} {fr:Fr} {H:Mem} {a:Act} {W:WF}
end Go.Ai
end
section
namespace Go.Ai
section
variable {P:Program} {W:WF} {Q:Out→Prop} {fr:Fr} {H:Mem} {ev:Ev} {d:Option Tmp} {ty:TypeId} {p:String} {af:Array Edge} {g:Option (Nat×Bool)}
end
end Go.Ai
end
section
namespace Go.Ai
section
variable {P:Program} {H:Mem} {ev:Ev} {d:Option Tmp} {ty:TypeId} {p:String} {af:Array Edge} {g:Option (Nat×Bool)}
noncomputable def mkI (P:Program) (t:TypeId) : Option AV:=match a5b P t with
 | some (e,size,bytes)=>if size=1/\bytes<=1048576 then (match a0a P e with|some [v]=>some v|_=>none) else none
 | none=>none
noncomputable def a4d (P:Program) (H:Mem) (t:TypeId) (q:Option AV) (x y:Option AV) : R:=match q,x,y with
 | some v,some (.li a),some (.li b)=>if a=b/\0<=a/\a<=1048576 then .val (.sl H.next 0 a.toNat a.toNat) (H.add (.cells (List.replicate a.toNat v) true 0)) else a1v P H t x y
 | _,_,_=>a1v P H t x y
theorem b9m (v:AV) : ∀ n,rep [v] n=List.replicate n v
 | 0=>rfl
 | n+1=>by rw[b8v,b9m v n];rfl
theorem f4s {t:TypeId} {v:AV} (h:mkI P t=some v) : ∃ e bytes,a5b P t=some (e,1,bytes)/\bytes<=1048576/\a0a P e=some [v]:=by
 unfold mkI at h;grind
theorem f4t {t:TypeId} {l c:Operand} : opV P H ev ⟨d,.makeSlice t l c,ty,p,af,g⟩=a4d P H t (mkI P t) (ev l) (ev c):=by
 show a1v P H t (ev l) (ev c)=_;unfold a4d;split
 ·rename_i v a b hq hx hy;split
  ·rename_i h;obtain⟨rfl,h0,h1⟩:=h;obtain⟨e,bytes,h2,h3,h4⟩:=f4s hq;rw[hx,hy];unfold a1v;rw[h2];simp only[Option.bind_some,a6s h0];have hc:(Nat.ble a.toNat a.toNat && Nat.ble a.toNat 1048576 && Nat.ble bytes 1048576)=true:=by
    simp_all
   rw[hc];by_cases hz:a.toNat=0
   ·have e1:a1k P e (a.toNat*1)=some []:=by unfold a1k;simp[*]
    rw[e1];dsimp only;rw[hz];simp[a0k,Mem.newK_eq]
   grind[Mem.newK_eq,a0k,b9m,Nat.eq_of_beq_eq_true,a1k]
  rfl
 ·rfl
theorem f4u {tk:Nat} (_h0:tick=tk) {t:TypeId} {q q' : Option AV} {x x' y y' : Option AV} {H H' : Mem} (h0:q=q') (h1:H=H') (h2:x=x') (h3:y=y') : a4d P H t q x y=a4d P H' t q' x' y':=by grind
attribute [congr] f4u
theorem f4v {t:TypeId} {v:AV} {a:Int} (h0:0<=a) (h1:a<=1048576) : a4d P H t (some v) (some (.li a)) (some (.li a))=.val (.sl H.next 0 a.toNat a.toNat) (H.add (.cells (List.replicate a.toNat v) true 0)):=if_pos ⟨rfl,h0,h1⟩
attribute [simp] f4t f4v
end
section
variable {H:Mem}
end
end Go.Ai
end
section
namespace Go.Ai
section
variable {P:Program} {H:Mem} {ev:Ev} {d:Option Tmp} {ty:TypeId} {p:String} {af:Array Edge} {g:Option (Nat×Bool)}
noncomputable def capS (P:Program) (H:Mem) (ev:Ev) (o:Oper) (q:Option TypeDesc) (x:Option AV) : R:=match x,q with
 | some (.sl _ _ _ n),some (.slice _)=>.val (.li n) H
 | some (.lit (.slice none _ n)),some (.slice _)=>.val (.li n) H
 | _,_=>opV P H ev o
theorem f4w {x:Operand} {t:TypeId} : opV P H ev ⟨d,.call ⟨.builtin .cap,#[x],#[t]⟩,ty,p,af,g⟩=capS P H ev ⟨d,.call ⟨.builtin .cap,#[x],#[t]⟩,ty,p,af,g⟩ (P.underlying t) (ev x):=by
 unfold capS;split
 ·rename_i a off n k e hx hq;show Cd P H ev ⟨d,.call ⟨.builtin .cap,#[x],#[t]⟩,ty,p,af,g⟩ ⟨.builtin .cap,#[x],#[t]⟩=_;have e1:Bw ev [x]=some [.sl a off n k]:=by simp_all
  have hg:Ba P ev ⟨d,.call ⟨.builtin .cap,#[x],#[t]⟩,ty,p,af,g⟩=none:=by
   unfold Ba;have h1:(Op.operands (.call ⟨.builtin .cap,#[x],#[t]⟩)).toList=[x]:=by rfl
   dsimp only;rw[h1];have l1:toLit (.sl a off n k)=none:=rfl;grind
  unfold Cd;rw[show (#[x] : Array Operand).toList=[x] from rfl,e1];dsimp only;unfold a3f a8x;dsimp only;rw[hg];have e2:((⟨.builtin .cap,#[x],#[t]⟩ : Call).argTypes[0]?).bind P.underlying=P.underlying t:=rfl;dsimp only;rw[e2,hq];rfl
 ·rename_i m n e hx hq;show Cd P H ev ⟨d,.call ⟨.builtin .cap,#[x],#[t]⟩,ty,p,af,g⟩ ⟨.builtin .cap,#[x],#[t]⟩=_;have e1:Bw ev [x]=some [.lit (.slice none m n)]:=by simp_all
  have hg:Ba P ev ⟨d,.call ⟨.builtin .cap,#[x],#[t]⟩,ty,p,af,g⟩=some (.li n):=by
   refine b8u (u:=.slice none m n) (r:=.int .i64 n) (by rfl) hx fun ρ hρ=>?_;rw[a7q (b:=.cap) (c:=⟨.builtin .cap,#[x],#[t]⟩) rfl rfl];have ea:(#[x] : Array Operand).map ρ=#[ρ x]:=by simp
   rw[ea];have hcap:Ao P (Builtin.cap_ #[t] ty #[ρ x])=some (goInt n):=by
    rw[hρ];refine(Bs (m:=underlying t) (a:=TypeDesc.slice e) (a4n hq)).trans ?_;rfl
   show Ao P (do pure (Next.value (<- Builtin.cap_ #[t] ty #[ρ x])))=_;exact(Bs hcap).trans rfl
  unfold Cd;rw[show (#[x] : Array Operand).toList=[x] from rfl,e1];simp_all[a8x,a3f]
 ·rfl
theorem f4x {tk:Nat} (_h0:tick=tk) {o:Oper} {q q' : Option TypeDesc} {x x' : Option AV} {H H' : Mem} (h1:H=H') (h2:q=q') (h3:x=x') : capS P H ev o q x=capS P H' ev o q' x':=by grind
attribute [congr] f4x
theorem c4u {o:Oper} {e:TypeId} {a off n k:Nat} : capS P H ev o (some (.slice e)) (some (.sl a off n k))=.val (.li k) H:=(rfl)
theorem b9n {o:Oper} {e:TypeId} {n k:Nat} : capS P H ev o (some (.slice e)) (some (.lit (.slice none n k)))=.val (.li k) H:=(rfl)
attribute [simp] f4w c4u b9n
end
end Go.Ai
end
section
namespace Go.Ai
variable {P:Program} {H:Mem}
section
variable {ev:Ev} {d:Option Tmp} {ty:TypeId} {p:String} {af:Array Edge} {g:Option (Nat×Bool)}
end
end Go.Ai
end
section
namespace Go.Ai
section
variable {P:Program} {H:Mem} {ev:Ev} {d:Option Tmp} {ty:TypeId} {p:String} {af:Array Edge} {g:Option (Nat×Bool)}
variable {t:TypeId} {x hi mx:Operand} {i:Int} {n c:Nat} {k:IntKind}
theorem f4y : opV P H ev ⟨d,.slice t x none (some hi) (some mx),ty,p,af,g⟩=ex3 P H ev ⟨d,.slice t x none (some hi) (some mx),ty,p,af,g⟩ x hi mx (ev x) (ev hi) (ev mx) rfl rfl rfl:=(rfl)
theorem f4z (h1:i=n) : a0f none (some (.lit (.int k i))) (some (.lit (.int k i))) n n=some (0,n,n):=by
 unfold a0f a5y;simp_all[a6s,g2x,b2t]
theorem f5a (h1:i=n) (h2:n<=c) : a0f none (some (.lit (.int k i))) (some (.lit (.int k i))) n c=some (0,n,n):=by
 unfold a0f a5y;simp_all[a6s,g2x,b2t]
theorem f5b {t:TypeId} {x hi mx:Operand} {a off n c:Nat} {k:IntKind} {i:Int} {hx:ev x=some (.slq a off n c)} {hh:ev hi=some (.lit (.int k i))} {hm:ev mx=some (.lit (.int k i))} (he:(Ca P t).map (·.1)=some none) (h1:i=n) (h2:0<n) :
  ex3 P H ev ⟨d,.slice t x none (some hi) (some mx),ty,p,af,g⟩ x hi mx (some (.slq a off n c)) (some (.lit (.int k i))) (some (.lit (.int k i))) hx hh hm=.val (.sl a off n n) H:=by
 show opV P H ev _=_;show a0b P H ev _ t (ev x) none (some hi) (some mx)=_;unfold a0b;rw[a9q (x:=x) (by simp[Op.operands]) (fun v' h=>by rw[hx] at h;cases h;rfl),hx];obtain⟨q,hq,hq2⟩:=Option.map_eq_some_iff.1 he;obtain⟨q1,q2⟩:=q;dsimp only at hq2;subst hq2;obtain⟨e,i',h3,h4,h5⟩:=a6u hq;dsimp only;unfold a3g a1w;dsimp only;rw[hh,hm];dsimp only;rw[a9r h3 h4];grind[a6a,f4z,a5z,Nat.eq_of_beq_eq_true,ofOpt,a0y]
theorem f5c {t:TypeId} {x hi mx:Operand} {a off n c:Nat} {k:IntKind} {i:Int} {hx:ev x=some (.sl a off n c)} {hh:ev hi=some (.lit (.int k i))} {hm:ev mx=some (.lit (.int k i))} (he:(Ca P t).map (·.1)=some none) (h1:i=n) (h2:0<n) (h3:n<=c) :
  ex3 P H ev ⟨d,.slice t x none (some hi) (some mx),ty,p,af,g⟩ x hi mx (some (.sl a off n c)) (some (.lit (.int k i))) (some (.lit (.int k i))) hx hh hm=.val (.sl a off n n) H:=by
 show opV P H ev _=_;show a0b P H ev _ t (ev x) none (some hi) (some mx)=_;unfold a0b;rw[a9q (x:=x) (by simp[Op.operands]) (fun v' h=>by rw[hx] at h;cases h;rfl),hx];obtain⟨q,hq,hq2⟩:=Option.map_eq_some_iff.1 he;obtain⟨q1,q2⟩:=q;dsimp only at hq2;subst hq2;obtain⟨e,i',h3,h4,h5⟩:=a6u hq;dsimp only;unfold a3g a1w;dsimp only;rw[hh,hm];dsimp only;rw[a9r h3 h4];grind[a6a,f5a,a5z,Nat.eq_of_beq_eq_true,ofOpt,a0y]
theorem f5d {hx:ev x=some (.nl)} {hh:ev hi=some (.li 0)} {hm:ev mx=some (.li 0)} (he:(Ca P t).map (·.1)=some none) :
  ex3 P H ev ⟨d,.slice t x none (some hi) (some mx),ty,p,af,g⟩ x hi mx (some (.nl)) (some (.li 0)) (some (.li 0)) hx hh hm=.val (.nl) H:=by
 show opV P H ev _=_;show a0b P H ev _ t (ev x) none (some hi) (some mx)=_;unfold a0b;rw[f4m (r:=.slice none 0 0) (x:=x) (y:=hi) (z:=mx) (by rfl) hx hh hm fun ρ e1 e2 e3=>?_];show Ao P (do pure (Next.value (<- Instr.sliceAt t (ρ x) none (some (ρ hi)) (some (ρ mx)))))=_;rw[e1,e2,e3];obtain⟨q,hq,hq2⟩:=g2q.1 he;obtain⟨q1,q2⟩:=q;dsimp only at hq2;subst hq2;obtain⟨e,i,ht,hi',h5⟩:=a6u hq;have key:Ao P (Instr.slice t (.slice none 0 0) none (some (.int .i64 0)) (some (.int .i64 0)))=some (.slice none 0 0):=by
  unfold Instr.slice;refine(Bs (m:=underlying t) (a:=TypeDesc.slice e) (a4n ht)).trans ?_;dsimp only;refine(Bs (a:=(0,0,0)) ?_).trans ?_
  ·rfl
  ·refine(Bs (m:=sizeOf e) (a:=i.size) ?_).trans ?_
   ·exact(Bs (d3m hi')).trans rfl
   ·rfl
 have key2:Ao P (Instr.sliceAt t (.slice none 0 0) none (some (.int .i64 0)) (some (.int .i64 0)))=some (.slice none 0 0):=by
  grind[Instr.sliceAt,a4n,Bs]
 rw[Bs key2];rfl
attribute [simp] f4y f5b f5c f5d
end
end Go.Ai
end
section
namespace Go.Ai
section
variable {P:Program} {H:Mem} {ev:Ev} {d:Option Tmp} {ty:TypeId} {p:String} {af:Array Edge} {g:Option (Nat×Bool)} {x y:Operand} {s t:TypeId} {size bytes:Nat}
theorem f5e {a off n m:Nat} {hx:ev x=some (.sl a off n m)} {hy:ev y=some (.nl)} (hp:(apI P s t).isSome=true) :
  ex2 P H ev ⟨d,.call ⟨.builtin .append,#[x,y],#[s,t]⟩,ty,p,af,g⟩ x y (some (.sl a off n m)) (some (.nl)) hx hy=.val (.sl a off n m) H:=by
 cases hq:apI P s t with
 | none=>grind
 | some q =>
  obtain⟨q1,q2⟩:=q;show opV P H ev _=_;rw[a3m hx hy hq];rfl
attribute [simp] f5e
end
end Go.Ai
end
section
namespace Go.Ai
section
variable {P:Program} {H:Mem} {ev:Ev} {d:Option Tmp} {ty:TypeId} {p:String} {af:Array Edge} {g:Option (Nat×Bool)} {x y:Operand} {s t:TypeId} {size bytes:Nat}
open Classical in
noncomputable def apV (q:Option (Nat×Nat)) (sz off len:Nat) (cs:List AV) (ga gb blk:Option Blk) (H:Mem) (els:R) : R:=match q,ga with
 | some (size,bytes),some (.cells l0 _ _)=>if gb=blk/\size=sz/\0<size/\bytes<=1048576/\off<=l0.length then .val (.slq H.next 0 len 0) (H.add (.cells cs true size)) else els
 | _,_=>els
theorem f5f {tk:Nat} (_h0:tick=tk) {q q' : Option (Nat×Nat)} {sz off len:Nat} {cs:List AV} {ga ga' gb gb' blk:Option Blk} {H:Mem} {els:R} (h1:q=q') (h2:ga=ga') (h3:gb=gb') : apV q sz off len cs ga gb blk H els=apV q' sz off len cs ga' gb' blk H els:=by grind
attribute [congr] f5f
theorem f5g {l0 cs:List AV} {own:Bool} {z len off n:Nat} {G:Gb} {els:R} {b:Option Blk} (h1:0<size) (h2:bytes<=1048576) (h3:off<=l0.length) : apV (some (size,bytes)) size off len cs (some (.cells l0 own z)) b b ⟨.fn G,n⟩ els=.val (.slq n 0 len 0) ⟨.fn (Aj G n (some (.cells cs true size))),n+1⟩:=if_pos ⟨rfl,rfl,h1,h2,h3⟩
attribute [simp] f5g
theorem b9o {a off n c size:Nat} {cs:List AV} {l:List AV} {own:Bool} {z:Nat} {v:AV} (hv:v=.sl a off n c\/v=.slq a off n c) (h:H.get a=some (.cells l own z)) (hc:(l.drop off).take (cs.length)=cs) (hl:off+cs.length<=l.length) (hn:cs.length=n*size) : Cz H size n v=some cs:=by
 rcases hv with rfl|rfl
 all_goals grind[c3w,d2d]
end
section
variable {H:Mem}
theorem d3r {l:List AV} {z:Nat} {ag:Bool} {a off:Nat} {v:AV} (h:off<l.length) (h1:oneC v=true) :
  stS (some (ag,1)) (some (.cells l true z)) H a off [v]=.skip (H.upd a (.cells (l.set off v) true z)):=by
 refine(c3p (size:=1) rfl (by simp[h1]) h).trans ?_;simp_all[List.set_eq_take_append_cons_drop]
theorem d3s {l:List AV} {z:Nat} {ag:Bool} {a off b o n c:Nat} (h:off<l.length) :
  stS (some (ag,1)) (some (.cells l true z)) H a off [.slq b o n c]=.skip (H.upd a (.cells (l.set off (.slq b o n c)) true z)):=d3r h rfl
attribute [simp] d3s
end
theorem Ag.ap0 {P:Program} {g:Gb} {b len sz:Nat} {sv:AV} {cs:List AV} (h:Ag g b sv len cs) (hl:0<len) (hlm:len<=1000000) (hcs:cs.length=len*sz) :
  ∃ a2 blk,a2<b/\g a2=some blk/\∀ {H:Mem} {ev:Ev} {d:Option Tmp} {ty:TypeId} {p:String} {af:Array Edge} {gd:Option (Nat×Bool)} {x y:Operand} {s t:TypeId} {a off:Nat} {hx:ev x=some (.sl a off 0 0)} {hy:ev y=some sv},
   ex2 P H ev ⟨d,.call ⟨.builtin .append,#[x,y],#[s,t]⟩,ty,p,af,gd⟩ x y (some (.sl a off 0 0)) (some sv) hx hy=apV (apI P s t) sz off len cs (H.get a) (H.get a2) (some blk) H (opV P H ev ⟨d,.call ⟨.builtin .append,#[x,y],#[s,t]⟩,ty,p,af,gd⟩):=by
 rcases h with⟨h1,_⟩|⟨a2,o2,ha2,hsv,l,own,z,hg,hle,hcut⟩
 ·omega
 ·refine⟨a2,_,ha2,hg,?_⟩;intro H ev d ty p af gd x y s t a off hx hy;unfold apV;split
  ·rename_i size bytes l0 ow zz h1 h2;split
   ·rename_i h;obtain⟨hH,rfl,h4,h5,h6⟩:=h;obtain⟨k,rfl⟩ : ∃ k,len=k+1:=⟨len-1,by omega⟩;show opV P H ev _=_;have hv:∃ c,sv=.sl a2 o2 (k+1) c\/sv=.slq a2 o2 (k+1) c:=by
     grind
    obtain⟨c,hv⟩:=hv;have hn:lenOf sv=some (k+1):=by rcases hv with rfl|rfl<;>rfl
    rw[a3m hx hy h1,b8z (n:=k) hn h4 (b9o hv hH hcut hle hcs) hcs h2 (by omega) (by omega) (by omega) h5];simp
   ·rfl
  ·rfl
theorem Ag.ap00 {P:Program} {g:Gb} {b:Nat} {sv:AV} {cs:List AV} (h:Ag g b sv 0 cs) :
  ∀ {H:Mem} {ev:Ev} {d:Option Tmp} {ty:TypeId} {p:String} {af:Array Edge} {gd:Option (Nat×Bool)} {x y:Operand} {s t:TypeId} {a off:Nat} {hx:ev x=some (.sl a off 0 0)} {hy:ev y=some sv},(apI P s t).isSome=true ->
   ex2 P H ev ⟨d,.call ⟨.builtin .append,#[x,y],#[s,t]⟩,ty,p,af,gd⟩ x y (some (.sl a off 0 0)) (some sv) hx hy=.val (.sl a off 0 0) H:=by
 intro H ev d ty p af gd x y s t a off hx hy hp;have hn:lenOf sv=some 0:=by
  rcases h with⟨_,_,rfl|rfl⟩|⟨a,off,_,⟨c,rfl⟩|⟨c,rfl⟩,_⟩<;>rfl
 cases hq:apI P s t with
 | none=>grind
 | some q =>
  obtain⟨q1,q2⟩:=q;show opV P H ev _=_;rw[a3m hx hy hq];unfold a2c;rw[hn];rfl
end Go.Ai
end
section
namespace Go.Ai
def Ay (l:List AV) (off:Nat) (new:List AV) : List AV:=l.take off++new++l.drop (off+new.length)
theorem a5p {l new:List AV} {off:Nat} (h:off+new.length<=l.length) : (Ay l off new).length=l.length:=by
 grind[Ay]
theorem a8e {l new:List AV} {off:Nat} (h:off+new.length<=l.length) : (Ay l off new).take (off+new.length)=l.take off++new:=by
 grind[Ay,List.length_take,List.length_append]
section
variable {P:Program} {H:Mem} {ev:Ev} {d:Option Tmp} {ty:TypeId} {p:String} {af:Array Edge} {g:Option (Nat×Bool)} {x y:Operand} {s t:TypeId} {size bytes:Nat}
variable {k off a c:Nat}
theorem b6f {t e:TypeId} {size bytes:Nat} {z:List AV} {a b:Int} (he:a5b P t=some (e,size,bytes)) (hs:0<size) (hb:bytes<=1048576) (hz:a0a P e=some z) (h0:0<=a) (h1:a<=b) (h2:b<=1048576) :
  a1v P H t (some (.li a)) (some (.li b))=.val (.sl H.next 0 a.toNat b.toNat) (H.add (.cells (rep z b.toNat) true 0)):=by
 unfold a1v
 rw[he]
 simp only[Option.bind_some,a6s h0,a6s (show (0:Int)<=b by omega)]
 have hc:(Nat.ble a.toNat b.toNat && Nat.ble b.toNat 1048576 && Nat.ble bytes 1048576)=true:=by
  grind[Nat.ble_eq_true_of_le]
 rw[hc]
 by_cases h:b.toNat=0
 ·have e1:a1k P e (b.toNat*size)=some []:=by unfold a1k;simp[*]
  grind[a0k,rep,Mem.newK_eq]
 grind[Mem.newK_eq,a0k,Nat.mul_eq_zero,Nat.eq_of_beq_eq_true,a1k]
theorem f5h {n k off a c:Nat} {x:AV} {new l:List AV} {z:Nat} (hn:lenOf x=some (n+1)) (hs:0<size) (hf:Cz H size (n+1) x=some new) (hl:new.length=(n+1)*size)
  (hg:H.get a=some (.cells l true z)) (hc:k+(n+1)<=c) (hle:off+k*size+new.length<=l.length) (h4:allOne new=true) :
  a2c H size bytes (.sl a off k c) x=some (.sl a off (k+(n+1)) c,H.upd a (.cells (Ay l (off+k*size) new) true z)):=by
 unfold a2c;rw[hn];show (match Nat.beq size 0,Cz H size (n+1) x with|false,some new=>a2l H size bytes (n+1) (.sl a off k c) new|_,_=>none)=_;have hb:Nat.beq size 0=false:=by
  grind[Nat.eq_of_beq_eq_true]
 rw[hb,hf];dsimp only;unfold a2l;rw[a0t,hl,Nat.beq_refl];dsimp only;unfold b4m;rw[Nat.ble_eq_true_of_le hc];dsimp only;rw[hg];dsimp only;unfold b4l;rw[h4];dsimp only;rw[b3b,if_pos hle,Mem.setK_eq];rfl
noncomputable def apR (q:Option (Nat×Nat)) (k c off a:Nat) (ga gb:Option Blk) (H:Mem) (els:R) : R:=match q,ga,gb with
 | some (size,bytes),some (.cells r true z),some (.cells l _ _)=>if 0<size/\l.length=size/\off+k*size+size<=r.length/\k<c/\allOne l=true then .val (.sl a off (k+1) c) (H.upd a (.cells (Ay r (off+k*size) l) true z)) else els
 | _,_,_=>els
theorem f5i {b c':Nat} {hx:ev x=some (.sl a off k c)} {hy:ev y=some (.sl b 0 1 c')} (hkc:k<c) :
  ex2 P H ev ⟨d,.call ⟨.builtin .append,#[x,y],#[s,t]⟩,ty,p,af,g⟩ x y (some (.sl a off k c)) (some (.sl b 0 1 c')) hx hy=apR (apI P s t) k c off a (H.get a) (H.get b) H (opV P H ev ⟨d,.call ⟨.builtin .append,#[x,y],#[s,t]⟩,ty,p,af,g⟩):=by
 unfold apR;split
 ·rename_i size bytes r z l own w h1 h2 h3;split
  ·rename_i h;obtain⟨h4,h5,h6,h7,h8⟩:=h;show opV P H ev _=_;rw[a3m hx hy h1,f5h (n:=0) rfl h4 (b6c h3 (by omega)) (by omega) h2 (by omega) (by omega) h8]
  ·rfl
 ·rfl
theorem f5j {tk:Nat} (_h0:tick=tk) {q q' : Option (Nat×Nat)} {k c off a:Nat} {ga ga' gb gb' : Option Blk} {H:Mem} {els:R} (h1:q=q') (h2:ga=ga') (h3:gb=gb') : apR q k c off a ga gb H els=apR q' k c off a ga' gb' H els:=by grind
attribute [congr] f5j
theorem f5k {r l:List AV} {own:Bool} {z w n:Nat} {G:Gb} {els:R} (h1:0<size) (h2:l.length=size) (h3:off+k*size+size<=r.length) (h4:k<c) (h5:allOne l=true) :
  apR (some (size,bytes)) k c off a (some (.cells r true z)) (some (.cells l own w)) ⟨.fn G,n⟩ els=.val (.sl a off (k+1) c) ⟨.fn (Aj G a (some (.cells (Ay r (off+k*size) l) true z))),n⟩:=if_pos ⟨h1,h2,h3,h4,h5⟩
attribute [simp] f5i f5k
end
section
variable {P:Program} {H:Mem} {ev:Ev} {d:Option Tmp} {ty:TypeId} {p:String} {af:Array Edge} {g:Option (Nat×Bool)}
theorem f5l {t:TypeId} {x hi mx:Operand} {a off c:Nat} {k:IntKind} {hx:ev x=some (.sl a off 0 c)} {hh:ev hi=some (.lit (.int k 0))} {hm:ev mx=some (.lit (.int k 0))} (he:(Ca P t).map (·.1)=some none) :
  ex3 P H ev ⟨d,.slice t x none (some hi) (some mx),ty,p,af,g⟩ x hi mx (some (.sl a off 0 c)) (some (.lit (.int k 0))) (some (.lit (.int k 0))) hx hh hm=.val (.sl a off 0 0) H:=by
 show opV P H ev _=_;show a0b P H ev _ t (ev x) none (some hi) (some mx)=_;unfold a0b;rw[a9q (x:=x) (by simp[Op.operands]) (fun v' h=>by rw[hx] at h;cases h;rfl),hx];obtain⟨q,hq,hq2⟩:=g2q.1 he;obtain⟨q1,q2⟩:=q;dsimp only at hq2;subst hq2;obtain⟨e,i',h3,h4,h5⟩:=a6u hq;dsimp only;unfold a3g a1w;dsimp only;rw[hh,hm];dsimp only;rw[a9r h3 h4];rfl
attribute [simp] f5l
end
section
variable {P:Program} {H:Mem} {ev:Ev} {d:Option Tmp} {ty:TypeId} {p:String} {af:Array Edge} {g:Option (Nat×Bool)}
variable {t rt:TypeId} {x y:Operand}
def a6y (P:Program) (t:TypeId) : Bool:=match P.underlying t with|some (.slice _)=>true|_=>false
theorem f5m (h:a6y P t=true) : ∃ e,P.underlying t=some (.slice e):=by
 grind[a6y]
theorem c4v {v:AV} (hx:ev x=some v) (hv:(∃ a o n c,v=.sl a o n c)\/(∃ a o n c,v=.slq a o n c)\/v=.es) (ht:a6y P t=true) :
  a2u P H ev ⟨d,.binOp .eql t x y rt,ty,p,af,g⟩ .eql t (some v) (some (.nl))=.val (.lit (.bool false)) H:=by
 obtain⟨e,ht⟩:=f5m ht;have hg:Ba P ev ⟨d,.binOp .eql t x y rt,ty,p,af,g⟩=none :=
  a9q (x:=x) (by simp[Op.operands]) fun v' h=>by rw[hx] at h;cases h;rcases hv with⟨a,o,n,c,rfl⟩|⟨a,o,n,c,rfl⟩|rfl<;>rfl
 have hb:a2u P H ev ⟨d,.binOp .eql t x y rt,ty,p,af,g⟩ .eql t (some v) (some (.nl))=Bq P H ev ⟨d,.binOp .eql t x y rt,ty,p,af,g⟩ .eql t (some v) (some (.nl)):=by
  rcases hv with⟨a,o,n,c,rfl⟩|⟨a,o,n,c,rfl⟩|rfl<;>rfl
 rw[hb];unfold Bq;have hf:b4p .eql (some v) (some (.nl))=none:=by
  rcases hv with⟨a,o,n,c,rfl⟩|⟨a,o,n,c,rfl⟩|rfl<;>rfl
 rw[hf,hg];dsimp only;unfold b2v;rw[ht];rcases hv with⟨a,o,n,c,rfl⟩|⟨a,o,n,c,rfl⟩|rfl<;>rfl
theorem f5n {a o n c:Nat} (hx:ev x=some (.sl a o n c)) (ht:a6y P t=true) :
  a2u P H ev ⟨d,.binOp .eql t x y rt,ty,p,af,g⟩ .eql t (some (.sl a o n c)) (some (.nl))=.val (.lit (.bool false)) H:=c4v hx (.inl ⟨a,o,n,c,rfl⟩) ht
theorem f5o {a o n c:Nat} (hx:ev x=some (.slq a o n c)) (ht:a6y P t=true) :
  a2u P H ev ⟨d,.binOp .eql t x y rt,ty,p,af,g⟩ .eql t (some (.slq a o n c)) (some (.nl))=.val (.lit (.bool false)) H:=c4v hx (.inr (.inl ⟨a,o,n,c,rfl⟩)) ht
theorem f5p (hx:ev x=some .es) (ht:a6y P t=true) :
  a2u P H ev ⟨d,.binOp .eql t x y rt,ty,p,af,g⟩ .eql t (some .es) (some (.nl))=.val (.lit (.bool false)) H:=c4v hx (.inr (.inr rfl)) ht
attribute [simp] f5n f5o f5p
end
theorem b3r (z:List AV) : ∀ n,(rep z n).length=n*z.length
 | 0=>by simp
 | n+1=>by rw[b8v,Dr,b3r z n,g4j];omega
end Go.Ai
end
section
namespace Go.Ai
section
variable {P:Program} {H:Mem} {ev:Ev} {d:Option Tmp} {ty:TypeId} {p:String} {af:Array Edge} {g:Option (Nat×Bool)}
theorem f5q {t:TypeId} {x hi:Operand} {hx:ev x=some (.nl)} {hh:ev hi=some (.li 0)} (he:(Ca P t).map (·.1)=some none) :
  ex2 P H ev ⟨d,.slice t x none (some hi) none,ty,p,af,g⟩ x hi (some (.nl)) (some (.li 0)) hx hh=.val (.nl) H:=by
 show opV P H ev _=_;show a0b P H ev _ t (ev x) none (some hi) none=_;unfold a0b;rw[a9o (r:=.slice none 0 0) (x:=x) (y:=hi) (by rfl) hx hh fun ρ e1 e2=>?_];show Ao P (do pure (Next.value (<- Instr.sliceAt t (ρ x) none (some (ρ hi)) none)))=_;rw[e1,e2];obtain⟨q,hq,hq2⟩:=g2q.1 he;obtain⟨q1,q2⟩:=q;dsimp only at hq2;subst hq2;obtain⟨e,i,ht,hi',h5⟩:=a6u hq;have key:Ao P (Instr.slice t (.slice none 0 0) none (some (.int .i64 0)) none)=some (.slice none 0 0):=by
  unfold Instr.slice;refine(Bs (m:=underlying t) (a:=TypeDesc.slice e) (a4n ht)).trans ?_;dsimp only;refine(Bs (a:=(0,0,0)) ?_).trans ?_
  ·rfl
  ·refine(Bs (m:=sizeOf e) (a:=i.size) ?_).trans ?_
   ·exact(Bs (d3m hi')).trans rfl
   ·rfl
 have key2:Ao P (Instr.sliceAt t (.slice none 0 0) none (some (.int .i64 0)) none)=some (.slice none 0 0):=by
  grind[Instr.sliceAt,a4n,Bs]
 rw[Bs key2];rfl
theorem c4w {t:TypeId} {x hi:Operand} {v r:AV} {k:IntKind} {i:Int} {hx:ev x=some v} {hh:ev hi=some (.lit (.int k i))} (hl:toLit v=none) (he:(Ca P t).map (·.1)=some none) (hr:∀ size,a6a size none (some (.lit (.int k i))) none v=some r) :
  ex2 P H ev ⟨d,.slice t x none (some hi) none,ty,p,af,g⟩ x hi (some v) (some (.lit (.int k i))) hx hh=.val r H:=by
 show opV P H ev _=_;show a0b P H ev _ t (ev x) none (some hi) none=_;unfold a0b;rw[a9q (x:=x) (by simp[Op.operands]) (fun v' h=>by grind),hx];obtain⟨q,hq,hq2⟩:=g2q.1 he;obtain⟨q1,q2⟩:=q;dsimp only at hq2;subst hq2;obtain⟨e,i',h3,h4,h5⟩:=a6u hq;simp_all[a1w,a3g,a9r]
end
section
variable {H:Mem}
attribute [simp] d3r
variable {off a:Nat} {g:Gb} {l:List AV}
theorem d3t {u v:AV} (h:off+2<=l.length) : (Ay l off [u,v])[off]?=some u:=by
 (simp_all[Ay];grind)
theorem d3u {u v:AV} (h:off+2<=l.length) : (Ay l off [u,v])[off+1]?=some v:=by
 (simp_all[Ay];grind)
theorem c4x {new:List AV} {j:Nat} (h:off+new.length<=l.length) (h2:j<off\/off+new.length<=j) : (Ay l off new)[j]?=l[j]?:=by
 unfold Ay;rcases h2 with h2|h2
 ·grind
 ·rw[Eu (by grind),Dr,Dw,Fa (by omega),g5l,show off+new.length+(j-(off+new.length))=j by omega]
end
def a1p (c:Nat) (g:Gb) : Gb:=fun a=>if a=c then none else g a
theorem a2x {c a:Nat} {g:Gb} (h:a≠c) : a1p c g a=g a:=if_neg h
theorem a8f {c a:Nat} {g:Gb} {x:Blk} (h:a1p c g a=some x) : g a=some x:=by
 grind[a1p]
def Bf (sv:AV) : Prop:=∀ a o n c,sv=.sl a o n c->n<=c
theorem Row.takes {g:Gb} {a off:Nat} {cs:List AV} (h:Row g a off cs) (m:Nat) : Row g a off (cs.take m):=by
 obtain⟨l,own,z,h1,h2,h3⟩:=h
 refine⟨l,own,z,h1,?_,?_⟩
 all_goals grind
theorem Ag.cutP {P:Program} {g:Gb} {b len:Nat} {sv:AV} {cs:List AV} (h:Ag g b sv len cs) (hc:Bf sv) {t:TypeId} (he:(Ca P t).map (·.1)=some none) {k sz:Nat} (hk:k≤len) :
  ∃ sv',(∀ {H:Mem} {ev:Ev} {d:Option Tmp} {ty:TypeId} {p:String} {af:Array Edge} {gd:Option (Nat×Bool)} {x hi:Operand} {hx:ev x=some sv} {hh:ev hi=some (.li (k:Int))},
   ex2 P H ev ⟨d,.slice t x none (some hi) none,ty,p,af,gd⟩ x hi (some sv) (some (.li (k:Int))) hx hh=.val sv' H)∧Ag g b sv' k (cs.take (k * sz))∧Bf sv':=by
 rcases h with ⟨h1,h2,rfl | rfl⟩ | ⟨a,off,ha,⟨c,rfl⟩ | ⟨c,rfl⟩,hrow⟩
 ·obtain rfl:k=0:=by omega
  refine ⟨.nl,?_,.inl ⟨rfl,by simp,.inl rfl⟩,fun _ _ _ _ e=>by cases e⟩;grind [f5q]
 ·obtain rfl:k=0:=by omega
  refine ⟨.es,?_,.inl ⟨rfl,by simp,.inr rfl⟩,fun _ _ _ _ e=>by cases e⟩;intro H ev d ty p af gd x hi hx hh;exact c4w (hx:=hx) (hh:=hh) rfl he fun size=>rfl
 ·have hcc:=hc _ _ _ _ rfl;by_cases h0:c=0
  ·obtain rfl:k=0:=by omega
   subst h0;refine ⟨.sl a off 0 0,?_,.inr ⟨a,off,ha,.inl ⟨0,rfl⟩,hrow.takes _⟩,fun _ _ _ _ e=>by grind⟩;intro H ev d ty p af gd x hi hx hh;refine c4w (hx:=hx) (hh:=hh) rfl he fun size=>?_;rfl
  ·refine ⟨.sl a off k c,?_,.inr ⟨a,off,ha,.inl ⟨c,rfl⟩,hrow.takes _⟩,fun _ _ _ _ e=>by grind⟩;grind [c3u]
 ·by_cases h0:len=0
  ·obtain rfl:k=0:=by omega
   subst h0;refine ⟨.es,?_,.inl ⟨rfl,by simp,.inr rfl⟩,fun _ _ _ _ e=>by cases e⟩;intro H ev d ty p af gd x hi hx hh;refine c4w (hx:=hx) (hh:=hh) rfl he fun size=>?_;rfl
  ·refine ⟨.slq a off k c,?_,.inr ⟨a,off,ha,.inr ⟨c,rfl⟩,hrow.takes _⟩,fun _ _ _ _ e=>by cases e⟩;grind [c3v]
end Go.Ai
end
section
namespace Go.Ai
variable {a b:Wd}
def a0d (O:Int) (next:Nat) (e:Int×Int) : Option Nat :=
 if e.1 = -1/\(e.2 = -1\/e.2 = -2) then some next
 else if e.1=(next:Int)/\0<=e.2/\e.2<O then some (next+1) else none
def goE (O:Int) : List (Int×Int)->Nat->Option Nat
 | [],next=>some next
 | e :: l,next=>match a0d O next e with
  | none=>none
  | some nx=>goE O l nx
def goT (I O:Int) : Tq->Nat->Nat->Option Nat
 | [],_,next=>some next
 | r :: l,n,next=>if (r.length:Int)=I/\n<next then
   (match goE O r next with
    | none=>none
    | some nx=>goT I O l (n+1) nx)
   else none
def a1q (I O:Int) (T:Tq) : Int :=
 if I > 16\/O > 16\/T.length > 65537 then 3 else if I<1\/O<1\/T.length<1 then 1 else if goT I O T 0 1=some T.length then 0 else 1
def okE (len:Nat) (O:Int) (e:Int×Int) : Bool :=
 decide (1<=e.1/\e.1<len/\0<=e.2/\e.2<O) || decide (e.1 = -1/\(e.2 = -1\/e.2 = -2))
structure WSt where
 out:Wq
 seen:List Bool
 many:Nat
def wI (r n:Nat) : List (Int×Int)->Nat->WSt->Option WSt
  | [],_,st=>some st
  | e :: l,i,st =>
    if st.seen.getD n false=true/\(st.out.getD n []).length=r then
      (if e.1 = -1 then wI r n l (i+1) st
       else if st.seen.getD e.1.toNat false=true then none
       else wI r n l (i+1) ⟨st.out.set e.1.toNat (st.out.getD n []++[(i:Int)]),st.seen.set e.1.toNat true,st.many+1⟩)
    else some st
def wN (r:Nat) : Tq->Nat->WSt->Option WSt
 | [],_,st=>some st
 | row :: l,n,st=>match wI r n row 0 st with
  | none=>none
  | some s=>wN r l (n+1) s
def wR (T:Tq) : Nat->Nat->WSt->Option WSt
 | 0,_,st=>some st
 | k+1,r,st=>match wN r T 0 st with
  | none=>none
  | some s=>if s.many=st.many then some s else wR T k (r+1) s
def Di (len:Nat) : WSt:=⟨List.replicate len [],(List.replicate len false).set 0 true,1⟩
def Ax (T:Tq) : Wq :=
 match wR T T.length 0 (Di T.length) with
 | none=>[]
 | some s=>if s.many<T.length then [] else s.out
def lexC:Wd->Wd->Int
 | x :: a,y :: b=>if x<y then -1 else if y<x then 1 else lexC a b
 | _,_=>0
def Bl (a b:Wd) : Int:=if a.length<b.length then -1 else if b.length<a.length then 1 else lexC a b
def b6g (w:Wq) : Bool:=(List.range (w.length-1)).all fun n=>decide (Bl (w.getD n []) (w.getD (n+1) [])<0)
def c4y (I O:Int) (T:Tq) : Int :=
 if I > 16\/O > 16\/T.length > 65537 then 3 else if I<1\/O<1\/T.length<1 then 1
 else if ((T.all fun r=>decide ((r.length:Int)=I) && r.all (okE T.length O)) && decide ((Ax T).length=T.length) && b6g (Ax T))=true then 0 else 1
def LL:Wd->Wd->Prop
 | x :: a,y :: b=>x<y\/x=y/\LL a b
 | _,_=>False
def SL (a b:Wd) : Prop:=a.length<b.length\/a.length=b.length/\LL a b
theorem lexC_LL:∀ {a b:Wd},lexC a b<0↔LL a b
 | [],[]=>by simp[lexC,LL]
 | [],_ :: _=>by simp[lexC,LL]
 | _ :: _,[]=>by simp[lexC,LL]
 | x :: a,y :: b=>by
  unfold lexC LL
  by_cases h1:x<y
  ·grind
  ·rw[if_neg h1]
   by_cases h2:y<x
   all_goals (simp_all[lexC_LL,if_neg];grind)
theorem a4s : Bl a b<0↔SL a b:=by
 unfold Bl SL;by_cases h1:a.length<b.length
 ·grind
 ·rw[if_neg h1];by_cases h2:b.length<a.length
  all_goals (simp_all[lexC_LL,if_neg];grind)
theorem LL.irrefl:∀ {a:Wd},¬ LL a a
 | [],h=>h
 | x :: a,h=>by
  rcases h with h|⟨-,h⟩
  ·omega
  ·exact LL.irrefl h
theorem LL.trans:∀ {a b c:Wd},LL a b->LL b c->LL a c
 | [],_,_,h,_=>by assumption
 | _ :: _,[],_,h,_=>h.elim
 | _ :: _,_ :: _,[],_,h=>h.elim
 | x :: a,y :: b,z :: c,h1,h2=>by
  rcases h1 with h1|⟨h1,h1'⟩
  ·rcases h2 with h2|⟨h2,-⟩
   ·exact .inl (by omega)
   ·exact .inl (by omega)
  ·rcases h2 with h2|⟨h2,h2'⟩
   ·exact .inl (by omega)
   ·exact .inr ⟨by omega,h1'.trans h2'⟩
theorem SL.irrefl : ¬ SL a a:=by
 rintro (h|⟨-,h⟩)
 all_goals grind[LL.irrefl]
theorem SL.trans {c:Wd} (h1:SL a b) (h2:SL b c) : SL a c:=by
 rcases h1 with h1|⟨h1,h1'⟩
 ·rcases h2 with h2|⟨h2,-⟩
  ·exact .inl (by omega)
  ·exact .inl (by omega)
 ·rcases h2 with h2|⟨h2,h2'⟩
  ·exact .inl (by omega)
  ·exact .inr ⟨by omega,h1'.trans h2'⟩
theorem SL.le (h:SL a b) : a.length<=b.length:=by
 rcases h with h|⟨h,-⟩<;>omega
theorem LL.app:∀ {a b:Wd},LL a b->∀ i j,LL (a++[i]) (b++[j])
 | [],b,h,_,_=>by cases b<;>exact h.elim
 | _ :: _,[],h,_,_=>h.elim
 | x :: a,y :: b,h,i,j=>by
  rcases h with h|⟨h,h'⟩
  ·exact .inl h
  ·exact .inr ⟨h,h'.app i j⟩
theorem LL.last:∀ (a:Wd) {i j:Int},i<j->LL (a++[i]) (a++[j])
 | [],_,_,h=>.inl h
 | _ :: a,_,_,h=>.inr ⟨rfl,LL.last a h⟩
theorem SL.app (h:SL a b) (i j:Int) : SL (a++[i]) (b++[j]):=by
 rcases h with h|⟨h,h'⟩
 ·exact .inl (by grind)
 ·exact .inr ⟨by grind,h'.app i j⟩
theorem SL.last (a:Wd) {i j:Int} (h:i<j) : SL (a++[i]) (a++[j]):=.inr ⟨by simp,LL.last a h⟩
theorem SL.nil (a:Wd) (i:Int) : SL [] (a++[i]):=.inl (by simp)
theorem d3v {w:Wq} (h:b6g w=true) : ∀ a b,a<b->b<w.length->SL (w.getD a []) (w.getD b []):=by
 have step:∀ n,n+1<w.length->SL (w.getD n []) (w.getD (n+1) []):=fun n hn=>by
  have:=Eb.1 h n (by grind);simp_all[a4s]
 intro a b hab
 induction b with
 | zero=>omega
 | succ b ih =>
  intro hb;by_cases e:a=b
  ·grind
  ·exact(ih (by omega) (by omega)).trans (step b hb)
theorem f5r {w:Wq} (h:∀ n,n+1<w.length->SL (w.getD n []) (w.getD (n+1) [])) : b6g w=true:=by
 grind[b6g,a4s]
theorem a8g {α:Type} (l:List α) (i j:Nat) (a d:α) : (l.set i a).getD j d=if i=j/\i<l.length then a else l.getD j d:=by
 grind
end Go.Ai
end
section
namespace Go.Ai
section
variable {P:Program} {H:Mem} {ev:Ev} {d:Option Tmp} {ty:TypeId} {p:String} {af:Array Edge} {g:Option (Nat×Bool)} {x y:Operand} {s t:TypeId} {size bytes:Nat}
variable {cs:List AV} {sz n b k tk:Nat} {sv:AV} {G:Gb} {els:R}
theorem f5s {n k off a c:Nat} {x:AV} {new l:List AV} {own:Bool} {z:Nat} (hn:lenOf x=some (n+1)) (hs:0<size) (hf:Cz H size (n+1) x=some new) (hl:new.length=(n+1)*size)
  (hg:H.get a=some (.cells l own z)) (hle:off+k*size<=l.length) (hc:c<k+(n+1)) (h1:k+(n+1)<=1048576) (h3:c<=1048576) (h2:bytes<=1048576) :
  a2c H size bytes (.sl a off k c) x=some (.slq H.next 0 (k+(n+1)) 0,H.add (.cells ((l.drop off).take (k*size)++new) true size)):=by
 unfold a2c;rw[hn];show (match Nat.beq size 0,Cz H size (n+1) x with|false,some new=>a2l H size bytes (n+1) (.sl a off k c) new|_,_=>none)=_;have hb:Nat.beq size 0=false:=by
  grind[Nat.eq_of_beq_eq_true]
 rw[hb,hf];dsimp only;unfold a2l;rw[a0t,hl,Nat.beq_refl];dsimp only;unfold b4m;have hb2:Nat.ble (k+(n+1)) c=false:=by
  cases hb2:Nat.ble (k+(n+1)) c with
  | false=>rfl
  | true=>have:=Nat.le_of_ble_eq_true hb2;omega
 simp_all[b8x,b4z,a6i,b8y]
open Classical in
noncomputable def b6h (q:Option (Nat×Nat)) (sz k len a:Nat) (cs:List AV) (ga gb blk:Option Blk) (H:Mem) (els:R) : R:=match q,ga with
 | some (size,bytes),some (.cells r true z)=>if gb=blk/\size=sz/\z=sz/\0<size/\bytes<=1048576/\r.length=k*sz/\k<=40000/\allOne cs=true then .val (.slq H.next 0 (k+len) 0) ((H.rm a).add (.cells (r++cs) true sz)) else els
 | _,_=>els
theorem f5t (_h0:tick=tk) {q q' : Option (Nat×Nat)} {sz k len a:Nat} {cs:List AV} {ga ga' gb gb' blk:Option Blk} {H:Mem} {els:R} (h1:q=q') (h2:ga=ga') (h3:gb=gb') : b6h q sz k len a cs ga gb blk H els=b6h q' sz k len a cs ga' gb' blk H els:=by grind
attribute [congr] f5t
theorem f5u {r:List AV} {len a:Nat} {b:Option Blk} (h1:0<sz) (h2:bytes<=1048576) (h3:r.length=k*sz) (h4:k<=40000) (h5:allOne cs=true) : b6h (some (sz,bytes)) sz k len a cs (some (.cells r true sz)) b b ⟨.fn G,n⟩ els=.val (.slq n 0 (k+len) 0) ⟨.fn (Aj (Aj G a none) n (some (.cells (r++cs) true sz))),n+1⟩:=if_pos ⟨rfl,rfl,rfl,h1,h2,h3,h4,h5⟩
open Classical in
noncomputable def b6i (q:Option (Nat×Nat)) (sz k len c off:Nat) (cs:List AV) (ga gb blk:Option Blk) (H:Mem) (els:R) : R:=match q,ga with
 | some (size,bytes),some (.cells r _ _)=>if gb=blk/\size=sz/\0<size/\bytes<=1048576/\off+k*sz<=r.length/\c<k+len/\k<=40000/\c<=1048576 then .val (.slq H.next 0 (k+len) 0) (H.add (.cells ((r.drop off).take (k*sz)++cs) true sz)) else els
 | _,_=>els
theorem f5v (_h0:tick=tk) {q q' : Option (Nat×Nat)} {sz k len c off:Nat} {cs:List AV} {ga ga' gb gb' blk:Option Blk} {H:Mem} {els:R} (h1:q=q') (h2:ga=ga') (h3:gb=gb') : b6i q sz k len c off cs ga gb blk H els=b6i q' sz k len c off cs ga' gb' blk H els:=by grind
attribute [congr] f5v
theorem f5w {r:List AV} {own:Bool} {z len c off:Nat} {b:Option Blk} (h1:0<sz) (h2:bytes<=1048576) (h3:off+k*sz<=r.length) (h4:c<k+len) (h5:k<=40000) (h6:c<=1048576) : b6i (some (sz,bytes)) sz k len c off cs (some (.cells r own z)) b b ⟨.fn G,n⟩ els=.val (.slq n 0 (k+len) 0) ⟨.fn (Aj G n (some (.cells ((r.drop off).take (k*sz)++cs) true sz))),n+1⟩:=if_pos ⟨rfl,rfl,h1,h2,h3,h4,h5,h6⟩
open Classical in
noncomputable def b6j (q:Option (Nat×Nat)) (sz len:Nat) (cs:List AV) (gb blk:Option Blk) (H:Mem) (els:R) : R:=match q with
 | some (size,bytes)=>if gb=blk/\size=sz/\0<size/\bytes<=1048576 then .val (.slq H.next 0 len 0) (H.add (.cells cs true sz)) else els
 | _=>els
theorem f5x (_h0:tick=tk) {q q' : Option (Nat×Nat)} {sz len:Nat} {cs:List AV} {gb gb' blk:Option Blk} {H:Mem} {els:R} (h1:q=q') (h3:gb=gb') : b6j q sz len cs gb blk H els=b6j q' sz len cs gb' blk H els:=by grind
theorem f5y {len:Nat} {b:Option Blk} (h1:0<sz) (h2:bytes<=1048576) : b6j (some (sz,bytes)) sz len cs b b ⟨.fn G,n⟩ els=.val (.slq n 0 len 0) ⟨.fn (Aj G n (some (.cells cs true sz))),n+1⟩:=if_pos ⟨rfl,rfl,h1,h2⟩
attribute [congr] f5x
attribute [simp] f5y
attribute [simp] f5u f5w
end
theorem Ag.lenOf' {g:Gb} {b len:Nat} {sv:AV} {cs:List AV} (h:Ag g b sv len cs) (hl:0<len) : ∃ a2 o2 c l own z,a2<b/\(sv=.sl a2 o2 len c\/sv=.slq a2 o2 len c)/\g a2=some (.cells l own z)/\o2+cs.length<=l.length/\(l.drop o2).take cs.length=cs:=by
 rcases h with⟨h1,_⟩|⟨a2,o2,ha2,hsv,l,own,z,hg,hle,hcut⟩
 all_goals grind
theorem Ag.apq {P:Program} {g:Nat->Option Blk} {b len sz:Nat} {sv:AV} {cs:List AV} (h:Ag g b sv len cs) (hl:0<len) (hlm:len<=1000000) (hcs:cs.length=len*sz) :
  ∃ a2 blk,a2<b/\g a2=some blk/\∀ {H:Mem} {ev:Ev} {d:Option Tmp} {ty:TypeId} {p:String} {af:Array Edge} {gd:Option (Nat×Bool)} {x y:Operand} {s t:TypeId} {a k:Nat} {hx:ev x=some (.slq a 0 k 0)} {hy:ev y=some sv},
   ex2 P H ev ⟨d,.call ⟨.builtin .append,#[x,y],#[s,t]⟩,ty,p,af,gd⟩ x y (some (.slq a 0 k 0)) (some sv) hx hy=b6h (apI P s t) sz k len a cs (H.get a) (H.get a2) (some blk) H (opV P H ev ⟨d,.call ⟨.builtin .append,#[x,y],#[s,t]⟩,ty,p,af,gd⟩):=by
 obtain⟨a2,o2,c,l,own,z,ha2,hv,hg,hle,hcut⟩:=h.lenOf' hl;refine⟨a2,_,ha2,hg,?_⟩;intro H ev d ty p af gd x y s t a k hx hy;unfold b6h;split
 ·rename_i size bytes r zz h1 h2;split
  ·rename_i h;obtain⟨hH,rfl,rfl,h4,h5,h6,h7,h8⟩:=h;obtain⟨j,rfl⟩ : ∃ j,len=j+1:=⟨len-1,by omega⟩;show opV P H ev _=_;have hn:lenOf sv=some (j+1):=by rcases hv with rfl|rfl<;>rfl
   rw[a3m hx hy h1,d2f (n:=j) hn h4 (b9o hv hH hcut hle hcs) hcs h2 h6 (by omega) h5 h8];rfl
  ·rfl
 ·rfl
theorem Ag.apo {P:Program} {g:Nat->Option Blk} {b len sz:Nat} {sv:AV} {cs:List AV} (h:Ag g b sv len cs) (hl:0<len) (hlm:len<=1000000) (hcs:cs.length=len*sz) :
  ∃ a2 blk,a2<b/\g a2=some blk/\∀ {H:Mem} {ev:Ev} {d:Option Tmp} {ty:TypeId} {p:String} {af:Array Edge} {gd:Option (Nat×Bool)} {x y:Operand} {s t:TypeId} {a off k c:Nat} {hx:ev x=some (.sl a off k c)} {hy:ev y=some sv},c<k+len ->
   ex2 P H ev ⟨d,.call ⟨.builtin .append,#[x,y],#[s,t]⟩,ty,p,af,gd⟩ x y (some (.sl a off k c)) (some sv) hx hy=b6i (apI P s t) sz k len c off cs (H.get a) (H.get a2) (some blk) H (opV P H ev ⟨d,.call ⟨.builtin .append,#[x,y],#[s,t]⟩,ty,p,af,gd⟩):=by
 obtain⟨a2,o2,c2,l,own,z,ha2,hv,hg,hle,hcut⟩:=h.lenOf' hl;refine⟨a2,_,ha2,hg,?_⟩;intro H ev d ty p af gd x y s t a off k c hx hy hkc;unfold b6i;split
 ·rename_i size bytes r ow zz h1 h2;split
  ·rename_i h;obtain⟨hH,rfl,h4,h5,h6,h7,h8,h9⟩:=h;obtain⟨j,rfl⟩ : ∃ j,len=j+1:=⟨len-1,by omega⟩;show opV P H ev _=_;have hn:lenOf sv=some (j+1):=by rcases hv with rfl|rfl<;>rfl
   rw[a3m hx hy h1,f5s (n:=j) hn h4 (b9o hv hH hcut hle hcs) hcs h2 h6 hkc (by omega) h9 h5]
  ·rfl
 ·rfl
theorem Ag.apn {P:Program} {g:Gb} {b len sz:Nat} {sv:AV} {cs:List AV} (h:Ag g b sv len cs) (hl:0<len) (hlm:len<=1000000) (hcs:cs.length=len*sz) :
  ∃ a2 blk,a2<b/\g a2=some blk/\∀ {H:Mem} {ev:Ev} {d:Option Tmp} {ty:TypeId} {p:String} {af:Array Edge} {gd:Option (Nat×Bool)} {x y:Operand} {s t:TypeId} {hx:ev x=some (.nl)} {hy:ev y=some sv},
   ex2 P H ev ⟨d,.call ⟨.builtin .append,#[x,y],#[s,t]⟩,ty,p,af,gd⟩ x y (some (.nl)) (some sv) hx hy=b6j (apI P s t) sz len cs (H.get a2) (some blk) H (opV P H ev ⟨d,.call ⟨.builtin .append,#[x,y],#[s,t]⟩,ty,p,af,gd⟩):=by
 obtain⟨a2,o2,c,l,own,z,ha2,hv,hg,hle,hcut⟩:=h.lenOf' hl
 refine⟨a2,_,ha2,hg,?_⟩
 intro H ev d ty p af gd x y s t hx hy
 unfold b6j
 split
 ·rename_i size bytes h1
  split
  ·rename_i h
   obtain⟨hH,rfl,h4,h5⟩:=h
   obtain⟨j,rfl⟩ : ∃ j,len=j+1:=⟨len-1,by omega⟩
   show opV P H ev _=_
   have hn:lenOf sv=some (j+1):=by rcases hv with rfl|rfl<;>rfl
   rw[a3m hx hy h1,d2e (n:=j) hn h4 (b9o hv hH hcut hle hcs) hcs (by omega) h5]
  ·rfl
 ·rfl
end Go.Ai
end
section
namespace Go.Ai
variable {T:Tq} {O:Int} {n:Nat}
def EdT (T:Tq) (p j t:Nat) : Prop:=∃ e,(T.getD p [])[j]?=some e/\e.1=(t:Int)
theorem b3s {i:Nat} (h:i<(T.getD n []).length) : n<T.length:=by
 grind
theorem EdT.lt {p j t:Nat} (h:EdT T p j t) : p<T.length:=by
 obtain⟨e,h,-⟩:=h;grind
theorem EdT.fun {p j t u:Nat} (h:EdT T p j t) (h2:EdT T p j u) : t=u:=by
 obtain⟨e,h,h'⟩:=h;obtain⟨f,h2,h2'⟩:=h2;grind
def Sn (st:WSt) (m:Nat) : Prop:=st.seen.getD m false=true
structure a6z (T:Tq) (st:WSt) : Prop where
 lo:st.out.length=T.length
 ls:st.seen.length=T.length
 s0:Sn st 0
 o0:st.out.getD 0 []=[]
 cnt:st.many=st.seen.count true
 src:∀ m,Sn st m->m≠0->∃ p j,EdT T p j m
def a7a (T:Tq) (st:WSt) (n i:Nat) : Prop :=
 ∀ j,j<i->∀ t,EdT T n j t->Sn st t/\st.out.getD t []=st.out.getD n []++[(j:Int)]
structure a7b (st st' : WSt) : Prop where
 keep:∀ m,Sn st m->Sn st' m/\st'.out.getD m []=st.out.getD m []
 le:st.many<=st'.many
 eq:st'.many=st.many->st'=st
theorem a7b.refl (st:WSt) : a7b st st:=⟨fun _ h=>⟨h,rfl⟩,Dp _,fun _=>rfl⟩
theorem a7b.trans {a b c:WSt} (h1:a7b a b) (h2:a7b b c) : a7b a c :=
 ⟨fun m h=>⟨(h2.keep m (h1.keep m h).1).1,((h2.keep m (h1.keep m h).1).2).trans (h1.keep m h).2⟩,Ec h1.le h2.le,fun e=>by
  have e1:=h1.le;have e2:=h2.le;rw[h2.eq (by omega),h1.eq (by omega)]⟩
theorem a7a.mono {st st': WSt} {i:Nat} (h:a7a T st n i) (hn:Sn st n) (hx:a7b st st') : a7a T st' n i:=fun j hj t ht=>by
 obtain⟨h1,h2⟩:=h j hj t ht;obtain⟨h3,h4⟩:=hx.keep t h1;exact⟨h3,by rw[h4,h2,(hx.keep n hn).2]⟩
theorem count_set:∀ (l:List Bool) (i:Nat),i<l.length->l.getD i false=false->(l.set i true).count true=l.count true+1
 | [],_,h,_=>by grind
 | b :: l,0,_,h=>by
  grind
 | b :: l,i+1,h,h2=>by
  grind
theorem d3w {α:Type} {T:List α} {d:α} (h:n<T.length) : T.getD n d∈T:=by
 grind
theorem d3x (hok:∀ r∈T,∀ e∈r,okE T.length O e=true) {n i:Nat} {e:Int×Int} (h:(T.getD n [])[i]?=some e) :
  (1<=e.1/\e.1<T.length)\/e.1 = -1:=by
 obtain⟨hi,h⟩:=Ea.1 h;have:=hok _ (d3w (d:=[]) (b3s hi)) e (h ▸ Dt hi);unfold okE at this;grind
theorem c4z {T:List (List (Int×Int))} {O:Int} (hok:∀ r∈T,∀ e∈r,okE T.length O e=true) (r n:Nat) :
  ∀ (es:List (Int×Int)) (i:Nat) (st st' : WSt),es=(T.getD n []).drop i->a6z T st->a7a T st n i->wI r n es i st=some st' ->
  a6z T st'/\a7b st st'/\(Sn st n->(st.out.getD n []).length=r->a7a T st' n (T.getD n []).length)/\(∀ m,Sn st' m->Sn st m\/(st'.out.getD m []).length=r+1)
 | [],i,st,st',he,hinv,hd,h=>by
  unfold wI at h;cases h;refine⟨hinv,.refl _,fun _ _=>?_,fun m hm=>.inl hm⟩;have:(T.getD n []).length<=i:=List.drop_eq_nil_iff.1 he.symm;intro j hj;exact hd j (by omega)
 | e :: es,i,st,st',he,hinv,hd,h=>by
  unfold wI at h;have hi:i<(T.getD n []).length:=by
   grind[List.drop_eq_nil_iff]
  have hcons:=List.drop_eq_getElem_cons hi;rw[hcons] at he;injection he with he1 he2;have hei:(T.getD n [])[i]?=some e:=by grind
  have hnT:n<T.length:=b3s hi;by_cases hc:st.seen.getD n false=true/\(st.out.getD n []).length=r
  ·rw[if_pos hc] at h;by_cases h1:e.1 = -1
   ·rw[if_pos h1] at h;refine c4z hok r n es (i+1) st st' he2 hinv (fun j hj t ht=>?_) h;by_cases hji:j=i
    ·subst hji;obtain⟨f,hf,hf2⟩:=ht;grind
    ·exact hd j (by omega) t ht
   ·rw[if_neg h1] at h;have hb:=(d3x hok hei).resolve_right h1;obtain⟨t,ht⟩ : ∃ t:Nat,e.1=(t:Int):=⟨e.1.toNat,by omega⟩;have htn:e.1.toNat=t:=by omega
    have hEd:EdT T n i t:=⟨e,hei,ht⟩;rw[htn] at h;by_cases hs:st.seen.getD t false=true
    ·grind
    rw[if_neg hs] at h;have hs' : st.seen.getD t false=false:=by grind
    have ht0:t≠0:=by omega
    have htT:t<T.length:=by omega
    have hso:∀ m,(st.seen.set t true).getD m false=if t=m then true else st.seen.getD m false:=fun m=>by
     rw[a8g];by_cases hm:t=m
     ·rw[if_pos ⟨hm,by rw[hinv.ls];grind⟩,if_pos hm]
     grind
    have hoo:∀ m,(st.out.set t (st.out.getD n []++[(i:Int)])).getD m []=if t=m then st.out.getD n []++[(i:Int)] else st.out.getD m []:=fun m=>by
     rw[a8g];by_cases hm:t=m
     ·rw[if_pos ⟨hm,by rw[hinv.lo];grind⟩,if_pos hm]
     grind
    have hinv1:a6z T ⟨st.out.set t (st.out.getD n []++[(i:Int)]),st.seen.set t true,st.many+1⟩:=by
     refine⟨by rw[List.length_set,hinv.lo],by rw[List.length_set,hinv.ls],?_,?_,?_,?_⟩
     ·show (st.seen.set t true).getD 0 false=true;rw[hso,if_neg ht0];exact hinv.s0
     ·show (st.out.set t _).getD 0 []=[];rw[hoo,if_neg ht0];exact hinv.o0
     ·show st.many+1=(st.seen.set t true).count true;rw[count_set _ _ (by grind) hs',hinv.cnt]
     ·intro m hm hm0;by_cases e1:t=m
      ·grind
      ·refine hinv.src m ?_ hm0;have h2:(st.seen.set t true).getD m false=true:=hm;rw[hso,if_neg e1] at h2;exact h2
    have hx1:a7b st ⟨st.out.set t (st.out.getD n []++[(i:Int)]),st.seen.set t true,st.many+1⟩:=by
     refine⟨fun m hm=>?_,Nat.le_succ _,fun h=>by grind⟩;have hne:t≠m:=fun e=>by subst e;exact hs hm
     refine⟨?_,?_⟩
     ·show (st.seen.set t true).getD m false=true;rw[hso,if_neg hne];exact hm
     grind
    have hnt:t≠n:=fun e=>by grind
    have hd1:a7a T ⟨st.out.set t (st.out.getD n []++[(i:Int)]),st.seen.set t true,st.many+1⟩ n (i+1):=by
     intro j hj u hu;by_cases hji:j=i
     ·subst hji;have:u=t:=hu.fun hEd;subst this;refine⟨?_,?_⟩
      ·show (st.seen.set u true).getD u false=true;grind
      grind
     ·exact hd.mono hc.1 hx1 j (by omega) u hu
    obtain⟨a1,a2,a3,a4⟩:=c4z hok r n es (i+1) _ st' he2 hinv1 hd1 h;have hsn1:Sn ⟨st.out.set t (st.out.getD n []++[(i:Int)]),st.seen.set t true,st.many+1⟩ n:=(hx1.keep n hc.1).1;refine⟨a1,hx1.trans a2,fun _ _=>a3 hsn1 ?_,fun m hm=>?_⟩
    ·grind
    ·rcases a4 m hm with h2|h2
     ·by_cases e1:t=m
      ·subst e1;right;rw[(a2.keep t h2).2];grind
      ·left;have h3:(st.seen.set t true).getD m false=true:=h2;rw[hso,if_neg e1] at h3;exact h3
     grind
  ·rw[if_neg hc] at h;cases h;exact⟨hinv,.refl _,fun h1 h2=>absurd ⟨h1,h2⟩ hc,fun m hm=>.inl hm⟩
structure WQ (T:Tq) (r:Nat) (st:WSt) (n:Nat) : Prop where
 le:∀ m,Sn st m->(st.out.getD m []).length<=r+1
 old:∀ m,Sn st m->(st.out.getD m []).length<r->a7a T st m (T.getD m []).length
 now:∀ m,Sn st m->(st.out.getD m []).length=r->m<n->a7a T st m (T.getD m []).length
theorem d3y {T:Tq} {O:Int} (hok:∀ r∈T,∀ e∈r,okE T.length O e=true) (r:Nat) :
  ∀ (rows:Tq) (n:Nat) (st st' : WSt),rows=T.drop n->a6z T st->WQ T r st n->wN r rows n st=some st' ->
  a6z T st'/\a7b st st'/\WQ T r st' T.length
 | [],n,st,st',he,hinv,hq,h=>by
  unfold wN at h
  cases h
  have:T.length<=n:=List.drop_eq_nil_iff.1 he.symm
  exact⟨hinv,.refl _,hq.le,hq.old,fun m hm hl hlt=>hq.now m hm hl (by omega)⟩
 | row :: rows,n,st,st',he,hinv,hq,h=>by
  unfold wN at h
  have hi:n<T.length:=by
   grind[List.drop_eq_nil_iff]
  rw[List.drop_eq_getElem_cons hi] at he
  injection he with he1 he2
  have hrow:T.getD n []=row:=by grind
  cases hs:wI r n row 0 st with
  | none=>grind
  | some s =>
   rw[hs] at h
   obtain⟨a1,a2,a3,a4⟩:=c4z hok r n row 0 st s (by grind) hinv (fun j hj=>by omega) hs
   have hq1:WQ T r s (n+1):=by
    refine⟨fun m hm=>?_,fun m hm hl=>?_,fun m hm hl hlt=>?_⟩
    ·rcases a4 m hm with h2|h2
     ·rw[(a2.keep m h2).2];exact hq.le m h2
     grind
    ·rcases a4 m hm with h2|h2
     ·exact(hq.old m h2 (by rw[(a2.keep m h2).2] at hl;grind)).mono h2 a2
     grind
    ·rcases a4 m hm with h2|h2
     ·have hl2:(st.out.getD m []).length=r:=by rw[(a2.keep m h2).2] at hl;grind
      by_cases e:m=n
      ·grind
      ·exact(hq.now m h2 hl2 (by omega)).mono h2 a2
     grind
   obtain⟨b1,b2,b3⟩:=d3y hok r rows (n+1) s st' he2 a1 hq1 h
   exact⟨b1,a2.trans b2,b3⟩
theorem d3z (st:WSt) {T:Tq} (h:a6z T st) : st.many<=T.length:=by
 rw[h.cnt,<- h.ls];grind
theorem c5a (hok:∀ r∈T,∀ e∈r,okE T.length O e=true) :
  ∀ (k r:Nat) (st st' : WSt),k+r=T.length->a6z T st->(∀ m,Sn st m->(st.out.getD m []).length<=r) ->
  (∀ m,Sn st m->(st.out.getD m []).length<r->a7a T st m (T.getD m []).length)->r+1<=st.many->wR T k r st=some st' ->
  a6z T st'/\∀ m,Sn st' m->a7a T st' m (T.getD m []).length
 | 0,r,st,st',hk,hinv,_,_,hm,_=>by
  have:=d3z st hinv;omega
 | k+1,r,st,st',hk,hinv,hle,hold,hm,h=>by
  unfold wR at h
  cases hs:wN r T 0 st with
  | none=>grind
  | some s =>
   rw[hs] at h;obtain⟨a1,a2,a3⟩:=d3y hok r T 0 st s rfl hinv ⟨fun m hm=>by grind,hold,fun m _ _ hlt=>by omega⟩ hs;have hlt:∀ m,Sn s m->m<T.length:=fun m hm=>by
    by_cases hh:m<T.length
    ·grind
    ·have h2:s.seen.getD m false=true:=hm;rw[Dx,g2k (by rw[a1.ls];omega)] at h2;grind
   by_cases he:s.many=st.many
   ·have h3:(if s.many=st.many then some s else wR T k (r+1) s)=some st':=h;rw[if_pos he] at h3;injection h3 with h3;have e:=a2.eq he;rw[<- h3,e];rw[e] at a3 hlt;refine⟨hinv,fun m hm=>?_⟩;have h4:=hle m hm;by_cases h5:(st.out.getD m []).length=r
    ·exact a3.now m hm h5 (hlt m hm)
    grind
   ·have h3:(if s.many=st.many then some s else wR T k (r+1) s)=some st':=h;rw[if_neg he] at h3;have:=a2.le;refine c5a hok k (r+1) s st' (by omega) a1 a3.le (fun m hm hl=>?_) (by omega) h3;by_cases h5:(s.out.getD m []).length=r
    ·exact a3.now m hm h5 (hlt m hm)
    ·exact a3.old m hm (by omega)
theorem all_of_count:∀ {l:List Bool},l.count true=l.length->∀ m,m<l.length->l.getD m false=true
 | [],_,m,h=>by grind
 | b :: l,hc,m,h=>by
  have h1:l.count true<=l.length:=List.count_le_length;rw[List.count_cons] at hc
  cases b with
  | false=>simp at hc;omega
  | true =>
   cases m with
   | zero=>rfl
   | succ m =>
    have:=all_of_count (l:=l) (by simpa using hc) m (by simpa using h);simpa using this
theorem d4a (hok:∀ r∈T,∀ e∈r,okE T.length O e=true) (h1:1<=T.length) (hl:(Ax T).length=T.length) :
  (∀ p j t,EdT T p j t->t<T.length/\1<=t/\(Ax T).getD t []=(Ax T).getD p []++[(j:Int)])/\(∀ t,1<=t->t<T.length->∃ p j,EdT T p j t):=by
 cases hs:wR T T.length 0 (Di T.length) with
 | none =>
  grind[Ax]
 | some s =>
  have hr0:Ax T=if s.many<T.length then [] else s.out:=by grind[Ax]
  by_cases hm:s.many<T.length
  ·grind
  have hr:Ax T=s.out:=by grind
  rw[hr];have hs0:∀ m,Sn (Di T.length) m->m=0:=fun m hm=>by
   have h2:((List.replicate T.length false).set 0 true).getD m false=true:=hm;grind
  have ho0:∀ m,(Di T.length).out.getD m []=[]:=fun m=>by
   show (List.replicate T.length ([] : Wd)).getD m []=[];grind
  have hinv0:a6z T (Di T.length):=by
   refine⟨by simp[Di],by simp[Di],?_,ho0 0,?_,fun m hm h=>absurd (hs0 m hm) h⟩
   ·show ((List.replicate T.length false).set 0 true).getD 0 false=true;grind
   ·show 1=((List.replicate T.length false).set 0 true).count true;grind
  obtain⟨a1,a2⟩:=c5a hok T.length 0 _ s rfl hinv0 (fun m hm=>by grind) (fun m hm h=>by omega) (by show 0+1<=1;omega) hs;have hall:∀ m,m<T.length->Sn s m:=fun m hm2=>by
   have h4:=d3z s a1;exact all_of_count (by rw[<- a1.cnt,a1.ls];omega) m (by rw[a1.ls];grind)
  refine⟨fun p j t hE=>?_,fun t ht1 ht=>a1.src t (hall t ht) (by omega)⟩;obtain⟨e,he,het⟩:=hE;have hb:=d3x hok he;have hj:j<(T.getD p []).length:=(Ea.1 he).1;exact⟨by omega,by omega,(a2 p (hall p (b3s hj)) j hj t ⟨e,he,het⟩).2⟩
end Go.Ai
end
section
namespace Go.Ai
variable {T:Tq} {O:Int}
structure BH (T:Tq) (next n i:Nat) : Prop where
 lo:1<=next
 hi:next<=T.length
 a:∀ t,1<=t->t<next->∃ p j,(p<n\/p=n/\j<i)/\EdT T p j t
 b:∀ p j t,(p<n\/p=n/\j<i)->EdT T p j t->t<next
theorem f5z (hok:∀ r∈T,∀ e∈r,okE T.length O e=true) {n i:Nat} {e:Int×Int} (h:(T.getD n [])[i]?=some e) :
  (1<=e.1/\e.1<T.length/\0<=e.2/\e.2<O)\/(e.1 = -1/\(e.2 = -1\/e.2 = -2)):=by
 obtain⟨hi,h⟩:=Ea.1 h;have:=hok _ (d3w (d:=[]) (b3s hi)) e (h ▸ Dt hi);unfold okE at this;rcases g4b.1 this with h2|h2
 ·exact .inl (of_decide_eq_true h2)
 ·exact .inr (of_decide_eq_true h2)
theorem c5b (hok:∀ r∈T,∀ e∈r,okE T.length O e=true) (W:Wq)
  (hL:∀ p j t,EdT T p j t->t<T.length/\1<=t/\W.getD t []=W.getD p []++[(j:Int)]) (hC:∀ t,1<=t->t<T.length->∃ p j,EdT T p j t)
  (hI:∀ a b,a<b->b<T.length->SL (W.getD a []) (W.getD b [])) (n:Nat) :
  ∀ (es:List (Int×Int)) (i next:Nat),es=(T.getD n []).drop i->BH T next n i->∃ nx,goE O es next=some nx/\BH T nx n (T.getD n []).length
 | [],i,next,he,hb=>by
  have hle:(T.getD n []).length<=i:=g3d.1 he.symm;refine⟨next,rfl,hb.lo,hb.hi,fun t h1 h2=>?_,fun p j t h hE=>hb.b p j t (by omega) hE⟩;obtain⟨p,j,h,hE⟩:=hb.a t h1 h2;refine⟨p,j,?_,hE⟩;rcases h with h|⟨h,-⟩
  ·exact .inl h
  ·subst h;obtain⟨e,he,-⟩:=hE;exact .inr ⟨rfl,(Ea.1 he).1⟩
 | e :: es,i,next,he,hb=>by
  have hi:i<(T.getD n []).length:=by
   by_cases hh:i<(T.getD n []).length
   ·exact hh
   ·rw[g3d.2 (by omega)] at he;cases he
  have hcons:=Ef hi;rw[hcons] at he;injection he with he1 he2;have hei:(T.getD n [])[i]?=some e:=by rw[he1];exact Dv hi
  have hnT:n<T.length:=b3s hi;unfold goE;rcases f5z hok hei with⟨o1,o2,o3,o4⟩|⟨o1,o2⟩
  ·obtain⟨t,ht⟩ : ∃ t:Nat,e.1=(t:Int):=⟨e.1.toNat,by omega⟩;have hE:EdT T n i t:=⟨e,hei,ht⟩;obtain⟨hl1,hl2,hl3⟩:=hL n i t hE;have hge:next<=t:=by
    by_cases h:next<=t
    ·exact h
    ·obtain⟨p,j,hbef,hE2⟩:=hb.a t hl2 (by omega);have h3:=(hL p j t hE2).2.2;rw[hl3] at h3;obtain⟨h4,h5⟩:=List.append_inj' h3 rfl;have h6:(i:Int)=(j:Int):=by simpa using h5
     rcases hbef with hbef|⟨hbef,hj⟩
     ·exact absurd (h4 ▸ hI p n hbef hnT) SL.irrefl
     ·omega
   have hle:t<=next:=by
    by_cases h:t<=next
    ·exact h
    ·obtain⟨p,j,hE2⟩:=hC next hb.lo (by omega);have h3:=(hL p j next hE2).2.2;have h4:=hI next t (by omega) hl1;rw[hl3,h3] at h4;by_cases h5:p<n\/p=n/\j<i
     ·have:=hb.b p j next h5 hE2;omega
     ·by_cases h6:p=n
      ·subst h6;by_cases h7:j=i
       ·subst h7;have:=hE.fun hE2;omega
       ·have h8:=SL.last (W.getD p []) (i:=(i:Int)) (j:=(j:Int)) (by omega);exact absurd (h4.trans h8) SL.irrefl
      ·have h8:=SL.app (hI n p (by omega) hE2.lt) (i:Int) (j:Int);exact absurd (h4.trans h8) SL.irrefl
   have htn:t=next:=by omega
   subst htn;have hed:a0d O t e=some (t+1):=by
    unfold a0d;rw[if_neg (by omega),if_pos ⟨ht,o3,o4⟩]
   rw[hed];refine c5b hok W hL hC hI n es (i+1) (t+1) he2 ⟨by omega,by omega,fun u h1 h2=>?_,fun p j u h hE2=>?_⟩
   ·by_cases hu:u=t
    ·subst hu;exact⟨n,i,.inr ⟨rfl,by omega⟩,hE⟩
    ·obtain⟨p,j,h,hE2⟩:=hb.a u h1 (by omega);exact⟨p,j,by omega,hE2⟩
   ·by_cases hpi:p=n/\j=i
    ·obtain⟨rfl,rfl⟩:=hpi;have:=hE.fun hE2;omega
    ·have:=hb.b p j u (by omega) hE2;omega
  ·have hed:a0d O next e=some next:=by
    unfold a0d;rw[if_pos ⟨o1,o2⟩]
   rw[hed];refine c5b hok W hL hC hI n es (i+1) next he2 ⟨hb.lo,hb.hi,fun u h1 h2=>?_,fun p j u h hE2=>?_⟩
   ·obtain⟨p,j,h,hE2⟩:=hb.a u h1 h2;exact⟨p,j,by omega,hE2⟩
   ·by_cases hpi:p=n/\j=i
    ·obtain⟨rfl,rfl⟩:=hpi;obtain⟨f,hf,hf2⟩:=hE2;rw[hei] at hf;cases hf;omega
    ·exact hb.b p j u (by omega) hE2
theorem d4b {I:Int} (hlen:∀ r∈T,(r.length:Int)=I) (hok:∀ r∈T,∀ e∈r,okE T.length O e=true) (W:Wq)
  (hL:∀ p j t,EdT T p j t->t<T.length/\1<=t/\W.getD t []=W.getD p []++[(j:Int)]) (hC:∀ t,1<=t->t<T.length->∃ p j,EdT T p j t)
  (hI:∀ a b,a<b->b<T.length->SL (W.getD a []) (W.getD b [])) :
  ∀ (rows:Tq) (n next:Nat),rows=T.drop n->n<=T.length->BH T next n 0->goT I O rows n next=some T.length
 | [],n,next,he,hn,hb=>by
  have hle:T.length<=n:=g3d.1 he.symm;unfold goT;by_cases h:next=T.length
  ·rw[h]
  ·obtain⟨p,j,hE⟩:=hC next hb.lo (by have:=hb.hi;omega);have:=hb.b p j next (.inl (by have:=hE.lt;omega)) hE;omega
 | row :: rows,n,next,he,hn,hb=>by
  have hi:n<T.length:=by
   by_cases hh:n<T.length
   ·exact hh
   ·rw[g3d.2 (by omega)] at he;cases he
  rw[Ef hi] at he;injection he with he1 he2;have hrow:T.getD n []=row:=by rw[he1,Dx,Dv hi];rfl
  have hlt:n<next:=by
   by_cases h0:n=0
   ·have:=hb.lo;omega
   ·obtain⟨p,j,hE⟩:=hC n (by omega) hi;have h3:=(hL p j n hE).2.2;have hpn:p<n:=by
     by_cases h:p<n
     ·exact h
     ·have hl:(W.getD n []).length<=(W.getD p []).length:=by
       by_cases e:n=p
       ·rw[e];exact Dp _
       ·exact(hI n p (by omega) hE.lt).le
      rw[h3,Dr,show [(j:Int)].length=1 from rfl] at hl;omega
    exact hb.b p j n (.inl hpn) hE
  obtain⟨nx,h1,h2⟩:=c5b hok W hL hC hI n row 0 next (by rw[hrow];rfl) hb;unfold goT;rw[if_pos ⟨hlen _ (he1 ▸ Dt hi),hlt⟩,h1];show goT I O rows (n+1) nx=_;refine d4b hlen hok W hL hC hI rows (n+1) nx he2 (by omega) ⟨h2.lo,h2.hi,fun t a1 a2=>?_,fun p j t h hE=>?_⟩
  ·obtain⟨p,j,h,hE⟩:=h2.a t a1 a2;exact⟨p,j,by omega,hE⟩
  ·refine h2.b p j t ?_ hE;by_cases hp:p=n
   ·subst hp;obtain⟨e,he,-⟩:=hE;exact .inr ⟨rfl,(Ea.1 he).1⟩
   ·omega
end Go.Ai
end
section
namespace Go.Ai
variable {O I:Int} {T:Tq}
def a2y (len:Nat) (ws:Wq) : Wq:=ws++List.replicate (len-ws.length) []
def a4t (len k:Nat) : List Bool:=List.replicate k true++List.replicate (len-k) false
def stW (len:Nat) (ws:Wq) : WSt:=⟨a2y len ws,a4t len ws.length,ws.length⟩
theorem b9p (len:Nat) (ws:Wq) (m:Nat) : (a2y len ws).getD m []=ws.getD m []:=by
 grind[a2y]
theorem c5c (len k m:Nat) : (a4t len k).getD m false=decide (m<k):=by
 unfold a4t;grind
theorem f6a (len:Nat) (ws:Wq) (w:Wd) (h:ws.length<len) : (a2y len ws).set ws.length w=a2y len (ws++[w]):=by
 unfold a2y;rw[g4p _ _ (Dp _),g2o,show len-ws.length=(len-(ws++[w]).length)+1 by grind,g5a,g5v];simp
theorem f6b (len k:Nat) (h:k<len) : (a4t len k).set k true=a4t len (k+1):=by
 unfold a4t;rw[g4p _ _ (by simp),g4c,g2o,show len-k=(len-(k+1))+1 by omega,g5a,g5v,List.replicate_succ'];simp
theorem b6k : ∀ {es:List (Int×Int)} {next nx:Nat},goE O es next=some nx->next<=nx
 | [],_,_,h=>by simp_all[goE]
 | e :: es,next,nx,h=>by
  unfold goE at h
  cases he:a0d O next e with
  | none=>grind
  | some k =>
   rw[he] at h;have h1:=b6k (es:=es) h
   (simp_all[a0d];grind)
theorem b6l : ∀ {rows:Tq} {n next k:Nat},goT I O rows n next=some k->next<=k
 | [],_,_,_,h=>by simp_all[goT]
 | r :: rows,n,next,k,h=>by
  unfold goT at h;split at h
  ·cases he:goE O r next with
   | none=>grind
   | some j =>
    rw[he] at h;have h1:=b6l (rows:=rows) h;have h2:=b6k he;omega
  grind
theorem c5d {len:Nat} : ∀ {es:List (Int×Int)} {next nx:Nat},goE O es next=some nx->1<=next->nx<=len->∀ e∈es,okE len O e=true
 | [],_,_,_,_,_=>fun e he=>by grind
 | e :: es,next,nx,h,h1,h2=>by
  unfold goE at h
  cases he:a0d O next e with
  | none=>grind
  | some k =>
   rw[he] at h;have h3:=b6k (es:=es) h;unfold a0d at he;intro f hf;split at he
   ·rename_i hc;cases he;rcases Dz.1 hf with rfl|hf
    ·simp_all[okE]
    ·exact c5d (es:=es) h h1 h2 f hf
   ·split at he
    ·rename_i hc;cases he;rcases Dz.1 hf with rfl|hf
     ·unfold okE;grind
     ·exact c5d (es:=es) h (by omega) h2 f hf
    grind
theorem b3t {len:Nat} : ∀ {rows:Tq} {n next k:Nat},goT I O rows n next=some k->1<=next->k<=len->∀ r∈rows,(r.length:Int)=I/\∀ e∈r,okE len O e=true
 | [],_,_,_,_,_,_=>fun r hr=>by grind
 | row :: rows,n,next,k,h,h1,h2=>by
  unfold goT at h;split at h
  ·rename_i hc
   cases he:goE O row next with
   | none=>grind
   | some j =>
    rw[he] at h;have h3:=b6l (rows:=rows) h;have h4:=b6k he;intro r hr;rcases Dz.1 hr with rfl|hr
    ·exact⟨hc.1,c5d he h1 (by omega)⟩
    ·exact b3t (rows:=rows) h (by omega) h2 r hr
  grind
def Srt (ws:Wq) : Prop:=∀ a b,a<b->b<ws.length->SL (ws.getD a []) (ws.getD b [])
def Fro (ws:Wq) (n i:Nat) : Prop:=∀ m,m<ws.length->SL (ws.getD m []) (ws.getD n []++[(i:Int)])
theorem b1x {α:Type} (l k:List α) (d:α) {m:Nat} (h:m<l.length) : (l++k).getD m d=l.getD m d:=by
 grind
theorem d4c {α:Type} (l:List α) (x d:α) : (l++[x]).getD l.length d=x:=by
 grind
theorem c5e {len:Nat} (r n:Nat) : ∀ (es:List (Int×Int)) (i:Nat) (ws:Wq) (nx:Nat),goE O es ws.length=some nx->nx<=len->1<=ws.length->n<ws.length->(ws.getD n []).length=r->Srt ws->Fro ws n i ->
  ∃ ext,wI r n es i (stW len ws)=some (stW len (ws++ext))/\(ws++ext).length=nx/\(∀ w∈ext,w.length=r+1)/\Srt (ws++ext)/\Fro (ws++ext) n (i+es.length)
 | [],i,ws,nx,h,_,_,_,_,hs,hf=>by
  unfold goE at h;cases h;exact⟨[],by rw[Ej];rfl,by simp,fun w hw=>(by grind),by grind,by grind⟩
 | e :: es,i,ws,nx,h,hnx,hw1,hn,hr,hs,hf=>by
  unfold goE at h;have hf' : Fro ws n (i+1):=fun m hm=>(hf m hm).trans (SL.last _ (by omega))
  cases he:a0d O ws.length e with
  | none=>grind
  | some k =>
   rw[he] at h;have h3:=b6k (es:=es) h;have hcond:(stW len ws).seen.getD n false=true/\((stW len ws).out.getD n []).length=r:=⟨by show (a4t len ws.length).getD n false=true;grind[c5c],by show ((a2y len ws).getD n []).length=r;grind[b9p]⟩;unfold a0d at he;unfold wI;rw[if_pos hcond];split at he
   ·rename_i hc;cases he;rw[if_pos hc.1];obtain⟨ext,a1,a2,a3,a4,a5⟩:=c5e r n es (i+1) ws nx h hnx hw1 hn hr hs hf';grind
   ·split at he
    ·rename_i hc;cases he;have hto:e.1.toNat=ws.length:=by omega
     have hlt:ws.length<len:=by omega
     have hst:(⟨(stW len ws).out.set e.1.toNat ((stW len ws).out.getD n []++[(i:Int)]),(stW len ws).seen.set e.1.toNat true,(stW len ws).many+1⟩ : WSt)=stW len (ws++[ws.getD n []++[(i:Int)]]):=by
      show (⟨(a2y len ws).set e.1.toNat ((a2y len ws).getD n []++[(i:Int)]),(a4t len ws.length).set e.1.toNat true,ws.length+1⟩ : WSt)=⟨a2y len (ws++[ws.getD n []++[(i:Int)]]),a4t len (ws++[ws.getD n []++[(i:Int)]]).length,(ws++[ws.getD n []++[(i:Int)]]).length⟩;grind[f6b,f6a,b9p]
     rw[if_neg (by omega),if_neg (by rw[hto];show ¬(a4t len ws.length).getD ws.length false=true;grind[c5c]),hst];have hlen1:(ws++[ws.getD n []++[(i:Int)]]).length=ws.length+1:=by simp
     have hgn:(ws++[ws.getD n []++[(i:Int)]]).getD n []=ws.getD n []:=b1x _ _ _ hn;have hs1:Srt (ws++[ws.getD n []++[(i:Int)]]):=fun a b hab hb=>by
      rw[hlen1] at hb;by_cases hbl:b<ws.length
      ·rw[b1x _ _ _ hbl,b1x _ _ _ (by omega)];exact hs a b hab hbl
      ·have:b=ws.length:=by omega
       subst this;rw[d4c,b1x _ _ _ hab];exact hf a hab
     have hf1:Fro (ws++[ws.getD n []++[(i:Int)]]) n (i+1):=fun m hm=>by
      rw[hlen1] at hm;rw[hgn];by_cases hbl:m<ws.length
      ·rw[b1x _ _ _ hbl];exact hf' m hbl
      grind[SL.last]
     obtain⟨ext,a1,a2,a3,a4,a5⟩:=c5e r n es (i+1) (ws++[ws.getD n []++[(i:Int)]]) nx (by rw[hlen1];exact h) hnx (by omega) (by omega) (by grind) hs1 hf1;grind
    grind
theorem c5f (r:Nat) : ∀ (l1 l2:Tq) (n:Nat) (st:WSt),wN r (l1++l2) n st=match wN r l1 n st with
  | none=>none
  | some s=>wN r l2 (n+l1.length) s
 | [],l2,n,st=>rfl
 | row :: l1,l2,n,st=>by
  show (match wI r n row 0 st with|none=>none|some s=>wN r (l1++l2) (n+1) s)=match (match wI r n row 0 st with|none=>none|some s=>wN r l1 (n+1) s) with|none=>none|some s=>wN r l2 (n+(row :: l1).length) s
  cases wI r n row 0 st with
  | none=>rfl
  | some s =>
   show wN r (l1++l2) (n+1) s=match wN r l1 (n+1) s with|none=>none|some s=>wN r l2 (n+(row :: l1).length) s
   rw[c5f r l1 l2 (n+1) s,show n+1+l1.length=n+(row :: l1).length by simp;omega]
theorem c5g (r:Nat) (st:WSt) : ∀ (l:Tq) (n:Nat),(∀ m,n<=m->m<n+l.length->¬(st.seen.getD m false=true/\(st.out.getD m []).length=r))->wN r l n st=some st
 | [],n,_=>rfl
 | row :: l,n,h=>by
  unfold wN;have h0:=h n (Dp _) (by simp);have:wI r n row 0 st=some st:=by
   cases row with
   | nil=>rfl
   | cons e es=>simp_all[wI]
  rw[this];exact c5g r st l (n+1) fun m h1 h2=>h m (by omega) (by simp;omega)
theorem d4d {I O:Int} {T:Tq} (r:Nat) : ∀ (k n:Nat) (ws:Wq),n+k≤T.length→n+k≤ws.length→goT I O (T.drop n) n ws.length=some T.length →
  (∀ m,n≤m→m < n+k→(ws.getD m []).length=r)→Srt ws→(n < ws.length→Fro ws n 0) →
  ∃ ext,wN r ((T.drop n).take k) n (stW T.length ws)=some (stW T.length (ws++ext))∧goT I O (T.drop (n+k)) (n+k) (ws++ext).length=some T.length∧(∀ w∈ext,w.length=r+1)∧Srt (ws++ext)∧(n+k < (ws++ext).length→Fro (ws++ext) (n+k) 0)
 | 0,n,ws,_,_,hg,_,hs,hf=>⟨[],by rw [Ej]; rfl,by grind,fun w hw=>(by grind),by grind,by grind⟩
 | k+1,n,ws,hk,hkw,hg,hr,hs,hf=>by
  have hn:n < T.length:=by omega
  have hnw:n < ws.length:=by omega
  rw [Ef hn] at hg;rw [Ef hn,g3q];unfold goT at hg;split at hg
  ·rename_i hc
   cases he:goE O T[n] ws.length with
   | none=>grind
   | some j =>
    rw [he] at hg;have hj:=b6l (rows:=T.drop (n+1)) hg;obtain ⟨e1,a1,a2,a3,a4,a5⟩:=c5e (len:=T.length) r n T[n] 0 ws j he hj (by omega) hnw (hr n (Dp _) (by omega)) hs (hf hnw);have hf1:n+1 < (ws++e1).length→Fro (ws++e1) (n+1) 0:=fun h m hm=>(a5 m hm).trans ((a4 n (n+1) (by omega) h).app _ _);have h4:goT I O (T.drop (n+1)) (n+1) (ws++e1).length=some T.length:=by grind
    obtain ⟨e2,b1,b2,b3,b4,b5⟩:=d4d (I:=I) (O:=O) (T:=T) r k (n+1) (ws++e1) (by omega) (by grind) h4 (fun m h1 h2=>by grind) a4 hf1;grind [wN]
  grind
theorem d4e {I O:Int} {T:Tq} {n:Nat} (h:goT I O (T.drop n) n n=some T.length) : n=T.length:=by
 by_cases hn:n<T.length
 ·rw[List.drop_eq_getElem_cons hn] at h
  simp_all[goT]
 grind[goT,List.drop_eq_nil_iff]
theorem d4f {I O:Int} {T:List (List (Int×Int))} : ∀ (k r lo:Nat) (ws:List (List Int)),k+r=T.length->r<=lo->lo<=ws.length->lo<=T.length->goT I O (T.drop lo) lo ws.length=some T.length ->
  (∀ m,m<lo->(ws.getD m []).length<r)->(∀ m,lo<=m->m<ws.length->(ws.getD m []).length=r)->Srt ws->(lo<ws.length->Fro ws lo 0) ->
  ∃ W,wR T k r (stW T.length ws)=some (stW T.length W)/\W.length=T.length/\Srt W
 | 0,r,lo,ws,hk,hrl,hlw,hlT,hg,_,_,hs,_=>by
  rw[List.drop_eq_nil_iff.2 (by omega)] at hg;unfold goT at hg;exact⟨ws,rfl,by grind,hs⟩
 | k+1,r,lo,ws,hk,hrl,hlw,hlT,hg,hlo,hmid,hs,hf=>by
  have hwT:=b6l hg;obtain⟨ext,b1,b2,b3,b4,b5⟩:=d4d (T:=T) r (ws.length-lo) lo ws (by omega) (by omega) hg (fun m h1 h2=>hmid m h1 (by omega)) hs hf;rw[show lo+(ws.length-lo)=ws.length by omega] at b2 b5;have hT:T=T.take lo++((T.drop lo).take (ws.length-lo)++T.drop ws.length):=by
   have h1:T.drop ws.length=(T.drop lo).drop (ws.length-lo):=by simp_all
   grind[List.take_append_drop]
  have hrun:wN r T 0 (stW T.length ws)=some (stW T.length (ws++ext)):=by
   have e1:wN r (T.take lo) 0 (stW T.length ws)=some (stW T.length ws):=c5g r _ _ _ fun m _ h2=>by
    rw[List.length_take] at h2;rintro⟨-,h3⟩;have h4:((a2y T.length ws).getD m []).length=r:=h3;grind[b9p]
   have e2:wN r (T.drop ws.length) ws.length (stW T.length (ws++ext))=some (stW T.length (ws++ext)):=c5g r _ _ _ fun m h1 h2=>by
    rintro⟨h3,h4⟩;have h5:(a4t T.length (ws++ext).length).getD m false=true:=h3;have h6:((a2y T.length (ws++ext)).getD m []).length=r:=h4;rw[c5c] at h5;rw[b9p] at h6;grind
   have hl1:0+(T.take lo).length=lo:=by grind
   have hl2:lo+((T.drop lo).take (ws.length-lo)).length=ws.length:=by grind
   grind[c5f]
  unfold wR;rw[hrun];show ∃ W,(if (ws++ext).length=ws.length then some (stW T.length (ws++ext)) else wR T k (r+1) (stW T.length (ws++ext)))=some (stW T.length W)/\W.length=T.length/\Srt W;by_cases he:(ws++ext).length=ws.length
  ·rw[if_pos he];rw[he] at b2;exact⟨ws++ext,rfl,by grind[d4e],b4⟩
  ·rw[if_neg he];have hlt:lo<ws.length:=by
    by_cases h:lo<ws.length
    ·exact h
    ·have e:ws.length=lo:=by omega
     have h2:ws.length=T.length:=by
      grind[d4e]
     have h3:=b6l b2;grind
   refine d4f k (r+1) ws.length (ws++ext) (by omega) (by omega) (by grind) hwT b2 (fun m hm=>?_) (fun m h1 h2=>?_) b4 b5
   all_goals grind
theorem f6c (I O:Int) (T:Tq) : a1q I O T=c4y I O T:=by
 unfold a1q c4y;split
 ·rfl
 split
 ·rfl
 rename_i hN1 hN2;have h1:1<=T.length:=by omega
 congr 1;refine propext ⟨fun h=>?_,fun h=>?_⟩
 ·have hok:=b3t (len:=T.length) h (Dp _) (Dp _);obtain⟨W,a1,a2,a3⟩:=d4f (I:=I) (O:=O) (T:=T) T.length 0 0 [[]] rfl (Dp _) (by simp) (by omega) h (fun m hm=>by omega) (fun m _ hm=>by
   grind) (fun a b hab hb=>by grind) (fun _ m hm=>by
   grind[SL.nil])
  have hst:stW T.length [[]]=Di T.length:=by
   unfold stW Di a2y a4t;obtain⟨m,hm⟩ : ∃ m,T.length=m+1:=⟨T.length-1,by omega⟩;grind
  rw[hst] at a1;have hW:Ax T=W:=by
   unfold Ax;rw[a1];show (if W.length<T.length then [] else a2y T.length W)=W;simp_all[a2y]
  rw[hW,a2,decide_eq_true rfl,g4o,Ds];refine⟨Eb.2 fun r hr=>?_,f5r fun n hn=>a3 n (n+1) (by omega) hn⟩;grind
 ·rw[Ds,Ds] at h;obtain⟨⟨h2,h3⟩,h4⟩:=h;have h3' : (Ax T).length=T.length:=of_decide_eq_true h3;have hlen:∀ r∈T,(r.length:Int)=I:=fun r hr=>by
   grind
  have hok:∀ r∈T,∀ e∈r,okE T.length O e=true:=fun r hr e he=>by
   grind
  obtain⟨hL,hC⟩:=d4a hok h1 h3';refine d4b hlen hok (Ax T) hL hC (fun a b hab hb=>d3v h4 a b hab (by omega)) T 0 1 rfl (by omega) ⟨Dp _,h1,fun t a b=>by omega,fun p j t h _=>by omega⟩
end Go.Ai
end
section
namespace Go.Ai
section
variable {P:Program} {H:Mem} {ev:Ev} {d:Option Tmp} {ty:TypeId} {p:String} {af:Array Edge} {g:Option (Nat×Bool)}
variable {i:Int} {n c sz:Nat} {k:IntKind} {t:TypeId}
theorem d4g (h0:0<=i) (h1:i.toNat<=n) (h2:n<=c) : a0f (some (.lit (.int k i))) none none n c=some (i.toNat,n,c):=by
 simp_all[a5y,a0f,a6s,g2x,b2t]
theorem f6d {t:TypeId} {x lo:Operand} {a off n c sz:Nat} {k:IntKind} {i:Int} {hx:ev x=some (.slq a off n c)} {hh:ev lo=some (.lit (.int k i))} (he:Ca P t=some (none,sz)) (h0:0<=i) (h1:i.toNat<n) :
  ex2 P H ev ⟨d,.slice t x (some lo) none none,ty,p,af,g⟩ x lo (some (.slq a off n c)) (some (.lit (.int k i))) hx hh=.val (.slq a (off+i.toNat*sz) (n-i.toNat) (c+i.toNat)) H:=by
 show opV P H ev _=_;rw[b8w hx rfl];obtain⟨e,i',h3,h4,h5⟩:=a6u he;unfold a3g a1w;dsimp only;rw[hh];dsimp only;rw[a9r h3 h4];unfold a6a;dsimp only;rw[d4g h0 (by omega) (Nat.le_refl n)];grind[b7i,Nat.ble_eq_true_of_le,Nat.blt,ofOpt,a0y]
theorem f6e {t:TypeId} {x lo:Operand} {a off n c sz:Nat} {k:IntKind} {i:Int} {hx:ev x=some (.sl a off n c)} {hh:ev lo=some (.lit (.int k i))} (he:Ca P t=some (none,sz)) (h0:0<=i) (h1:i.toNat<n) (h2:n<=c) :
  ex2 P H ev ⟨d,.slice t x (some lo) none none,ty,p,af,g⟩ x lo (some (.sl a off n c)) (some (.lit (.int k i))) hx hh=.val (.sl a (off+i.toNat*sz) (n-i.toNat) (c-i.toNat)) H:=by
 show opV P H ev _=_;rw[b8w hx rfl];obtain⟨e,i',h3,h4,h5⟩:=a6u he;unfold a3g a1w;dsimp only;rw[hh];dsimp only;rw[a9r h3 h4];grind[a6a,d4g,a5z,Nat.eq_of_beq_eq_true,ofOpt,a0y]
end
theorem Ag.lo {P:Program} {g:Gb} {b len sz:Nat} {sv:AV} {cs:List AV} {t:TypeId} (he:Ca P t=some (none,sz)) (h:Ag g b sv len cs) (hc:Bf sv) {k:Nat} (hk:k<len) (hcs:cs.length=len*sz) :
  ∃ sv',Ag g b sv' (len-k) (cs.drop (k*sz))/\∀ {H:Mem} {ev:Ev} {d:Option Tmp} {ty:TypeId} {p:String} {af:Array Edge} {gd:Option (Nat×Bool)} {x lo:Operand} {hx:ev x=some sv} {hl:ev lo=some (.li (k:Int))},
   ex2 P H ev ⟨d,.slice t x (some lo) none none,ty,p,af,gd⟩ x lo (some sv) (some (.li (k:Int))) hx hl=.val sv' H:=by
 obtain⟨a2,o2,c,l,own,z,ha2,hv,hg,hle,hcut⟩:=h.lenOf' (by omega)
 have hkz:k*sz<=cs.length:=by rw[hcs];exact Nat.mul_le_mul_right _ (by omega)
 have hrow:Row g a2 (o2+k*sz) (cs.drop (k*sz)):=by
  refine⟨l,own,z,hg,by grind,?_⟩
  grind[List.drop_drop,List.drop_take]
 rcases hv with rfl|rfl
 ·have hnc:len<=c:=hc a2 o2 len c rfl
  refine⟨.sl a2 (o2+k*sz) (len-k) (c-k),.inr ⟨a2,o2+k*sz,ha2,.inl ⟨_,rfl⟩,hrow⟩,?_⟩
  simp_all[f6e]
 ·refine⟨.slq a2 (o2+k*sz) (len-k) (c+k),.inr ⟨a2,o2+k*sz,ha2,.inr ⟨_,rfl⟩,hrow⟩,?_⟩
  simp_all[f6d]
end Go.Ai
end
section
namespace Go.Ai
section
variable {P:Program} {H:Mem} {ev:Ev} {d:Option Tmp} {ty:TypeId} {p:String} {af:Array Edge} {g:Option (Nat×Bool)}
theorem Ag.apq0 {g:Gb} {b:Nat} {sv:AV} {cs:List AV} (h:Ag g b sv 0 cs) :
  ∀ {H:Mem} {ev:Ev} {d:Option Tmp} {ty:TypeId} {p:String} {af:Array Edge} {gd:Option (Nat×Bool)} {x y:Operand} {s t:TypeId} {a off k c:Nat} {hx:ev x=some (.slq a off k c)} {hy:ev y=some sv},(apI P s t).isSome=true ->
   ex2 P H ev ⟨d,.call ⟨.builtin .append,#[x,y],#[s,t]⟩,ty,p,af,gd⟩ x y (some (.slq a off k c)) (some sv) hx hy=.val (.slq a off k c) H:=by
 intro H ev d ty p af gd x y s t a off k c hx hy hp;have hn:lenOf sv=some 0:=by
  rcases h with⟨_,_,rfl|rfl⟩|⟨a,off,_,⟨c,rfl⟩|⟨c,rfl⟩,_⟩<;>rfl
 cases hq:apI P s t with
 | none=>grind
 | some q =>
  obtain⟨q1,q2⟩:=q;show opV P H ev _=_;rw[a3m hx hy hq];unfold a2c;rw[hn];rfl
end
end Go.Ai
end
section
namespace Go.Ai
theorem LX.cut {G n:Nat} {P:Program} {b:Code} {fr:Fr} {H:Mem} {K Q:Out->Prop} (h:LX G P n b fr H K) (hk:∀ o,K o->Q o) : LX G P n b fr H Q:=by
 intro B n0 ρ0 w0 ρ a w s b' k cs;obtain⟨e,a',w',⟨out,h1,h2⟩,h3⟩:=h B n0 ρ0 w0 ρ a w s b' k cs;exact⟨e,a',w',⟨out,hk _ h1,h2⟩,h3⟩
def a8h (id:Nat) (K:(Nat->Option AV)->(Gb)->Nat->Prop) : Out->Prop:=fun o=>∃ gf g n,o=.exit id (.f gf []) ⟨.fn g,n⟩/\K gf g n
theorem f6f {id:Nat} {K:(Nat->Option AV)->(Gb)->Nat->Prop} {gf:Nat->Option AV} {g:Gb} {n:Nat} : a8h id K (.exit id (.f gf []) ⟨.fn g,n⟩)=K gf g n:=by
 apply propext;constructor
 ·rintro⟨gf',g',n',e,h⟩;grind
 ·exact fun h=>⟨_,_,_,rfl,h⟩
theorem f6g {tk:Nat} (_h0:tick=tk) {id:Nat} {K:(Nat->Option AV)->(Gb)->Nat->Prop} {o o' : Out} (h:o=o') : a8h id K o=a8h id K o':=by rw[h]
attribute [congr] f6g
attribute [simp] f6f
end Go.Ai
end
section
namespace Go.Ai
open Go.RowKit (Below)
variable {B G:Nat} {P:Program} {ρ:Rn} {H:Mem} {w:World}
variable {O:CallF} {p:Nat→Bool} {n a:Nat}
structure Cut where
 f:Nat
 n:Nat
 args:List AV
 base:List (Nat×List AV)
 v:AV
 news:List (Nat×Blk)
 n1:Nat
mutual
def inV (p:Nat->Bool) : AV->Bool
 | .lit _=>true
 | .es=>true
 | .ptr a _=>p a
 | .sl a _ _ _=>p a
 | .slq a _ _ _=>p a
 | .map a=>p a
 | .func _ x y=>inL p x && inL p y
 | .iface _ v=>inV p v
 | .agg l=>inL p l
 | .tup l=>inL p l
def inL (p:Nat->Bool) : List AV->Bool
 | []=>true
 | v :: l=>inV p v && inL p l
end
def only (p:Nat->Bool) (ρ:Rn) : Rn:=fun a=>if p a=true then ρ a else none
theorem a9v {ρ:Rn} (h:p a=true) : only p ρ a=ρ a:=if_pos h
mutual
theorem b6m {p:Nat->Bool} {ρ:Rn} : ∀ {v:AV} {u:Value},inV p v=true->VR ρ v u->VR (only p ρ) v u
 | .lit _,_,_,r=>r
 | .es,_,_,r=>r
 | .ptr a _,_,hb,⟨b,o,k,e,r⟩=>⟨b,o,k,(a9v (by simpa[inV] using hb)).trans e,r⟩
 | .sl a _ _ _,_,hb,⟨b,o,k,e,r⟩=>⟨b,o,k,(a9v (by simpa[inV] using hb)).trans e,r⟩
 | .slq a _ _ _,_,hb,⟨b,o,k,e,r⟩=>⟨b,o,k,(a9v (by simpa[inV] using hb)).trans e,r⟩
 | .map a,_,hb,⟨b,o,k,e,r⟩=>⟨b,o,k,(a9v (by simpa[inV] using hb)).trans e,r⟩
 | .func _ _ _,_,hb,⟨f',c',e,r,q⟩=>by
  simp only[inV,Ds] at hb;exact⟨f',c',e,in_VRs hb.1 r,in_VRs hb.2 q⟩
 | .iface _ _,_,hb,⟨u',e,r⟩=>⟨u',e,b6m (by simpa[inV] using hb) r⟩
 | .agg _,_,hb,⟨cs,e,r⟩=>⟨cs,e,in_VRs (by simpa[inV] using hb) r⟩
 | .tup _,_,hb,⟨cs,e,r⟩=>⟨cs,e,in_VRs (by simpa[inV] using hb) r⟩
theorem in_VRs {p:Nat->Bool} {ρ:Rn} : ∀ {l:List AV} {us:List Value},inL p l=true->VRs ρ l us->VRs (only p ρ) l us
 | [],_,_,r=>r
 | _ :: _,_,hb,⟨u,us',e,r,q⟩=>by
  simp only[inL,Ds] at hb;exact⟨u,us',e,b6m hb.1 r,in_VRs hb.2 q⟩
end
theorem c5h : ∀ {l:List AV} {i:Nat} {v:AV},inL p l=true->l[i]?=some v->inV p v=true
 | [],i,v,_,h=>by grind
 | y :: l,0,v,hb,h=>by simp_all[inL]
 | y :: l,i+1,v,hb,h=>by simp only[inL,Ds] at hb;exact c5h hb.2 (by simpa using h)
noncomputable def baseT:List (Nat×List AV)->T4 Blk->T4 Blk
 | [],t=>t
 | (a,l) :: r,t=>b4k t a (.v a (.cells l false 0)) (baseT r)
noncomputable def b1y (c:Cut) : Mem:=⟨.tr (baseT c.base e4),c.n⟩
noncomputable def b6n (H:Mem) : List (Nat×List AV)->Bool
 | []=>true
 | (a,l) :: r=>match H.get a with
  | some (.cells l' _ _)=>match eqAVs l' l with|true=>b6n H r|false=>false
  | _=>false
noncomputable def b3u (n1:Nat) : List (Nat×Blk)->Mem->Mem
 | [],H=>⟨H.t,n1⟩
 | (a,b) :: r,H=>H.setK a b (b3u n1 r)
noncomputable def a9w (H:Mem) (n:Nat) (p:Nat->Bool) : List (Nat×Blk)->Bool
 | []=>true
 | (a,.cells l true z) :: r=>match H.get a with
  | some b=>eqBlk b (.cells l true z) && (Nat.ble n a && (inL p l && a9w H n p r))
  | none=>false
 | _=>false
def a1r (n:Nat) (l:List (Nat×Blk)) (a:Nat) : Bool:=match Nat.blt a n with|true=>true|false=>a3n a (l.map (·.1))
noncomputable def b9q (c:Cut) (r:Az) : Bool:=match r with
 | .ret v H=>eqAV v c.v && (Nat.beq H.next c.n1 && (inV (a1r c.n c.news) c.v && a9w H c.n (a1r c.n c.news) c.news))
 | _=>false
noncomputable def a8i (c:Cut) (args:List AV) (H:Mem) : Az:=match eqAVs args c.args,b6n H c.base with
 | true,true=>.ret c.v (b3u c.n1 c.news H)
 | _,_=>.bad
noncomputable def b6o (O:CallF) (l:List Cut) : CallF :=
 List.rec (motive:=fun _=>CallF) O (fun c _ ih f a H=>match Nat.beq f c.f with
  | true=>match Nat.beq H.next c.n with
   | true=>a8i c a H
   | false=>ih f a H
  | false=>ih f a H) l
theorem baseT_get:∀ {l:List (Nat×List AV)} {t:T4 Blk} {a:Nat} {x:Blk},a1u (baseT l t) a=some x->(∃ cs,(a,cs)∈l/\x=.cells cs false 0)\/a1u t a=some x
 | [],t,a,x,h=>.inr h
 | (b,cs) :: r,t,a,x,h=>by
  unfold baseT at h;rw[b7q] at h;rcases baseT_get h with⟨cs',hm,hx⟩|h
  ·grind
  ·rcases c1x _ _ _ _ _ h with⟨rfl,rfl⟩|⟨_,h⟩
   all_goals grind
theorem covers_spec:∀ {l:List (Nat×List AV)},b6n H l=true->∀ a cs,(a,cs)∈l->∃ own z,H.get a=some (.cells cs own z)
 | (b,cs') :: r,h,a,cs,hm=>by
  unfold b6n at h;split at h
  ·rename_i l' own z hg;split at h
   ·rename_i he;have he':=eqAVs_sound _ _ he;subst he';rcases Dz.1 hm with e|hm
    ·cases e;exact⟨own,z,hg⟩
    ·exact covers_spec h a cs hm
   ·cases h
  ·cases h
theorem b3v {n1:Nat} : ∀ {l:List (Nat×Blk)} {H:Mem} {a:Nat} {x:Blk},(b3u n1 l H).get a=some x->(a,x)∈l\/(H.get a=some x/\∀ y,(a,y) ∉ l)
 | [],H,a,x,h=>.inr ⟨h,fun y hy=>by grind⟩
 | (b,y) :: r,H,a,x,h=>by
  unfold b3u at h;rw[Mem.setK_eq] at h;rcases b3v h with h|⟨h,hn⟩
  ·grind
  ·rcases Mem.get_upd h with⟨rfl,rfl⟩|⟨hne,h⟩
   all_goals grind
theorem b9r {n1:Nat} : ∀ {l:List (Nat×Blk)} {H:Mem},(b3u n1 l H).next=n1
 | [],H=>rfl
 | (b,y) :: r,H=>by unfold b3u;rw[Mem.setK_eq];exact b9r
theorem b6p : ∀ {l:List (Nat×Blk)},a9w H n p l=true->∀ a x,(a,x)∈l->H.get a=some x/\n<=a/\∃ cs z,x=.cells cs true z/\inL p cs=true
 | (b,y) :: r,h,a,x,hm=>by
  cases y with
  | cells cs own z =>
   cases own with
   | false=>grind[a9w]
   | true =>
    unfold a9w at h;split at h
    ·rename_i b' hg;simp only[Ds] at h;obtain⟨h1,h2,h3,h4⟩:=h;rcases Dz.1 hm with e|hm
     ·cases e;exact⟨hg.trans (congrArg some (c2n h1)),Dq h2,cs,z,rfl,h3⟩
     ·exact b6p h4 a x hm
    grind
  | map _ _=>grind[a9w]
  | siter _ _=>grind[a9w]
  | typ _ _ _=>grind[a9w]
theorem BR.only {cs:List AV} {own:Bool} {z b o k B': Nat} (h:BR B' ρ (.cells cs own z) b o k w) (hp:inL p cs=true) (hB:B<=B') : BR B (only p ρ) (.cells cs own z) b o k w:=by
 obtain⟨c,e,fz,h1,h2,h3⟩:=h;refine⟨c,e,fz,h1,fun i v hi=>?_,fun ho=>⟨Ec hB (h3 ho).1,(h3 ho).2⟩⟩;grind[c5h,b6m]
theorem f6h {O:CallF} {c:Cut} (hO:∀ B,Be B G P O) (hrun:b9q c (O c.f c.args (b1y c))=true) (args:List AV) (H:Mem) (hnx:H.next=c.n) (h:a8i c args H≠.bad) : WC G P c.f args H fun r=>r=a8i c args H:=by
 unfold a8i at h |-;split at h
 ·rename_i ha hcov;have ha':=eqAVs_sound _ _ ha;subst ha'
  cases hr:O c.f c.args (b1y c) with
  | ret v H1 =>
   rw[hr] at hrun;simp only[b9q,Bool.and_eq_true] at hrun;obtain⟨hv1,hn1,hin,hnews⟩:=hrun;have hv1:=eqAV_sound _ _ hv1;have hn1:=Nat.eq_of_beq_eq_true hn1;intro B ρ us w s hv;have s2:Sim w.heap.size G ρ (b1y c) w:=by
    have hm:∀ a x,(b1y c).get a=some x->∃ cs own z,x=.cells cs false 0/\H.get a=some (.cells cs own z):=by
     intro a x hx;rcases baseT_get (show a1u (baseT c.base e4) a=some x from hx) with⟨cs,hm,rfl⟩|hx
     ·obtain⟨own,z,hg⟩:=covers_spec hcov a cs hm;grind
     grind[b7r]
    refine⟨fun a x hx=>?_,fun a a' x x' b o k o' k' hx _ _ hown=>?_,fun a ha=>s.fresh a (by rw[hnx];exact ha),fun a x hlt hx=>?_,by show G<=c.n;rw[<- hnx];exact s.names,Nat.le_refl _⟩
    ·obtain⟨cs,own,z,rfl,hg⟩:=hm a x hx;rcases s.blk a _ hg with hn|⟨b,o,k,h1,c',e,fz,h2,h3,_⟩
     ·grind
     ·exact .inr ⟨b,o,k,h1,c',e,fz,h2,h3,fun h=>by cases h⟩
    ·obtain⟨cs,own,z,rfl,hg⟩:=hm a x hx;cases hown
    ·obtain⟨cs,own,z,rfl,hg⟩:=hm a x hx;exact s.glob a _ hlt hg
   refine(hO w.heap.size c.f c.args (b1y c) (by grind) ρ us w s2 hv).mono ?_;intro e w' hc;rw[hr] at hc;refine⟨_,rfl,?_⟩
   cases e with
   | returned u =>
    obtain⟨ρ',hext,hsim,hvr,hle⟩:=hc;have hle' : c.n<=H1.next:=hle;have hlow:∀ a,a<c.n->only (a1r c.n c.news) ρ' a=ρ a:=by
     intro a ha;rw[a9v (by grind[a1r,Nat.ble_eq_true_of_le,Nat.blt])];exact hext.same a ha
    have hnew:∀ a x,(a,x)∈c.news->only (a1r c.n c.news) ρ' a=ρ' a:=by
     intro a x hm;refine a9v ?_;unfold a1r;split
     ·rfl
     ·exact b9j (List.mem_map.2 ⟨_,hm,rfl⟩)
    have hpos:∀ a y,only (a1r c.n c.news) ρ' a=some y->a<c.n\/∃ x,(a,x)∈c.news:=by
     intro a y hy;unfold only at hy;split at hy
     ·rename_i hk;unfold a1r at hk;split at hk
      ·simp_all
      ·refine .inr ?_;have key:∀ (l:List (Nat×Blk)),a3n a (l.map (·.1))=true->∃ x,(a,x)∈l:=by
        intro l
        induction l with
        | nil=>intro h;cases h
        | cons q l ih =>
         grind[a3n,Nat.eq_of_beq_eq_true]
       grind
     grind
    have hvr' : VR ρ' c.v u:=by grind
    refine⟨only (a1r c.n c.news) ρ',⟨fun a ha=>hlow a (by grind),hext.keeps,hext.below.mono s.base⟩,?_,b6m hin hvr',by grind[b9r]⟩;have hbl:∀ a x,H.get a=some x->a<c.n->only (a1r c.n c.news) ρ' a=none\/∃ b o k,ρ a=some (b,o,k)/\only (a1r c.n c.news) ρ' a=some (b,o,k)/\b<w.heap.size/\BR B (only (a1r c.n c.news) ρ') x b o k w':=by
     intro a x hx hlt;rcases s.blk a x hx with hn|⟨b,o,k,h1,h2⟩
     ·grind
     ·refine .inr ⟨b,o,k,h1,(hlow a hlt).trans h1,h2.lt,h2.mono (fun a' y hy=>?_) (hext.below.block b h2.lt)⟩;rw[hlow a' (by rw[<- hnx];exact s.lt_next hy)];grind
    have hbn:∀ a x,(a,x)∈c.news->only (a1r c.n c.news) ρ' a=none\/∃ b o k,ρ' a=some (b,o,k)/\only (a1r c.n c.news) ρ' a=some (b,o,k)/\w.heap.size<=b/\BR B (only (a1r c.n c.news) ρ') x b o k w':=by
     intro a x hm;obtain⟨h1,h2,cs,z,rfl,h3⟩:=b6p hnews a x hm;rcases hsim.blk a _ h1 with hn|⟨b,o,k,h4,h5⟩
     ·grind
     ·exact .inr ⟨b,o,k,h4,(hnew a _ hm).trans h4,h5.above rfl,h5.only h3 s.base⟩
    refine⟨fun a x hx=>?_,fun a a' x x' b o k o' k' hx hx' hne hown hr1 hr2=>?_,fun a ha=>?_,fun a x hlt hx=>?_,by rw[b9r,<- hn1];exact Nat.le_trans s.names (by grind),Nat.le_trans s.base hext.below.size⟩
    ·rcases b3v hx with hm|⟨hx,hnot⟩
     ·grind
     ·rcases Nat.lt_or_ge a c.n with hlt|hge
      ·grind
      ·cases hy:only (a1r c.n c.news) ρ' a with
       | none=>grind
       | some y =>
        grind
    ·have old:∀ a x y,H.get a=some x->(∀ y,(a,y) ∉ c.news)->only (a1r c.n c.news) ρ' a=some y->ρ a=some y/\y.1<w.heap.size:=by
      grind
     have new:∀ a x y,(a,x)∈c.news->only (a1r c.n c.news) ρ' a=some y->ρ' a=some y/\w.heap.size<=y.1:=by
      grind
     rcases b3v hx with hm|⟨hx,hn⟩
     ·have h1:=new a x _ hm hr1;rcases b3v hx' with hm'|⟨hx',hn'⟩
      ·have h2:=new a' x' _ hm' hr2;exact hsim.inj a a' x x' b o k o' k' (b6p hnews a x hm).1 (b6p hnews a' x' hm').1 hne hown h1.1 h2.1
      grind
     ·have h1:=old a x _ hx hn hr1;rcases b3v hx' with hm'|⟨hx',hn'⟩
      ·grind
      ·have h2:=old a' x' _ hx' hn' hr2;exact s.inj a a' x x' b o k o' k' hx hx' hne hown h1.1 h2.1
    ·rw[b9r] at ha;unfold only;split
     ·exact hsim.fresh a (by grind)
     ·rfl
    ·rcases b3v hx with hm|⟨hx,hn⟩
     ·have h1:=(b6p hnews a x hm).2.1;have h2:=s.names;omega
     ·rw[hlow a (by have h2:=s.names;omega)];exact s.glob a x hlt hx
   | _=>assumption
  | panic v H1=>rw[hr] at hrun;cases hrun
  | bad=>rw[hr] at hrun;cases hrun
 grind
theorem d4h (hO:∀ B,Be B G P O) : ∀ {l:List Cut},(∀ c∈l,∀ args H,H.next=c.n->a8i c args H≠.bad->WC G P c.f args H fun r=>r=a8i c args H)->∀ B,Be B G P (b6o O l)
 | [],_,B=>hO B
 | c :: l,h,B=>by
  have ih:=d4h hO (l:=l) (fun c' hc'=>h c' (g2p _ hc'));intro f args H hne ρ us w s hv
  have he:b6o O (c :: l) f args H=match Nat.beq f c.f with
   | true=>match Nat.beq H.next c.n with
    | true=>a8i c args H
    | false=>b6o O l f args H
   | false=>b6o O l f args H:=rfl
  rw[he] at hne |-;split at hne
  ·rename_i hf;split at hne
   ·rename_i hn;have hf':=Eh hf;subst hf';refine(h c (g5b ..) args H (Eh hn) hne B ρ us w s hv).mono ?_;grind
   ·exact ih B f args H hne ρ us w s hv
  ·exact ih B f args H hne ρ us w s hv
structure a3o where
 f:Nat
 args:List AV
 base:List (Nat×List AV)
 v:AV
noncomputable def b1z (G n:Nat) (c:a3o) : Mem:=⟨.tr (baseT c.base e4),n⟩
def named (c:a3o) (a:Nat) : Bool:=a3n a (c.base.map (·.1))
def b9s (n:Nat) (p:Nat->Bool) : List (Nat×List AV)->Bool
 | []=>true
 | (a,l) :: r=>Nat.blt a n && (inL p l && b9s n p r)
noncomputable def b9t (G n:Nat) (c:a3o) (r:Az) : Bool:=match r with
 | .ret v _=>eqAV v c.v && (plainV c.v && (inL (named c) c.args && (b9s n (named c) c.base && Nat.ble G n)))
 | _=>false
noncomputable def a9x (c:a3o) (args:List AV) (H:Mem) : Az:=match eqAVs args c.args with
 | true=>match b6n H c.base with
  | true=>.ret c.v H
  | false=>.bad
 | false=>.bad
noncomputable def b6q (O:CallF) (l:List a3o) : CallF :=
 List.rec (motive:=fun _=>CallF) O (fun c _ ih f a H=>match Nat.beq f c.f with
  | true=>orR (a9x c a H) (ih f a H)
  | false=>ih f a H) l
theorem c5i : ∀ {l:List (Nat×List AV)},b9s n p l=true->∀ a cs,(a,cs)∈l->a<n/\inL p cs=true
 | (b,m) :: r,h,a,cs,hm=>by
  simp only[b9s,Ds] at h;rcases Dz.1 hm with e|hm
  ·simp_all
  ·exact c5i h.2.2 a cs hm
theorem d4i : ∀ {l:List Nat},a3n a l=true->a∈l
 | b :: l,h=>by
  unfold a3n at h;split at h
  ·rename_i hb;rw[Eh hb];exact g5b ..
  ·exact g2p _ (d4i h)
theorem f6i {c:a3o} (hO:∀ B,Be B G P O) (hrun:b9t G n c (O c.f c.args (b1z G n c))=true) (args:List AV) (H:Mem) (h:a9x c args H≠.bad) : WC G P c.f args H fun r=>r=a9x c args H:=by
 unfold a9x at h |-;split at h
 ·rename_i ha;split at h
  ·rename_i hcov;have ha':=eqAVs_sound _ _ ha;subst ha'
   cases hr:O c.f c.args (b1z G n c) with
   | ret v H1 =>
    rw[hr] at hrun;simp only[b9t,Ds] at hrun;obtain⟨hv1,hpl,hin,hbase,hG⟩:=hrun;have hv1:=eqAV_sound _ _ hv1;intro B ρ us w s hv;have hm:∀ a x,(b1z G n c).get a=some x->∃ cs own z,x=.cells cs false 0/\H.get a=some (.cells cs own z)/\a<n/\inL (named c) cs=true/\named c a=true:=by
     intro a x hx;rcases baseT_get (show a1u (baseT c.base e4) a=some x from hx) with⟨cs,hm,rfl⟩|hx
     ·obtain⟨own,z,hg⟩:=covers_spec hcov a cs hm;obtain⟨h1,h2⟩:=c5i hbase a cs hm;exact⟨cs,own,z,rfl,hg,h1,h2,b9j (Ei.2 ⟨_,hm,rfl⟩)⟩
     grind[b7r]
    have s2:Sim w.heap.size G (only (named c) ρ) (b1z G n c) w:=by
     refine⟨fun a x hx=>?_,fun a a' x x' b o k o' k' hx _ _ hown=>?_,fun a ha=>?_,fun a x hlt hx=>?_,Dq hG,Dp _⟩
     ·obtain⟨cs,own,z,rfl,hg,h1,h2,h3⟩:=hm a x hx;rw[a9v h3];rcases s.blk a _ hg with hn|⟨b,o,k,h4,c',e,fz,h5,h6,_⟩
      ·grind
      ·refine .inr ⟨b,o,k,h4,c',e,fz,h5,fun i v hi=>?_,fun h=>by cases h⟩;grind[c5h,b6m]
     ·obtain⟨cs,own,z,rfl,hg,_⟩:=hm a x hx;cases hown
     ·unfold only;split
      ·rename_i hk;obtain⟨q,hq,e⟩:=Ei.1 (d4i hk);have:=(c5i hbase q.1 q.2 hq).1;have ha' : n<=a:=ha;omega
      ·rfl
     ·obtain⟨cs,own,z,rfl,hg,h1,h2,h3⟩:=hm a x hx;rw[a9v h3];exact s.glob a _ hlt hg
    refine(hO w.heap.size c.f c.args (b1z G n c) (by grind) _ us w s2 (in_VRs hin hv)).mono ?_;intro e w' hc;rw[hr] at hc;refine⟨_,rfl,?_⟩
    cases e with
    | returned x =>
     obtain⟨ρ',h1,h2,h3,h4⟩:=hc;have hb:=h1.below;rw[hv1] at h3;refine⟨ρ,⟨fun _ _=>rfl,h1.keeps,hb.mono s.base⟩,?_,a6v hpl h3,Dp _⟩;refine s.other hb.size fun a x b o k ha hra=>?_;exact hb.block b (s.at ha hra).lt
    | panicked chain=>assumption
    | outgrown=>assumption
   | panic v H1=>rw[hr] at hrun;cases hrun
   | bad=>rw[hr] at hrun;cases hrun
  grind
 grind
/- Groups. -/
def a1f (G:Nat) (P:Program) (l:List Cut) : Prop:=∀ c∈l,∀ args H,H.next=c.n->a8i c args H≠.bad->WC G P c.f args H fun r=>r=a8i c args H
def a3p (G:Nat) (P:Program) (l:List a3o) : Prop:=∀ c∈l,∀ args H,a9x c args H≠.bad->WC G P c.f args H fun r=>r=a9x c args H
theorem a1f.nil:a1f G P []:=fun c hc=>by cases hc
theorem a3p.nil:a3p G P []:=fun c hc=>by cases hc
theorem a1f.append {l m:List Cut} (h:a1f G P l) (k:a1f G P m) : a1f G P (l++m):=fun c hc=>(Eg.1 hc).elim (h c) (k c)
theorem a3p.append {l m:List a3o} (h:a3p G P l) (k:a3p G P m) : a3p G P (l++m):=fun c hc=>(Eg.1 hc).elim (h c) (k c)
noncomputable def b2a (O:CallF) (l:List Cut) : Bool:=List.rec (motive:=fun _=>Bool) true (fun c _ ih=>b9q c (O c.f c.args (b1y c)) && ih) l
noncomputable def c5j (G n:Nat) (O:CallF) (l:List a3o) : Bool:=List.rec (motive:=fun _=>Bool) true (fun c _ ih=>b9t G n c (O c.f c.args (b1z G n c)) && ih) l
theorem a1f.run (hO:∀ B,Be B G P O) : ∀ {l:List Cut},b2a O l=true->a1f G P l
 | [],_=>.nil
 | c :: l,h=>by
  have h' : (b9q c (O c.f c.args (b1y c)) && b2a O l)=true:=h;rw[Ds] at h';intro c' hc';rcases Dz.1 hc' with rfl|hc'
  ·exact f6h hO h'.1
  ·exact a1f.run hO h'.2 c' hc'
theorem a3p.run (hO:∀ B,Be B G P O) : ∀ {l:List a3o},c5j G n O l=true->a3p G P l
 | [],_=>.nil
 | c :: l,h=>by
  have h' : (b9t G n c (O c.f c.args (b1z G n c)) && c5j G n O l)=true:=h;rw[Ds] at h';intro c' hc';rcases Dz.1 hc' with rfl|hc'
  ·exact f6i hO h'.1
  ·exact a3p.run hO h'.2 c' hc'
theorem d4j (hO:∀ B,Be B G P O) : ∀ {l:List a3o},a3p G P l->∀ B,Be B G P (b6q O l)
 | [],_,B=>hO B
 | c :: l,h,B=>by
  have ih:=d4j hO (l:=l) (fun c' hc'=>h c' (g2p _ hc'));intro f args H hne ρ us w s hv
  have he:b6q O (c :: l) f args H=match Nat.beq f c.f with
   | true=>orR (a9x c args H) (b6q O l f args H)
   | false=>b6q O l f args H:=rfl
  rw[he] at hne |-;split at hne
  ·rename_i hf;have hf':=Eh hf;subst hf'
   cases hs:a9x c args H with
   | bad=>rw[hs] at hne;exact ih B c.f args H hne ρ us w s hv
   | ret v H1 =>
    refine(h c (g5b ..) args H (by grind) B ρ us w s hv).mono ?_;rintro e w' ⟨r,rfl,hc⟩;rw[hs] at hc;exact hc
   | panic v H1 =>
    refine(h c (g5b ..) args H (by grind) B ρ us w s hv).mono ?_;rintro e w' ⟨r,rfl,hc⟩;rw[hs] at hc;exact hc
  ·exact ih B f args H hne ρ us w s hv
noncomputable def a9y (fs:List a3o) (cs:List Cut) : CallF:=b6q (b6o (fun _ _ _=>.bad) cs) fs
theorem b2b {fs:List a3o} {cs:List Cut} (hf:a3p G P fs) (hc:a1f G P cs) : ∀ B,Be B G P (a9y fs cs) :=
 d4j (d4h (fun B f args H hne=>absurd rfl hne) hc) hf
end Go.Ai
end

