/- A small verified interpreter over names, its proofs, and what was proved with it. No condition. -/
import Derived.Test.YtpimmmnkcgnjjaaGreatO14
import Derived.Test.YtpimmmnkcgnjjaaGreatO09
import Derived.Test.YtpimmmnkcgnjjaaGreatO19
import Derived.Test.YtpimmmnkcgnjjaaGreatO07
set_option linter.all false
set_option linter.deprecated false
section
namespace Go.Ai
open Go.Proofs Go.Proofs.Tryz
set_option maxRecDepth 10000
set_option maxHeartbeats 40000000
structure CpK {β:Type} (R:(Gb)->Nat->β->AV->Prop) (g:Gb) (lo n:Nat) (l:List β) (k:Nat) (cs svs:List AV) : Prop where
 len:cs.length=l.length
 new:∀ (j:Nat) (h:j<l.length),j<k->∃ q,cs[j]?=some q/\R (a3n lo g) n l[j] q
 old:∀ j,k<=j->cs[j]?=svs[j]?
theorem CpK.step {β:Type} {R:(Gb)->Nat->β->AV->Prop} (hm:∀ {g g' : Gb} {n n' : Nat} {x:β} {q:AV},R g n x q->n<=n'->(∀ a z,a<n->g a=some z->g' a=some z)->R g' n' x q)
  {g g' : Gb} {lo n n' : Nat} {l:List β} {k:Nat} {cs svs:List AV} (h:CpK R g lo n l k cs svs) (hn:n<=n') (hg:∀ a,lo<=a->a<n->g' a=g a) (hk:k<l.length) {q:AV} (hq:R (a3n lo g') n' l[k] q) : CpK R g' lo n' l (k+1) (cs.set k q) svs:=by
 have hl:=h.len;refine⟨by rw[g4r];exact hl,fun j hj hjk=>?_,fun j hj=>?_⟩
 ·by_cases e:j=k
  ·subst e;exact⟨q,by rw[List.getElem?_set_self (by omega)],hq⟩
  ·obtain⟨q',e1,e2⟩:=h.new j hj (by omega);refine⟨q',by rw[g6e (by omega)];exact e1,hm e2 hn fun a z ha hz=>?_⟩;obtain⟨h1,h2⟩:=b2w hz;rw[a5m h1,hg a h1 ha];exact h2
 ·rw[g6e (by omega)];exact h.old j (by omega)
theorem CpK.keep {β:Type} {R:(Gb)->Nat->β->AV->Prop} (hm:∀ {g g' : Gb} {n n' : Nat} {x:β} {q:AV},R g n x q->n<=n'->(∀ a z,a<n->g a=some z->g' a=some z)->R g' n' x q)
  {g g' : Gb} {lo n n' : Nat} {l:List β} {k:Nat} {cs svs:List AV} (h:CpK R g lo n l k cs svs) (hn:n<=n') (hg:∀ a,lo<=a->a<n->g' a=g a) : CpK R g' lo n' l k cs svs :=
 ⟨h.len,fun j hj hjk=>let ⟨q,e1,e2⟩:=h.new j hj hjk;⟨q,e1,hm e2 hn fun a z ha hz=>by
  obtain⟨h1,h2⟩:=b2w hz;rw[a5m h1,hg a h1 ha];exact h2⟩,h.old⟩
end Go.Ai
end
section
namespace Go.Ai
open Go.Proofs Go.Proofs.Tryz
set_option maxRecDepth 10000
set_option maxHeartbeats 40000000
def a2o (l:Wq) (w:Wd) : Bool:=l.any fun v=>decide (w.length<v.length/\v.take w.length=w)
def b3b (l:Wq) : Wq:=l.filter fun w=>!a2o l w
def b4y (g:Gb) (lo n:Nat) (l:Wq) (lv:AV) : Prop:=∃ svs,Af g n lv l.length svs/\RowsW (a3n lo g) n l svs/\∀ q∈svs,Bm q
theorem a6h.listF {X:Nat->Prop} {g:Gb} {lo n:Nat} {l:Wq} {ov:AV} (h:a6h X g lo n l ov) : b4y g lo n l ov:=by
 rcases h with⟨rfl,rfl⟩|⟨h0,B,cs,rfl,h1,h2,h3,h4,h5,h6,h7⟩
 ·exact⟨[],.inl ⟨rfl,rfl,.inl rfl⟩,⟨rfl,fun k h=>by cases h⟩,fun q h=>by cases h⟩
 ·refine⟨cs,.inr ⟨B,0,h2,.inr ⟨0,rfl⟩,⟨cs,true,1,h4,by simp,by simp⟩⟩,h6.ext (Nat.le_refl _) fun a z _ hz=>?_,h7⟩
  obtain⟨e1,_,e3⟩:=a8z hz
  rw[a5m e1];exact e3
theorem b4y.at {g:Gb} {lo n:Nat} {l:Wq} {lv:AV} (h:b4y g lo n l lv) {k:Nat} (hk:k<l.length) : ∃ a off q,a<n/\(∀ {H:Mem} {ev:Ev} {o:Oper} {t:TypeId},iaS prog H ev o t (some (none,1)) (some lv) (some (.li (k:Int)))=.val (.ptr a (off+k)) H)/\Be (some (false,1)) (g a) (off+k)=some q/\Aj (a3n lo g) n l[k] q/\Bm q:=by
 obtain⟨svs,h1,h2,h3⟩:=h;obtain⟨q,e1,e2⟩:=h2.2 k hk;obtain⟨a,off,ha,hrow,hia⟩:=h1.ia (P:=prog) hk 1;simp only[Ea] at hia;have hkl:k<svs.length:=(Eb.1 e1).1;have hcell:=hrow.one (k:=k) (s:=1) hkl;rw[(Eb.1 e1).2] at hcell;exact⟨a,off,q,ha,hia,hcell,e2,h3 q (En e1)⟩
end Go.Ai
end
section
namespace Go.Ai
open Go.Proofs Go.Proofs.Tryz
set_option maxRecDepth 10000
set_option maxHeartbeats 40000000
variable {l:Wq} {k B n:Nat} {g:Gb}
theorem b8b {α:Type} {P:List α->Prop} (h0:P []) (h1:∀ l x,P l->P (l++[x])) (l:List α) : P l:=by
 rw[<- List.reverse_reverse l]
 induction l.reverse with
 | nil=>exact h0
 | cons x t ih=>rw[List.reverse_cons];exact h1 _ _ ih
def Bp (l:Wq) : Wq:=l.foldl (fun a x=>if a.getLast?=some x then a else a++[x]) []
theorem c7l (l:Wq) (x:Wd) : Bp (l++[x])=if (Bp l).getLast?=some x then Bp l else Bp l++[x]:=by
 unfold Bp;rw[List.foldl_append];rfl
theorem d7q (l:Wq) : (Bp l).getLast?=l.getLast?:=by
 refine b8b (P:=fun l=>(Bp l).getLast?=l.getLast?) ?_ (fun l x ih=>?_) l
 ·rfl
 ·rw[c7l];split
  ·rename_i h;rw[h];simp
  ·simp
theorem g1x (h:k+1<l.length) : Bp (l.take (k+2))=Bp (l.take (k+1))++(if l[k+1]=l[k] then [] else [l[k+1]]):=by
 rw[g4c h,c7l,d7q,g4c (show k<l.length by omega),List.getLast?_append];simp only[List.getLast?_singleton,Option.some_or,Option.some.injEq];by_cases h2:l[k+1]=l[k]
 ·simp[h2]
 ·rw[if_neg (fun e=>h2 e.symm),if_neg h2]
theorem g1y {x:Wd} : x∈Bp l↔x∈l:=by
 refine b8b (P:=fun l=>x∈Bp l↔x∈l) ?_ (fun l y ih=>?_) l
 ·exact Iff.rfl
 ·rw[c7l];split
  ·rename_i h;rw[ih,Ed,Ek];constructor
   ·exact .inl
   ·rintro (h2|rfl)
    ·exact h2
    ·rw[d7q] at h;exact List.mem_of_getLast? h
  ·simp[ih]
theorem mkIclW:clI prog 22=some (.nl):=by kernel_rfl
attribute [simp] mkIclW
theorem elE22:Cd prog 22=some (none,1):=by kernel_rfl
theorem d7r {len:Nat} (hk:k<len) {H:Mem} {ev:Ev} {d:Option Tmp} {ty:TypeId} {p:String} {af:Array Edge} {gd:Option (Nat×Bool)} {x lo:Operand} {hx:ev x=some (.slq B 0 len 0)} {hh:ev lo=some (.li (k:Int))} :
  ex2 prog H ev ⟨d,.slice 22 x (some lo) none none,ty,p,af,gd⟩ x lo (some (.slq B 0 len 0)) (some (.li (k:Int))) hx hh=.val (.slq B k (len-k) k) H:=by
 rw[d3p elE22 (by omega) (by omega)];simp
theorem iaQ {off len d:Nat} (hk:k<len) {H:Mem} {ev:Ev} {o:Oper} {t:TypeId} : iaS prog H ev o t (some (none,1)) (some (.slq B off len d)) (some (.li (k:Int)))=.val (.ptr B (off+k)) H:=by
 rw[c4o (by omega) (by omega)];simp
theorem RowsW.takeD {svs:List AV} (h:RowsW g n l svs) (m:Nat) : RowsW g n (l.take m) (svs.take m):=by
 refine⟨by rw[Du,Du,h.1],fun k hk=>?_⟩;have hk2:k<m/\k<l.length:=by rw[Du] at hk;omega
 obtain⟨sv,h1,h2⟩:=h.2 k hk2.2;exact⟨sv,by rw[g4x,if_pos hk2.1];exact h1,by rw[g4s];exact h2⟩
def b4z (g:Gb) (lo n B:Nat) (l:Wq) (cs:List AV) (r:Ar) : Prop:=∃ g' cs',r=.ret (.slq B 0 (Bp l).length 0) ⟨.fn g',n⟩/\(∀ b,b≠B->g' b=g b)/\g' B=some (.cells cs' true 1)/\(Bp l).length<=cs'.length/\RowsW (a2n g lo B) n (Bp l) (cs'.take (Bp l).length)/\∀ q∈cs'.take (Bp l).length,q∈cs
theorem b4z.mk {g': Gb} {lo:Nat} {cs cs': List AV} (hk:(Bp l).length=k) (h1:∀ b,b≠B->g' b=g b) (h2:g' B=some (.cells cs' true 1)) (h3:k<=cs'.length) (h4:RowsW (a2n g lo B) n (Bp l) (cs'.take k)) (h5:∀ q∈cs'.take k,q∈cs) : b4z g lo n B l cs (.ret (.slq B 0 k 0) ⟨.fn g',n⟩):=by
 subst hk;exact⟨g',cs',rfl,h1,h2,h3,h4,h5⟩
theorem g1z {cs:List AV} {lo:Nat} (hrf:RowsW (a2n g lo B) n l cs) (hgB:g B=some (.cells cs true 1)) (hpos:0<l.length) (hlen:l.length<=100000) (hw:∀ w∈l,w.length<=100000) :
  WC 0 prog 111 [.slq B 0 l.length 0,.lit (.func (.func 112) #[] #[])] ⟨.fn g,n⟩ (b4z g lo n B l cs):=by
 have hcl:=hrf.1;have hit:∀ (k:Nat) (h:k<l.length),Aj (a2n g lo B) n l[k] (cs[k]'(by omega)):=by
  intro k h;obtain⟨sv,e1,e2⟩:=hrf.2 k h;rw[Dy (by omega)] at e1;cases e1;exact e2
 have HRF:=Aa.mk hrf;have HIT:=Aa.mk hit;have HW:=Aa.mk hw;clear hit hrf hw;have hlI:(l.length:Int)<=100000:=by omega
 have HDN:Aa (Bp l=l->b4z g lo n B l cs (.ret (.slq B 0 l.length 0) ⟨.fn g,n⟩)):=⟨fun h=>by
  refine b4z.mk (by rw[h]) (fun _ _=>rfl) hgB (by omega) ?_ fun q hq=>g4d hq;rw[h,Ee (by omega)];exact HRF.out⟩
 have HD1:Aa (Bp (l.take 1)=l.take 1):=⟨by
  cases l with
  | nil=>cases hpos
  | cons w l=>rfl⟩
 have HST:=Aa.mk fun k (h:k+1<l.length)=>g1x h;by_cases h1:l.length<2
 ·have h1I:(l.length:Int)<2:=by omega
  refine ent pl111 func111 rfl (by decide +kernel) (by kernel_rfl) ?_
  iterate 8 all_goals try first|apply spl<;>intro h|simp (disch:=first|assumption|omega|simp) [*]
  refine HDN.out ?_;have:=HD1.out
  rwa [Ee (by omega)] at this
 have h1I:¬(l.length:Int)<2:=by omega
 refine ent pl111 func111 rfl (by decide +kernel) (by kernel_rfl) ?_
 iterate 8 all_goals try first|apply spl<;>intro h|simp (disch:=first|assumption|omega|simp) [*]
 refine LX.ind (fun m gf H'=>∃ (k:Nat),1<=k/\k<=l.length/\m=l.length-k/\H'=⟨.fn g,n⟩/\Aa (Bp (l.take k)=l.take k)/\gf 0=some (.slq B 0 l.length 0)/\gf 1=some (.lit (.func (.func 112) #[] #[]))/\gf 5=some (.li k)) (m0:=l.length-1) ?_ ?_
 ·exact⟨1,Dm _,by omega,rfl,rfl,HD1,by simp[*]⟩
 clear HD1;rintro m gf H' ⟨k,hk1,hk,rfl,rfl,HD,w0,w1,w5⟩ ih;refine rnd pl111 (by decide +kernel) ?_;by_cases hlt:k<l.length
 ·have hltI:(k:Int)<(l.length:Int):=by omega
  obtain⟨j,rfl⟩ : ∃ j,k=j+1:=⟨k-1,by omega⟩;have hltI' : (j:Int)+1<(l.length:Int):=by omega
  have HE:=Aa.mk (d7p (HW.out _ (Ds hlt)) (HW.out _ (Ds (show j<l.length by omega))) g n _ _ (Af.ext (Dm _) (fun a z _ hz=>(a8z hz).2.2) (HIT.out (j+1) hlt)) (Af.ext (Dm _) (fun a z _ hz=>(a8z hz).2.2) (HIT.out j (by omega))));by_cases heq:l[j+1]=l[j]
  ·rw[decide_eq_true heq] at HE;have HD2:Aa (Bp (l.take (j+2))=l.take (j+1)):=⟨by rw[HST.out j hlt,if_pos heq,HD.out];simp⟩;clear HDN HD ih heq;obtain⟨m,hm⟩ : ∃ m,l.length=j+1+(m+1):=⟨l.length-(j+2),by omega⟩;have hct:∀ {H:Mem} {ev:Ev} {d:Option Tmp} {ty:TypeId} {p:String} {af:Array Edge} {gd:Option (Nat×Bool)} {x lo:Operand} {hx:ev x=some (.slq B 0 l.length 0)} {hh:ev lo=some (.li ((j:Int)+1))},
     ex2 prog H ev ⟨d,.slice 22 x (some lo) none none,ty,p,af,gd⟩ x lo (some (.slq B 0 l.length 0)) (some (.li ((j:Int)+1))) hx hh=.val (.slq B (j+1) (m+1) (j+1)) H:=by
    intro H ev d ty p af gd x lo hx hh;have e:=d7r (B:=B) (k:=j+1) (len:=l.length) (by omega) (H:=H) (ev:=ev) (d:=d) (ty:=ty) (p:=p) (af:=af) (gd:=gd) (x:=x) (lo:=lo) (hx:=hx) (hh:=hh);rw[show l.length-(j+1)=m+1 by omega] at e;exact e
   have HM:=Aa.mk hm;clear hm
   iterate 8 all_goals try first|apply spl<;>intro h|simp (disch:=first|assumption|omega|simp) [*]
   refine WC.mono HE.out ?_;rintro _ rfl;clear HE
   iterate 8 all_goals try first|apply spl<;>intro h|simp (disch:=first|assumption|omega|simp) [*]
   clear hct;refine LX.ind (fun mm gf H'=>∃ (i k:Nat) (gX:Gb) (csX:List AV),i<=m/\mm=m-i/\H'=⟨.fn gX,n⟩/\1<=k/\k<=j+i+1/\Aa (∀ b,b≠B->gX b=g b)/\gX B=some (.cells csX true 1)/\csX.length=l.length/\Aa (∀ q,j+i+1<=q->csX[q]?=cs[q]?)/\Aa ((Bp (l.take (j+i+2))).length=k)/\Aa (RowsW (a2n g lo B) n (Bp (l.take (j+i+2))) (csX.take k)/\∀ q∈csX.take k,q∈cs) /\
    gf 0=some (.slq B 0 l.length 0)/\gf 1=some (.lit (.func (.func 112) #[] #[]))/\gf 5=some (.li k)/\gf 6=some (.slq B (j+1) (m+1) (j+1))/\gf 7=some (.li ((i:Int)+1))) (m0:=m) ?_ ?_
   ·refine⟨0,j+1,g,cs,Dt _,rfl,rfl,by omega,by omega,⟨fun _ _=>rfl⟩,hgB,hcl,⟨fun _ _=>rfl⟩,⟨?_⟩,⟨?_,fun q hq=>g4d hq⟩,by simp[*]⟩
    ·rw[Nat.add_zero,HD2.out,Du];omega
    ·rw[Nat.add_zero,HD2.out];exact HRF.out.takeD _
   clear HD2 w0 w1 w5 hgB;rintro mm gf H' ⟨i,k,gX,csX,hi,rfl,rfl,hk1,hk2,HG,hgB,hcX,HC,HL,HR,w0,w1,w5,w6,w7⟩ ih;refine rnd pl111 (by decide +kernel) ?_;have hkl:k<l.length:=by have:=HM.out;omega
   by_cases hlt2:i<m
   ·have hltI2:((i:Int)+1)<((m:Int)+1):=by omega
    have hp1:j+(i+1)+1<l.length:=by have:=HM.out;omega
    have hp0:j+i+1<l.length:=by omega
    have hq1:=HIT.out (j+(i+1)+1) hp1;have hq0:=HIT.out (j+i+1) hp0;have hX:∀ a z,a2n g lo B a=some z->gX a=some z:=fun a z hz=>by
     obtain⟨e1,e2,e3⟩:=a8z hz;rw[HG.out a e2];exact e3
    have HE:=Aa.mk (d7p (HW.out _ (Ds hp1)) (HW.out _ (Ds hp0)) gX n _ _ (Af.ext (Dm _) (fun a z _ hz=>hX a z hz) hq1) (Af.ext (Dm _) (fun a z _ hz=>hX a z hz) hq0));have hl1:Be (some (false,1)) (some (.cells csX true 1)) (j+1+(i+1))=some (cs[j+(i+1)+1]'(by omega)):=by
     have e:csX[j+1+(i+1)]?=some (cs[j+(i+1)+1]'(by omega)):=by
      rw[HC.out _ (by omega),show j+1+(i+1)=j+(i+1)+1 by omega];exact Dy _
     simpa[Be] using e
    have hl0:Be (some (false,1)) (some (.cells csX true 1)) (j+1+i)=some (cs[j+i+1]'(by omega)):=by
     have e:csX[j+1+i]?=some (cs[j+i+1]'(by omega)):=by
      rw[HC.out _ (by omega),show j+1+i=j+i+1 by omega];exact Dy _
     simpa[Be] using e
    have hi1:∀ {H:Mem} {ev:Ev} {o:Oper} {t:TypeId},iaS prog H ev o t (some (none,1)) (some (.slq B (j+1) (m+1) (j+1))) (some (.li ((i:Int)+1)))=.val (.ptr B (j+1+(i+1))) H:=fun {_ _ _ _}=>iaQ (k:=i+1) (by omega);have hi0:∀ {H:Mem} {ev:Ev} {o:Oper} {t:TypeId},iaS prog H ev o t (some (none,1)) (some (.slq B (j+1) (m+1) (j+1))) (some (.li (i:Int)))=.val (.ptr B (j+1+i)) H:=fun {_ _ _ _}=>iaQ (k:=i) (by omega);have hik:∀ {H:Mem} {ev:Ev} {o:Oper} {t:TypeId},iaS prog H ev o t (some (none,1)) (some (.slq B 0 l.length 0)) (some (.li (k:Int)))=.val (.ptr B k) H:=by
     intro H ev o t;have:=iaQ (B:=B) (off:=0) (d:=0) hkl (H:=H) (ev:=ev) (o:=o) (t:=t)
     rwa [g4w] at this
    have HS1:Aa (Bp (l.take (j+(i+1)+2))=Bp (l.take (j+i+2))++if l[j+(i+1)+1]=l[j+i+1] then [] else [l[j+(i+1)+1]]):=⟨HST.out (j+i+1) hp1⟩;have h1q:=hq1.one;have h2q:allOne [cs[j+(i+1)+1]'(by omega)]=true:=by simp[h1q]
    have hcq:=hq1.cell;have HQ1:=Aa.mk hq1;have HM1:Aa (cs[j+(i+1)+1]'(by omega)∈cs):=⟨Ds _⟩;clear hq1 hq0 hX;have HC2:Aa (∀ q,j+(i+1)+1<=q->csX[q]?=cs[q]?):=⟨fun q hq=>HC.out q (by omega)⟩;generalize cs[j+(i+1)+1]'(by omega)=q1 at *;generalize cs[j+i+1]'(by omega)=q0 at *;by_cases heq2:l[j+(i+1)+1]=l[j+i+1]
    ·rw[decide_eq_true heq2] at HE;rw[if_pos heq2,g4z] at HS1;have HL2:Aa ((Bp (l.take (j+(i+1)+2))).length=k):=⟨by rw[HS1.out];exact HL.out⟩;have HR2:Aa (RowsW (a2n g lo B) n (Bp (l.take (j+(i+1)+2))) (csX.take k)/\∀ q∈csX.take k,q∈cs):=⟨by rw[HS1.out];exact HR.out⟩;clear HS1 HL HR heq2 HC
     iterate 8 all_goals try first|apply spl<;>intro h|simp (disch:=first|assumption|omega|simp) [*]
     refine WC.mono HE.out ?_;rintro _ rfl;clear HE
     iterate 8 all_goals try first|apply spl<;>intro h|simp (disch:=first|assumption|omega|simp) [*]
     exact ih.out (m-(i+1)) _ _ (by omega) ⟨i+1,k,gX,csX,by omega,rfl,rfl,hk1,by omega,HG,hgB,hcX,HC2,HL2,HR2,by simp[*]⟩
    ·rw[decide_eq_false heq2] at HE;rw[if_neg heq2] at HS1;have HL2:Aa ((Bp (l.take (j+(i+1)+2))).length=k+1):=⟨by rw[HS1.out,Dr,HL.out];rfl⟩;have hoff:k+1<=csX.length:=by omega
     have hpt:(a3v csX k [q1]).take (k+1)=csX.take k++[q1]:=by
      have:=b2e (l:=csX) (new:=[q1]) (off:=k) (by simpa using hoff);exact this
     have HR2:Aa (RowsW (a2n g lo B) n (Bp (l.take (j+(i+1)+2))) ((a3v csX k [q1]).take (k+1))/\∀ q∈(a3v csX k [q1]).take (k+1),q∈cs):=⟨by
      rw[HS1.out,hpt];refine⟨HR.out.1.snoc HQ1.out,fun q hq=>?_⟩;rcases Ed.1 hq with h|h
      ·exact HR.out.2 q h
      ·rw[Ek.1 h];exact HM1.out⟩
     have HPL:Aa ((a3v csX k [q1]).length=l.length):=⟨(a8k (l:=csX) (new:=[q1]) (off:=k) (by simpa using hoff)).trans hcX⟩;have HPN:Aa (∀ q,j+(i+1)+1<=q->(a3v csX k [q1])[q]?=cs[q]?):=⟨fun q hq=>(f4n (l:=csX) (new:=[q1]) (off:=k) (j:=q) (by simpa using hoff) (.inr (by simp;omega))).trans (HC2.out q hq)⟩;clear HS1 HL HR heq2 HC HC2 hpt
     iterate 8 all_goals try first|apply spl<;>intro h|simp (disch:=first|assumption|omega|simp) [*]
     refine WC.mono HE.out ?_;rintro _ rfl;clear HE
     iterate 8 all_goals try first|apply spl<;>intro h|simp (disch:=first|assumption|omega|simp) [*]
     exact ih.out (m-(i+1)) _ _ (by omega) ⟨i+1,k+1,_,a3v csX k [q1],by omega,rfl,rfl,by omega,by omega,⟨fun b hb=>(Ae hb).trans (HG.out b hb)⟩,(by rw[show a3v csX k [q1]=List.take k csX++q1 :: List.drop (k+1) csX from by simp[a3v]];exact Ag),HPL.out,HPN,HL2,HR2,by simp[*]⟩
   ·have hltI2:¬((i:Int)+1)<((m:Int)+1):=by omega
    obtain⟨r,hr⟩ : ∃ r,l.length=k+(r+1):=⟨l.length-(k+1),by omega⟩;have hm:=HM.out;have hct:∀ {H:Mem} {ev:Ev} {d:Option Tmp} {ty:TypeId} {p:String} {af:Array Edge} {gd:Option (Nat×Bool)} {x lo:Operand} {hx:ev x=some (.slq B 0 l.length 0)} {hh:ev lo=some (.li (k:Int))},
      ex2 prog H ev ⟨d,.slice 22 x (some lo) none none,ty,p,af,gd⟩ x lo (some (.slq B 0 l.length 0)) (some (.li (k:Int))) hx hh=.val (.slq B k (r+1) k) H:=by
     intro H ev d ty p af gd x lo hx hh;rw[d7r hkl,show l.length-k=r+1 by omega]
    have hce:Aa (l.take (j+i+2)=l):=⟨Ee (by omega)⟩;rw[hce.out] at HL HR;have hL:=HL.out;have hro:k+(r+1)<=csX.length:=by omega
    clear HL HC ih HST HIT hm hr
    iterate 8 all_goals try first|apply spl<;>intro h|simp (disch:=first|assumption|omega|simp) [*]
    have e:(Br csX k (rep [.nl] (r+1))).take k=csX.take k:=by
     unfold Br;rw[g4q,List.take_append_of_le_length (by rw[Du];omega),List.take_take,Nat.min_self]
    refine b4z.mk hL (fun b hb=>(Ae hb).trans (HG.out b hb)) Ag ?_ (by have h:=HR.out.1;rw[<- e] at h;exact h) (by have h:=HR.out.2;rw[<- e] at h;exact h);rw[a8k (by simp[a8l];omega)];omega
  rw[decide_eq_false heq] at HE;have HD2:Aa (Bp (l.take (j+2))=l.take (j+2)):=⟨by rw[HST.out j hlt,if_neg heq,HD.out,g4c hlt]⟩
  iterate 8 all_goals try first|apply spl<;>intro h|simp (disch:=first|assumption|omega|simp) [*]
  refine WC.mono HE.out ?_;rintro _ rfl
  iterate 8 all_goals try first|apply spl<;>intro h|simp (disch:=first|assumption|omega|simp) [*]
  exact ih.out (l.length-(j+1+1)) _ _ (by omega) ⟨j+1+1,by omega,by omega,rfl,rfl,HD2,by simp[*]⟩
 ·have hltI:¬(k:Int)<(l.length:Int):=by omega
  iterate 8 all_goals try first|apply spl<;>intro h|simp (disch:=first|assumption|omega|simp) [*]
  refine HDN.out ?_;have:=HD.out
  rwa [Ee (by omega)] at this
end Go.Ai
end

