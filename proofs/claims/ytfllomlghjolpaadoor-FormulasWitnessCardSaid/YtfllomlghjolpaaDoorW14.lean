/- A small verified interpreter over names, its proofs, and what was proved with it. No condition. -/
import Derived.Test.YtfllomlghjolpaaDoorW13
import Derived.Test.YtfllomlghjolpaaDoorW07
set_option linter.all false
set_option linter.deprecated false
section
namespace Go.Ai
open Go.Proofs
set_option maxRecDepth 10000
set_option maxHeartbeats 40000000
def WaysV (g:Nat→Option Blk) (lo hi B C:Nat) (ov wv:AV) (vs:List AV) (st:List (Nat×List Nat)) : Prop :=
  lo≤B∧B < hi∧lo≤C∧C < hi∧B≠C∧vs.length=st.length∧allOne vs=true ∧
  (∀ (j:Nat) (q:Nat×List Nat),st[j]?=some q→∃ v,vs[j]?=some v∧((q.2=[]∧v=.lit (.slice none 0 0))∨(q.2≠[]∧∃ D,v=.slq D 0 q.2.length 0∧lo≤D∧D < hi∧D≠B∧D≠C∧g D=some (.cells (wordC q.2) true 1)))) ∧
  ((st.length=1∧ov=.sl B 0 1 1∧wv=.sl C 0 1 1∧(∃ own z,g B=some (.cells (wordC (st.map (·.1))) own z))∧∃ own z,g C=some (.cells vs own z)) ∨
   (2≤st.length∧ov=.slq B 0 st.length 0∧wv=.slq C 0 st.length 0∧g B=some (.cells (wordC (st.map (·.1))) true 1)∧g C=some (.cells vs true 1)))
theorem allOne_append:∀ (a b:List AV),allOne (a++b)=(allOne a && allOne b)
 | [],b=>by simp [allOne]
 | x :: a,b=>by
  have ih:=allOne_append a b
  simp only [List.cons_append,allOne] at ih ⊢
  rw [ih]
  cases oneC x <;> rfl
section
variable {P:Program} {g:Nat→Option Blk} {lo hi B C:Nat} {ov wv:AV} {vs:List AV} {st:List (Nat×List Nat)}
theorem WaysV.len (h:WaysV g lo hi B C ov wv vs st) : ∀ {H:Mem} {ev:Ev} {o:Oper} {c:Call} {e:TypeId},lenS P H ev o c (some (.slice e)) (some [ov])=.val (.lit (.int .i64 st.length)) H:=by
 intro H ev o c e
 obtain ⟨h1,h2,h3,h4,h5,h6,h7,h8,⟨k1,rfl,rfl,_⟩ | ⟨k1,rfl,rfl,_⟩⟩:=h
 ·rw [k1]; rfl
 ·rfl
theorem WaysV.one1 (h:WaysV g lo hi B C ov wv vs st) : oneC ov=true:=by
 obtain ⟨h1,h2,h3,h4,h5,h6,h7,h8,⟨k1,rfl,rfl,_⟩ | ⟨k1,rfl,rfl,_⟩⟩:=h <;> rfl
theorem WaysV.one2 (h:WaysV g lo hi B C ov wv vs st) : oneC wv=true:=by
 obtain ⟨h1,h2,h3,h4,h5,h6,h7,h8,⟨k1,rfl,rfl,_⟩ | ⟨k1,rfl,rfl,_⟩⟩:=h <;> rfl
theorem WaysV.blk1 (h:WaysV g lo hi B C ov wv vs st) : ∃ own z,g B=some (.cells (wordC (st.map (·.1))) own z):=by
 obtain ⟨h1,h2,h3,h4,h5,h6,h7,h8,⟨k1,rfl,rfl,h9,_⟩ | ⟨k1,rfl,rfl,h9,_⟩⟩:=h
 ·exact h9
 ·exact ⟨_,_,h9⟩
theorem WaysV.blk2 (h:WaysV g lo hi B C ov wv vs st) : ∃ own z,g C=some (.cells vs own z):=by
 obtain ⟨h1,h2,h3,h4,h5,h6,h7,h8,⟨k1,rfl,rfl,h9,h10⟩ | ⟨k1,rfl,rfl,h9,h10⟩⟩:=h
 ·exact h10
 ·exact ⟨_,_,h10⟩
theorem WaysV.at1 (h:WaysV g lo hi B C ov wv vs st) {k:Nat} {q:Nat×List Nat} (hk:k < st.length) (hq:st[k]?=some q) : ∃ hl:k < (wordC (st.map (·.1))).length,(wordC (st.map (·.1)))[k]'hl=.lit (.int .i64 (q.1:Int)) ∧
  ∀ {H:Mem} {ev:Ev} {o:Oper} {t:TypeId},iaS P H ev o t (some (none,1)) (some ov) (some (.lit (.int .i64 (k:Int))))=.val (.ptr B k) H:=by
 have hl:k < (wordC (st.map (·.1))).length:=by rw [wordC_len,List.length_map]; exact hk
 refine ⟨hl,?_,?_⟩
 ·have hc:(wordC (st.map (·.1)))[k]?=some (.lit (.int .i64 (q.1:Int))):=by
   rw [wordC_at,List.getElem?_map,hq]; rfl
  rw [List.getElem?_eq_getElem hl] at hc
  exact Option.some.inj hc
 intro H ev o t
 obtain ⟨h1,h2,h3,h4,h5,h6,h7,h8,⟨k1,rfl,rfl,_⟩ | ⟨k1,rfl,rfl,_⟩⟩:=h
 ·rw [iaS_sl (by omega) (by omega)]; simp
 ·rw [iaS_slq (by omega) (by omega)]; simp
theorem WaysV.at2 (h:WaysV g lo hi B C ov wv vs st) {k:Nat} {q:Nat×List Nat} (hk:k < st.length) (hq:st[k]?=some q) : ∃ (v:AV) (hl:k < vs.length),vs[k]'hl=v ∧
  ((q.2=[]∧v=.lit (.slice none 0 0))∨(q.2≠[]∧∃ D,v=.slq D 0 q.2.length 0∧lo≤D∧D < hi∧D≠B∧D≠C∧g D=some (.cells (wordC q.2) true 1))) ∧
  ∀ {H:Mem} {ev:Ev} {o:Oper} {t:TypeId},iaS P H ev o t (some (none,1)) (some wv) (some (.lit (.int .i64 (k:Int))))=.val (.ptr C k) H:=by
 obtain ⟨h1,h2,h3,h4,h5,h6,h7,h8,h9⟩:=h
 obtain ⟨v,hv,hw⟩:=h8 k q hq
 have hl:k < vs.length:=by omega
 refine ⟨v,hl,?_,hw,?_⟩
 ·rw [List.getElem?_eq_getElem hl] at hv
  exact Option.some.inj hv
 intro H ev o t
 rcases h9 with ⟨k1,rfl,rfl,_⟩ | ⟨k1,rfl,rfl,_⟩
 ·rw [iaS_sl (by omega) (by omega)]; simp
 ·rw [iaS_slq (by omega) (by omega)]; simp
end
theorem LX.gen {G:Nat} {P:Program} {k:Nat} {b:Code} {fr:Fr} {Q:Out→Prop} (g:Nat→Option Blk) (n:Nat) (h:∀ gL,gL=g→LX G P k b fr ⟨.fn gL,n⟩ Q) : LX G P k b fr ⟨.fn g,n⟩ Q:=h g rfl
theorem WaysV.keep {g g' : Nat→Option Blk} {lo hi hi2 B C:Nat} {ov wv:AV} {vs:List AV} {st:List (Nat×List Nat)} (h:WaysV g lo hi B C ov wv vs st) (hh:hi≤hi2) (hg:∀ q,lo≤q→q < hi→g' q=g q) : WaysV g' lo hi2 B C ov wv vs st:=by
 obtain ⟨h1,h2,h3,h4,h5,h6,h7,h8,h9⟩:=h
 refine ⟨h1,by omega,h3,by omega,h5,h6,h7,?_,?_⟩
 ·intro j q hq
  obtain ⟨v,hv,h⟩:=h8 j q hq
  refine ⟨v,hv,?_⟩
  rcases h with h | ⟨k1,D,k2,k3,k4,k5,k6,k7⟩
  ·exact Or.inl h
  ·exact Or.inr ⟨k1,D,k2,k3,by omega,k5,k6,by rw [hg D k3 k4]; exact k7⟩
 ·rw [hg B h1 h2,hg C h3 h4]; exact h9
theorem WaysV.snoc {g g' : Nat→Option Blk} {lo hi hi2 B C B' C' F:Nat} {ov wv:AV} {vs:List AV} {st:List (Nat×List Nat)} (h:WaysV g lo hi B C ov wv vs st) {t:Nat} {w:List Nat} {m lw:Nat} (hm:m=st.length+1) (hlw:lw=w.length) (hh:hi≤hi2) (hw:w≠[])
  (hB:hi≤B') (hB2:B' < hi2) (hC:hi≤C') (hC2:C' < hi2) (hBC:B'≠C') (hF:lo≤F) (hF2:F < hi) (hFB:F≠B) (hFC:F≠C) (hgF:g F=some (.cells (wordC w) true 1))
  (hg:∀ q,lo≤q→q < hi→q≠B→q≠C→g' q=g q) (hgB:g' B'=some (.cells (wordC (st.map (·.1))++[.lit (.int .i64 (t:Int))]) true 1)) (hgC:g' C'=some (.cells (vs++[.slq F 0 lw 0]) true 1)) (hst:1≤st.length) :
  WaysV g' lo hi2 B' C' (.slq B' 0 m 0) (.slq C' 0 m 0) (vs++[.slq F 0 lw 0]) (st++[(t,w)]):=by
 subst hm hlw
 obtain ⟨h1,h2,h3,h4,h5,h6,h7,h8,h9⟩:=h
 refine ⟨by omega,hB2,by omega,hC2,hBC,by rw [List.length_append,List.length_append,h6]; rfl,?_,?_,Or.inr ⟨by rw [List.length_append]; simp only [List.length_singleton]; omega,by rw [List.length_append]; rfl,by rw [List.length_append]; rfl,?_,hgC⟩⟩
 ·rw [allOne_append,h7]; rfl
 ·intro j q hq
  by_cases hl:j < st.length
  ·rw [List.getElem?_append_left hl] at hq
   obtain ⟨v,hv,h⟩:=h8 j q hq
   refine ⟨v,by rw [List.getElem?_append_left (by omega)]; exact hv,?_⟩
   rcases h with h | ⟨k1,D,k2,k3,k4,k5,k6,k7⟩
   ·exact Or.inl h
   ·exact Or.inr ⟨k1,D,k2,k3,by omega,by omega,by omega,by rw [hg D k3 k4 k5 k6]; exact k7⟩
  ·rw [List.getElem?_append_right (by omega)] at hq
   cases hk:j - st.length with
   | zero =>
    rw [hk] at hq; simp at hq; subst hq
    refine ⟨.slq F 0 w.length 0,by rw [List.getElem?_append_right (by omega),h6,hk]; rfl,Or.inr ⟨hw,F,rfl,hF,by omega,by omega,by omega,by rw [hg F hF hF2 hFB hFC]; exact hgF⟩⟩
   | succ k=>rw [hk] at hq; simp at hq
 ·rw [hgB,List.map_append,List.map_singleton,wordC_snoc]
theorem rWay_w {M:MachM} (hM:M.ok) (s:Nat) (Xa Xb:SetS) (steps:Int) (hs:s < M.rows.length) (A D:Nat) (g:Nat→Option Blk) (n:Nat) (ms:List AV) (hr:RepM g n M ms) (ownA ownD:Bool) (zA zD:Nat) (hA:g A=some (.cells (intC M.rows.length Xa) ownA zA)) (hAn:A < n)
  (hD:g D=some (.cells (intC M.rows.length Xb) ownD zD)) (hDn:D < n) (WM:List Nat) (hWM:wayM M s Xa Xb steps=some WM) :
  WC 6 Tryd.prog 24 [.agg ms,.lit (.int .i64 s),.sl A 0 M.rows.length M.rows.length,.sl D 0 M.rows.length M.rows.length,.lit (.int .i64 steps)] ⟨.fn g,n⟩ fun r=>∃ v g' n',r=.ret (.tup [v,.lit (.int .i64 1)]) ⟨.fn g',n'⟩∧n≤n'∧(∀ q,q < n→g' q=g q)∧GwV g' n n' v WM:=by
 obtain ⟨rv,svs,rfl,hrows,hrv⟩:=hr
 have h1r:=hrv.one
 have h1a:allOne [.lit (.int .i64 M.inp),.lit (.int .i64 M.out),rv]=true:=by simp [h1r]
 have h64:M.rows.length≤64:=hM.2.2.2.2.2.1
 have h16:M.inp≤16:=hM.2.1
 have h1i:1≤M.inp:=hM.1
 have HROW:=Hide.mk hrows
 have HRV:=Hide.mk hrv
 have HM:=Hide.mk hM
 have hclA:=intC_len M.rows.length Xa
 have HATA:=Hide.mk (intC_at M.rows.length Xa)
 have hclD:=intC_len M.rows.length Xb
 have HATD:=Hide.mk (intC_at M.rows.length Xb)
 generalize intC M.rows.length Xa=LA at *
 generalize intC M.rows.length Xb=LD at *
 have HBS:Hide (∀ u,u < M.rows.length→∃ h:u < LD.length,LD[u]'h=.lit (.int .i64 (b01 (Xb u)))):=⟨fun u hu=>by
  have hat:=HATD.out u
  rw [if_pos hu] at hat
  have hl:u < LD.length:=by omega
  exact ⟨hl,by rw [List.getElem?_eq_getElem hl] at hat; exact Option.some.inj hat⟩⟩
 have HAS:Hide (∀ u,u < M.rows.length→∃ h:u < LA.length,LA[u]'h=.lit (.int .i64 (b01 (Xa u)))):=⟨fun u hu=>by
  have hat:=HATA.out u
  rw [if_pos hu] at hat
  have hl:u < LA.length:=by omega
  exact ⟨hl,by rw [List.getElem?_eq_getElem hl] at hat; exact Option.some.inj hat⟩⟩
 clear hrows hrv hM HATA HATD
 refine WC.enterP (noO_ok _ _) hG pl24 Tryd.func24 rfl (by decide +kernel) (Nat.le_of_ble_eq_true (by kernel_rfl)) ?_
 have hsplit:(steps=0∧Xb s=true)∨((steps=0∧Xb s=false)∨¬steps=0):=by
  by_cases h0:steps=0
  ·cases hb:Xb s with
   | true=>exact Or.inl ⟨h0,rfl⟩
   | false=>exact Or.inr (Or.inl ⟨h0,rfl⟩)
  ·exact Or.inr (Or.inr h0)
 obtain ⟨hsl,hls⟩:=HBS.out s hs
 rcases hsplit with ⟨rfl,hb⟩ | hsplit
 ·rw [hb] at hls
  change LD[s]'hsl=.lit (.int .i64 1) at hls
  have hw:WM=[]:=by
   unfold wayM at hWM
   rw [if_pos ⟨rfl,hb⟩] at hWM
   exact (Option.some.inj hWM).symm
  have HW:=Hide.mk hw
  clear hw hWM
  try simp (maxSteps:=999999) (disch:=first | assumption | omega | (simp; done) | fail) [Tryd.results24, *]
  refine ⟨_,_,_,⟨rfl,rfl,rfl⟩,by omega,fun q hq=>gput_lt hq,Or.inl ⟨HW.out,rfl⟩⟩
 have hwm:bfs M Xa Xb (M.rows.length+1) 0 [(s,[])]=some WM:=by
  rw [← hWM]
  unfold wayM
  rw [if_neg]
  rintro ⟨h1,h2⟩
  rcases hsplit with ⟨_,h3⟩ | h3
  ·rw [h2] at h3; cases h3
  ·exact h3 h1
 have HWM:=Hide.mk hwm
 clear hwm hWM
 rcases hsplit with ⟨rfl,hb⟩ | hst
 all_goals try (rw [hb] at hls; change LD[s]'hsl=.lit (.int .i64 0) at hls)
 all_goals
  try simp (maxSteps:=999999) (disch:=first | assumption | omega | (simp; done) | fail) [Tryd.results24, *]
  refine LX.ind (fun m gf H'=>∃ (k n' : Nat) (gL:Nat→Option Blk) (st:List (Nat×List Nat)) (B C:Nat) (ov wv:AV) (vs:List AV),k≤st.length∧m=M.rows.length+1 - k∧H'=⟨.fn gL,n'⟩∧n+1≤n'∧(∀ q,q < n→gL q=g q) ∧
   gL n=some (.cells [.lit (.int .i64 M.inp),.lit (.int .i64 M.out),rv] true 0)∧WaysV gL (n+1) n' B C ov wv vs st∧BOK M.rows.length s st ∧
   bfs M Xa Xb (M.rows.length+1 - k) k st=some WM ∧
   gf 2=some (.sl A 0 M.rows.length M.rows.length)∧gf 3=some (.sl D 0 M.rows.length M.rows.length)∧gf 5=some (.ptr n 0)∧gf 12=some ov∧gf 13=some wv∧gf 14=some (.lit (.int .i64 (k:Int)))) (m0:=M.rows.length+1) ?_ ?_
  ·refine ⟨0,_,_,[(s,[])],n+1,n+1+1,.sl (n+1) 0 1 1,.sl (n+1+1) 0 1 1,[.lit (.slice none 0 0)],by simp,rfl,rfl,by omega,fun q hq=>?_,?_,⟨by omega,by omega,by omega,by omega,by omega,rfl,rfl,fun j q hq=>?_,Or.inl ⟨rfl,rfl,rfl,⟨true,0,?_⟩,true,0,?_⟩⟩,.start hs,HWM.out,by simp,by simp,by simp,by simp,by simp,by simp⟩
   ·simp (disch:=omega) only [gput_lt]
   ·simp (disch:=omega) only [gput_lt,gput_eq]
   ·cases j with
    | zero=>simp at hq; subst hq; exact ⟨_,rfl,Or.inl ⟨rfl,rfl⟩⟩
    | succ j=>simp at hq
   ·simp (disch:=omega) only [gput_lt,gput_eq]
    try rfl
   ·simp only [gput_eq]
    try rfl
  rintro m gf H' ⟨k,n1,g1,st,B,C,ov,wv,vs,hk,rfl,rfl,hn1,hg1,e0,hwv,hbok,hwm,w2,w3,w5,w12,w13,w14⟩ ih
  have HG1:=Hide.mk hg1
  have HWV:=Hide.mk hwv
  have HBK:=Hide.mk hbok
  have HW:=Hide.mk hwm
  clear hg1 hwv hbok hwm
  have hstl:=HBK.out.len
  refine LX.roundP (noO_ok _ _) hG pl24 (by decide +kernel) ?_
  have hlen:∀ {H:Mem} {ev:Ev} {o:Oper} {c:Call} {e:TypeId},lenS Tryd.prog H ev o c (some (.slice e)) (some [ov])=.val (.lit (.int .i64 st.length)) H:=HWV.out.len
  have h1o:oneC ov=true:=HWV.out.one1
  have h1w:oneC wv=true:=HWV.out.one2
  have hlt:k < st.length:=by
   rcases Nat.lt_or_ge k st.length with h | h
   ·exact h
   ·exfalso
    have:=HW.out
    have hnone:st[k]?=none:=List.getElem?_eq_none h
    rw [show M.rows.length+1 - k=(M.rows.length - k)+1 by omega] at this
    unfold bfs at this
    rw [hnone] at this
    cases this
  have hltI:(k:Int) < (st.length:Int):=by omega
  obtain ⟨q,hq⟩ : ∃ q,st[k]?=some q:=⟨st[k],List.getElem?_eq_getElem hlt⟩
  have hqN:=HBK.out.lt q (List.mem_of_getElem? hq)
  have HQ:=Hide.mk hq
  obtain ⟨hBl,hBv,hBi⟩:=HWV.out.at1 (P:=Tryd.prog) hlt hq
  clear hq
  obtain ⟨qs,qw⟩:=q
  dsimp only at hqN HQ hBv
  generalize hL:wordC (st.map (·.1))=L at *
  obtain ⟨ownB,zB,hgB⟩:=HWV.out.blk1
  rw [hL] at hgB
  have HL:=Hide.mk hL
  clear hL
  have hbst:Hide (some WM=if Xa qs=true then (match bRow Xb qw (M.rows.getD qs []) 0 st with
   | .inl w=>some w
   | .inr st'=>bfs M Xa Xb (M.rows.length - k) (k+1) st') else bfs M Xa Xb (M.rows.length - k) (k+1) st):=by
   refine ⟨?_⟩
   rw [← HW.out,show M.rows.length+1 - k=(M.rows.length - k)+1 by omega]
   show (match st[k]? with
    | none=>none
    | some q=>_)=_
   rw [HQ.out]
   rfl
  have hA1:g1 A=some (.cells LA ownA zA):=(HG1.out A hAn).trans hA
  have hD1:g1 D=some (.cells LD ownD zD):=(HG1.out D hDn).trans hD
  obtain ⟨hal,hav⟩:=HAS.out qs hqN
  try simp (maxSteps:=999999) (disch:=first | assumption | omega | (simp; done) | fail) [Tryd.results24, *]
  cases hxa:Xa qs with
  | false =>
   rw [hxa] at hav
   change LA[qs]'hal=.lit (.int .i64 0) at hav
   have hi0:(0:Int) < M.inp:=by omega
   refine LX.roundP (noO_ok _ _) hG pl24 (by decide +kernel) ?_
   try simp (maxSteps:=999999) (disch:=first | assumption | omega | (simp; done) | fail) [Tryd.results24, *]
   refine ih.out (M.rows.length+1 - (k+1)) _ _ (by omega) ⟨k+1,n1,g1,st,B,C,ov,wv,vs,by omega,rfl,rfl,hn1,HG1.out,e0,HWV.out,HBK.out,?_,by simp [*],by simp [*],by simp [*],by simp [*],by simp [*],by simp⟩
   rw [hbst.out,hxa,show M.rows.length+1 - (k+1)=M.rows.length - k by omega]
   rfl
  | true =>
   rw [hxa] at hav
   change LA[qs]'hal=.lit (.int .i64 1) at hav
   have hbst2:=hbst.out
   rw [hxa,if_pos rfl] at hbst2
   have HBST:=Hide.mk hbst2
   have hinI:M.inp=(M.rows[qs].length:Int):=(ok_row HM.out _ (List.getElem_mem hqN)).symm
   have hrlt:=row_lt HM.out hqN
   have hgd:M.rows.getD qs []=M.rows[qs]:=by rw [List.getD_eq_getElem?_getD,List.getElem?_eq_getElem hqN]; rfl
   have hre:=ok_row_edge HM.out (List.getElem_mem hqN)
   obtain ⟨sv,a2,off,ha2,hsv,hld2,hia2⟩:=rows_at (P:=Tryd.prog) HROW.out HRV.out hqN
   rw [hgd] at hrlt hbst2
   generalize M.rows[qs]=row at hsv hinI hre hrlt hbst2
   have HSV:=Hide.mk hsv
   have HRE:=Hide.mk hre
   have HRL:=Hide.mk hrlt
   have HBS2:=Hide.mk hbst2
   have HIN:=Hide.mk hinI
   have hrl16:row.length≤16:=by omega
   have hbko:=HBK.out
   have hwvo:=HWV.out
   clear hsv hre hrlt hbst2 hgd HBST
   refine LX.ind (fun m gf H'=>∃ (j n' : Nat) (gL:Nat→Option Blk) (st2:List (Nat×List Nat)) (B C:Nat) (ov wv:AV) (vs:List AV),j≤row.length∧m=row.length - j∧H'=⟨.fn gL,n'⟩∧n+1≤n'∧(∀ q,q < n→gL q=g q) ∧
    gL n=some (.cells [.lit (.int .i64 M.inp),.lit (.int .i64 M.out),rv] true 0)∧WaysV gL (n+1) n' B C ov wv vs st2∧BOK M.rows.length s st2∧st2[k]?=some (qs,qw) ∧
    bRow Xb qw row 0 st=bRow Xb qw (row.drop j) j st2 ∧
    gf 2=some (.sl A 0 M.rows.length M.rows.length)∧gf 3=some (.sl D 0 M.rows.length M.rows.length)∧gf 5=some (.ptr n 0)∧gf 12=some ov∧gf 13=some wv∧gf 14=some (.lit (.int .i64 (k:Int)))∧gf 15=some (.lit (.int .i64 (j:Int)))) (m0:=row.length) ?_ ?_
   ·exact ⟨0,n1,g1,st,B,C,ov,wv,vs,by omega,by omega,rfl,hn1,HG1.out,e0,hwvo,hbko,HQ.out,by simp,by simp [*],by simp [*],by simp [*],by simp [*],by simp [*],by simp [*],by simp⟩
   clear hbko hwvo hBl hBv hBi hgB hlen
   rintro m gf H' ⟨j,n2,g2,st2,B2,C2,ov2,wv2,vs2,hj,rfl,rfl,hn2,hg2,d0,hwv2,hbok2,hq2,hbr,x2,x3,x5,x12,x13,x14,x15⟩ ihj
   have HG2:=Hide.mk hg2
   have HWV2:=Hide.mk hwv2
   have HBK2:=Hide.mk hbok2
   have HQ2:=Hide.mk hq2
   have HBR:=Hide.mk hbr
   clear hg2 hwv2 hbok2 hq2 hbr
   have hlen2:∀ {H:Mem} {ev:Ev} {o:Oper} {c:Call} {e:TypeId},lenS Tryd.prog H ev o c (some (.slice e)) (some [ov2])=.val (.lit (.int .i64 st2.length)) H:=HWV2.out.len
   have h1o2:oneC ov2=true:=HWV2.out.one1
   have h1w2:oneC wv2=true:=HWV2.out.one2
   have hk2:k < st2.length:=by
    have:=HQ2.out
    rcases Nat.lt_or_ge k st2.length with h | h
    ·exact h
    ·rw [List.getElem?_eq_none h] at this; cases this
   have hst2l:=HBK2.out.len
   obtain ⟨hBl,hBv,hBi⟩:=HWV2.out.at1 (P:=Tryd.prog) hk2 HQ2.out
   obtain ⟨v,hvl,hvv,hvw,hvi⟩:=HWV2.out.at2 (P:=Tryd.prog) hk2 HQ2.out
   have HVW:=Hide.mk hvw
   dsimp only at hBv HVW
   clear hvw
   obtain ⟨ownB,zB,hgB⟩:=HWV2.out.blk1
   obtain ⟨ownC,zC,hgC⟩:=HWV2.out.blk2
   generalize hL:wordC (st2.map (·.1))=L at *
   have HL:=Hide.mk hL
   clear hL
   have hA2:g2 A=some (.cells LA ownA zA):=(HG2.out A hAn).trans hA
   have hD2:g2 D=some (.cells LD ownD zD):=(HG2.out D hDn).trans hD
   have hld2' : loadB (some (false,1)) (g2 a2) (off+qs)=some sv:=by rw [HG2.out a2 ha2]; exact hld2
   refine LX.roundP (noO_ok _ _) hG pl24 (by decide +kernel) ?_
   by_cases hjt:j < row.length
   ·have hjtI:(j:Int) < M.inp:=by rw [HIN.out]; omega
    obtain ⟨a3,off3,ha3,hld3,hia3⟩:=to_at (P:=Tryd.prog) HSV.out hjt
    have hld3' : loadB (some (false,1)) (g2 a3) (off3+j * 2)=some (.lit (.int .i64 row[j].1)):=by rw [HG2.out a3 ha3]; exact hld3
    have hre:=HRE.out _ (List.getElem_mem hjt)
    have hrt:=HRL.out _ (List.getElem_mem hjt)
    have hbr:=HBR.out
    rw [List.drop_eq_getElem_cons hjt] at hbr
    generalize row[j]=e at hld3' hre hrt hbr
    obtain ⟨to,out⟩:=e
    rw [bRow_cons] at hbr
    dsimp only at hld3' hre hrt hbr
    clear hld3
    by_cases ht:to < 0
    ·rw [if_pos ht] at hbr
     have HBR2:=Hide.mk hbr
     clear hbr hre hrt
     try simp (maxSteps:=999999) (disch:=first | assumption | omega | (simp; done) | fail) [Tryd.results24, *]
     refine ihj.out (row.length - (j+1)) _ _ (by omega) ⟨j+1,n2,g2,st2,B2,C2,ov2,wv2,vs2,by omega,rfl,rfl,hn2,HG2.out,d0,HWV2.out,HBK2.out,HQ2.out,HBR2.out,by simp [*],by simp [*],by simp [*],by simp [*],by simp [*],by simp [*],by simp⟩
    ·obtain ⟨t,rfl⟩ : ∃ t:Nat,to=t:=⟨to.toNat,by omega⟩
     rw [if_neg ht,Int.toNat_natCast] at hbr
     have htN:t < M.rows.length:=by have:=hrt (by omega); omega
     obtain ⟨htl,htv⟩:=HBS.out t htN
     have HBR2:=Hide.mk hbr
     clear hbr hre hrt
     have hB2n:B2 < n2:=HWV2.out.2.1
     have hC2n:C2 < n2:=HWV2.out.2.2.2.1
     have hqwl:qw.length≤64:=by have:=HBK2.out.short k _ HQ2.out; dsimp only at this; omega
     rcases HVW.out with ⟨rfl,rfl⟩ | ⟨hqne,D3,rfl,hD31,hD32,hD33,hD34,hgD3⟩
     ·cases hxb:Xb t with
      | true =>
       rw [hxb] at htv
       change LD[t]'htl=.lit (.int .i64 1) at htv
       have hw:WM=[j]:=by
        have h1:=HBR2.out
        have h2:=HBS2.out
        rw [hxb,if_pos rfl] at h1
        rw [h1] at h2
        exact Option.some.inj h2
       have HWE:=Hide.mk hw
       clear hw
       try simp (maxSteps:=999999) (disch:=first | assumption | omega | (simp; done) | fail) [Tryd.results24, *]
       refine ⟨.slq (n2+1+1) 0 1 0,_,_,⟨rfl,rfl,rfl⟩,by omega,fun q hq=>by rw [gput_lt (by omega),gput_lt (by omega),gput_lt (by omega)]; exact HG2.out q hq,Or.inr ⟨by rw [HWE.out]; simp,(n2+1+1),?_,by omega,by omega,?_⟩⟩
       ·rw [HWE.out]; rfl
       ·rw [HWE.out]; simp only [gput_eq]; rfl
      | false =>
       rw [hxb] at htv
       change LD[t]'htl=.lit (.int .i64 0) at htv
       have HBR3:Hide (bRow Xb [] row 0 st=if t∈st2.map (·.1) then bRow Xb [] (row.drop (j+1)) (j+1) st2 else bRow Xb [] (row.drop (j+1)) (j+1) (st2++[(t,[j])])):=⟨by
        have h1:=HBR2.out
        rw [hxb,if_neg (by decide)] at h1
        exact h1⟩
       clear HBR2 HBR
       try simp (maxSteps:=999999) (disch:=first | assumption | omega | (simp; done) | fail) [Tryd.results24, *]
       refine LX.gen _ _ (fun g3 hg3=>?_)
       have HG3:Hide (∀ q,q < n→g3 q=g q):=⟨fun q hq=>by rw [hg3,gput_lt (by omega),gput_lt (by omega),gput_lt (by omega)]; exact HG2.out q hq⟩
       have d3:g3 n=some (.cells [.lit (.int .i64 M.inp),.lit (.int .i64 M.out),rv] true 0):=by rw [hg3,gput_lt (by omega),gput_lt (by omega),gput_lt (by omega)]; exact d0
       have HWV3:Hide (WaysV g3 (n+1) (n2+1+1+1) B2 C2 ov2 wv2 vs2 st2):=⟨HWV2.out.keep (by omega) fun q _ h=>by rw [hg3,gput_lt (by omega),gput_lt (by omega),gput_lt (by omega)]⟩
       have HGF:Hide (g3 (n2+1+1)=some (.cells (wordC [j]) true 1)):=⟨by rw [hg3]; simp only [gput_eq]; rfl⟩
       have hgB3:g3 B2=some (.cells L ownB zB):=by rw [hg3,gput_lt (by omega),gput_lt (by omega),gput_lt (by omega)]; exact hgB
       have hgC3:g3 C2=some (.cells vs2 ownC zC):=by rw [hg3,gput_lt (by omega),gput_lt (by omega),gput_lt (by omega)]; exact hgC
       clear hg3 hgB hgC hBl hBv hBi
       refine LX.ind (fun mm gf H'=>∃ (kk:Nat) (th:Int),kk≤st2.length∧mm=st2.length - kk∧H'=⟨.fn g3,(n2+1+1+1)⟩∧((th=0∧∀ i,i < kk→(st2.map (·.1))[i]?≠some t)∨(th=1∧t∈st2.map (·.1))) ∧
        gf 2=some (.sl A 0 M.rows.length M.rows.length)∧gf 3=some (.sl D 0 M.rows.length M.rows.length)∧gf 5=some (.ptr n 0)∧gf 12=some ov2∧gf 13=some wv2∧gf 14=some (.lit (.int .i64 (k:Int)))∧gf 15=some (.lit (.int .i64 (j:Int)))∧gf 16=some (.lit (.int .i64 (t:Int))) ∧
        gf 17=some (.slq (n2+1+1) 0 1 0)∧gf 18=some (.lit (.int .i64 th))∧gf 19=some (.lit (.int .i64 (kk:Int)))) (m0:=st2.length) ?_ ?_
       ·exact ⟨0,0,Nat.zero_le _,rfl,rfl,Or.inl ⟨rfl,fun i hi=>absurd hi (Nat.not_lt_zero i)⟩,by simp [*],by simp [*],by simp [*],by simp [*],by simp [*],by simp [*],by simp [*],by simp [*],by simp,by simp,by simp⟩
       rintro mm gf H' ⟨kk,th,hkk,rfl,rfl,hth,y2,y3,y5,y12,y13,y14,y15,y16,y17,y18,y19⟩ ihs
       refine LX.roundP (noO_ok _ _) hG pl24 (by decide +kernel) ?_
       by_cases hks:kk < st2.length
       ·have hksI:(kk:Int) < (st2.length:Int):=by omega
        have HTH:=Hide.mk hth
        obtain ⟨q,hq⟩ : ∃ q,st2[kk]?=some q:=⟨st2[kk],List.getElem?_eq_getElem hks⟩
        obtain ⟨hBl,hBv,hBi⟩:=HWV3.out.at1 (P:=Tryd.prog) hks hq
        rw [HL.out] at hBl
        have hBv2:L[kk]'hBl=.lit (.int .i64 (q.1:Int)):=by
         have:∀ (X:List AV) (h:kk < X.length),X=wordC (st2.map (·.1))→X[kk]'h=.lit (.int .i64 (q.1:Int)):=fun X h e=>by subst e; exact hBv
         exact this L hBl HL.out.symm
        clear hBv hth
        have HSK:Hide ((st2.map (·.1))[kk]?=some q.1):=⟨by rw [List.getElem?_map,hq]; rfl⟩
        clear hq
        generalize q.1=qk at hBv2 HSK
        by_cases hqt:qk=t
        ·subst hqt
         try simp (maxSteps:=999999) (disch:=first | assumption | omega | (simp; done) | fail) [Tryd.results24, *]
         refine ihs.out (st2.length - (kk+1)) _ _ (by omega) ⟨kk+1,1,by omega,rfl,rfl,Or.inr ⟨rfl,List.mem_of_getElem? HSK.out⟩,by simp [*],by simp [*],by simp [*],by simp [*],by simp [*],by simp [*],by simp [*],by simp [*],by simp [*],by simp,by simp⟩
        ·have hqtI:¬((qk:Int)=(t:Int)):=by omega
         try simp (maxSteps:=999999) (disch:=first | assumption | omega | (simp; done) | fail) [Tryd.results24, *]
         refine ihs.out (st2.length - (kk+1)) _ _ (by omega) ⟨kk+1,th,by omega,rfl,rfl,?_,by simp [*],by simp [*],by simp [*],by simp [*],by simp [*],by simp [*],by simp [*],by simp [*],by simp [*],by simp [*],by simp⟩
         rcases HTH.out with ⟨h1,h2⟩ | h
         ·refine Or.inl ⟨h1,fun i hi=>?_⟩
          by_cases e:i=kk
          ·subst e; rw [HSK.out]; intro h; exact hqt (Option.some.inj h)
          ·exact h2 i (by omega)
         ·exact Or.inr h
       ·have hksI:¬(kk:Int) < (st2.length:Int):=by omega
        rcases hth with ⟨rfl,hno⟩ | ⟨rfl,hin⟩
        ·have hnin:t ∉ st2.map (·.1):=by
          intro h
          obtain ⟨i,hi⟩:=List.mem_iff_getElem?.1 h
          have:i < st2.length:=by
           rcases Nat.lt_or_ge i (st2.map (·.1)).length with h | h
           ·rw [List.length_map] at h; exact h
           ·rw [List.getElem?_eq_none h] at hi; cases hi
          exact hno i (by omega) hi
         have hbr:=HBR3.out
         rw [if_neg hnin] at hbr
         have HBR4:=Hide.mk hbr
         have HNI:=Hide.mk hnin
         have hlL:L.length=st2.length:=by rw [← HL.out,wordC_len,List.length_map]
         have h1L:allOne L=true:=by rw [← HL.out]; exact wordC_one _
         have hlv:vs2.length=st2.length:=HWV3.out.2.2.2.2.2.1
         have h1v:allOne vs2=true:=HWV3.out.2.2.2.2.2.2.1
         have hst64:st2.length≤64:=by omega
         have hBCn:B2≠C2:=HWV3.out.2.2.2.2.1
         have HBK3:=Hide.mk (HBK2.out.snoc (w:=[j]) htN hnin (by have:=HBK2.out.short k _ HQ2.out; show 1≤_; omega))
         clear hbr hnin hno
         rcases HWV3.out.2.2.2.2.2.2.2.2 with ⟨hs1,rfl,rfl,_,_⟩ | ⟨hs2,rfl,rfl,e1,e2⟩
         ·have HS1:=Hide.mk hs1
          have hlL1:L.length=1:=by omega
          have hlv1:vs2.length=1:=by omega
          have hk1:¬((kk:Int) < 1):=by omega
          have hin2:n2 < n2+1:=by omega
          clear hlL hlv hlen2 hs1 hksI hks hkk
          try simp (maxSteps:=999999) (disch:=first | assumption | omega | (simp; done) | fail) [Tryd.results24, *]
          refine ihj.out (row.length - (j+1)) _ _ (by omega) ⟨j+1,(n2+1+1+1)+1+1+1+1,_,st2++[(t,[j])],(n2+1+1+1)+1,(n2+1+1+1)+1+1+1,.slq ((n2+1+1+1)+1) 0 2 0,.slq ((n2+1+1+1)+1+1+1) 0 2 0,vs2++[.slq (n2+1+1) 0 1 0],by omega,rfl,rfl,by omega,fun q hq=>?_,?_,?_,HBK3.out,?_,HBR4.out,by simp [*],by simp [*],by simp [*],by simp [*],by simp [*],by simp [*],by simp⟩
          ·rw [gput_lt (by omega),gput_lt (by omega),gput_lt (by omega),gput_lt (by omega)]; exact HG3.out q hq
          ·rw [gput_lt (by omega),gput_lt (by omega),gput_lt (by omega),gput_lt (by omega)]; exact d3
          ·refine HWV3.out.snoc (F:=(n2+1+1)) (by rw [HS1.out]) (rfl) (by omega) (by simp) (by omega) (by omega) (by omega) (by omega) (by omega) (by omega) (by omega) (by omega) (by omega) HGF.out (fun q h1 h2 h3 h4=>by rw [gput_lt (by omega),gput_lt (by omega),gput_lt (by omega),gput_lt (by omega)]) ?_ ?_ (by omega)
           ·rw [gput_lt (by omega),gput_lt (by omega),gput_eq,HL.out,List.take_of_length_le (by omega)]
           ·rw [gput_eq,List.take_of_length_le (by omega)]
          ·rw [List.getElem?_append_left (by omega)]; exact HQ2.out
         ·have e1' : g3 B2=some (.cells L true 1):=by rw [← HL.out]; exact e1
          have hgne:∀ (G:Nat→Option Blk) (x:Option Blk),gput G B2 x C2=G C2:=fun G x=>gput_ne (fun e=>hBCn e.symm)
          have hBlo:n+1≤B2:=HWV3.out.1
          have hClo:n+1≤C2:=HWV3.out.2.2.1
          clear e1 hgB3 hgC3
          try simp (maxSteps:=999999) (disch:=first | assumption | omega | (simp; done) | fail) [Tryd.results24, *]
          refine ihj.out (row.length - (j+1)) _ _ (by omega) ⟨j+1,(n2+1+1+1)+1+1+1+1,_,st2++[(t,[j])],(n2+1+1+1)+1,(n2+1+1+1)+1+1+1,.slq ((n2+1+1+1)+1) 0 (st2.length+1) 0,.slq ((n2+1+1+1)+1+1+1) 0 (st2.length+1) 0,vs2++[.slq (n2+1+1) 0 1 0],by omega,rfl,rfl,by omega,fun q hq=>?_,?_,?_,HBK3.out,?_,HBR4.out,by simp [*],by simp [*],by simp [*],by simp [*],by simp [*],by simp [*],by simp⟩
          ·rw [gput_lt (by omega),gput_ne (by omega),gput_lt (by omega),gput_lt (by omega),gput_ne (by omega),gput_lt (by omega)]; exact HG3.out q hq
          ·rw [gput_lt (by omega),gput_ne (by omega),gput_lt (by omega),gput_lt (by omega),gput_ne (by omega),gput_lt (by omega)]; exact d3
          ·refine HWV3.out.snoc (F:=(n2+1+1)) rfl (rfl) (by omega) (by simp) (by omega) (by omega) (by omega) (by omega) (by omega) (by omega) (by omega) (by omega) (by omega) HGF.out (fun q h1 h2 h3 h4=>by rw [gput_lt (by omega),gput_ne (by omega),gput_lt (by omega),gput_lt (by omega),gput_ne (by omega),gput_lt (by omega)]) ?_ ?_ (by omega)
           ·rw [gput_lt (by omega),gput_ne (by omega),gput_lt (by omega),gput_eq,HL.out]
           ·rw [gput_eq]
          ·rw [List.getElem?_append_left (by omega)]; exact HQ2.out
        ·have hbr:=HBR3.out
         rw [if_pos hin] at hbr
         have HBR4:=Hide.mk hbr
         clear hbr hin
         try simp (maxSteps:=999999) (disch:=first | assumption | omega | (simp; done) | fail) [Tryd.results24, *]
         refine ihj.out (row.length - (j+1)) _ _ (by omega) ⟨j+1,(n2+1+1+1),g3,st2,B2,C2,ov2,wv2,vs2,by omega,rfl,rfl,by omega,HG3.out,d3,HWV3.out,HBK2.out,HQ2.out,HBR4.out,by simp [*],by simp [*],by simp [*],by simp [*],by simp [*],by simp [*],by simp⟩
     ·obtain ⟨qn,hqn⟩ : ∃ qn,qw.length=qn+1:=⟨qw.length - 1,by have:=List.length_pos_iff.2 hqne; omega⟩
      have hwl3:(wordC qw).length=qn+1:=by rw [wordC_len]; exact hqn
      have h1w3:allOne (wordC qw)=true:=wordC_one qw
      have htk:(wordC qw).take (qn+1)=wordC qw:=List.take_of_length_le (by omega)
      have HQN:=Hide.mk hqn
      rw [hqn] at hvv
      have hgD3' : g2 D3=some (.cells (wordC qw) true 1):=hgD3
      have hD3B:D3≠n2:=by omega
      cases hxb:Xb t with
      | true =>
       rw [hxb] at htv
       change LD[t]'htl=.lit (.int .i64 1) at htv
       have hw:WM=(qw++[j]):=by
        have h1:=HBR2.out
        have h2:=HBS2.out
        rw [hxb,if_pos rfl] at h1
        rw [h1] at h2
        exact Option.some.inj h2
       have HWE:=Hide.mk hw
       clear hw
       try simp (maxSteps:=999999) (disch:=first | assumption | omega | (simp; done) | fail) [Tryd.results24, *]
       refine ⟨.slq (n2+1+1+1) 0 (qn+1+1) 0,_,_,⟨rfl,rfl,rfl⟩,by omega,fun q hq=>by rw [gput_lt (by omega),gput_ne (by omega),gput_lt (by omega),gput_lt (by omega),gput_lt (by omega)]; exact HG2.out q hq,Or.inr ⟨by rw [HWE.out]; simp,(n2+1+1+1),?_,by omega,by omega,?_⟩⟩
       ·rw [HWE.out,List.length_append,HQN.out]; rfl
       ·rw [HWE.out]; simp only [gput_eq]; rw [wordC_snoc]
      | false =>
       rw [hxb] at htv
       change LD[t]'htl=.lit (.int .i64 0) at htv
       have HBR3:Hide (bRow Xb qw row 0 st=if t∈st2.map (·.1) then bRow Xb qw (row.drop (j+1)) (j+1) st2 else bRow Xb qw (row.drop (j+1)) (j+1) (st2++[(t,(qw++[j]))])):=⟨by
        have h1:=HBR2.out
        rw [hxb,if_neg (by decide)] at h1
        exact h1⟩
       clear HBR2 HBR
       try simp (maxSteps:=999999) (disch:=first | assumption | omega | (simp; done) | fail) [Tryd.results24, *]
       refine LX.gen _ _ (fun g3 hg3=>?_)
       have HG3:Hide (∀ q,q < n→g3 q=g q):=⟨fun q hq=>by rw [hg3,gput_lt (by omega),gput_ne (by omega),gput_lt (by omega),gput_lt (by omega),gput_lt (by omega)]; exact HG2.out q hq⟩
       have d3:g3 n=some (.cells [.lit (.int .i64 M.inp),.lit (.int .i64 M.out),rv] true 0):=by rw [hg3,gput_lt (by omega),gput_ne (by omega),gput_lt (by omega),gput_lt (by omega),gput_lt (by omega)]; exact d0
       have HWV3:Hide (WaysV g3 (n+1) (n2+1+1+1+1) B2 C2 ov2 wv2 vs2 st2):=⟨HWV2.out.keep (by omega) fun q _ h=>by rw [hg3,gput_lt (by omega),gput_ne (by omega),gput_lt (by omega),gput_lt (by omega),gput_lt (by omega)]⟩
       have HGF:Hide (g3 (n2+1+1+1)=some (.cells (wordC (qw++[j])) true 1)):=⟨by rw [hg3]; simp only [gput_eq]; rw [wordC_snoc]⟩
       have hgB3:g3 B2=some (.cells L ownB zB):=by rw [hg3,gput_lt (by omega),gput_ne (by omega),gput_lt (by omega),gput_lt (by omega),gput_lt (by omega)]; exact hgB
       have hgC3:g3 C2=some (.cells vs2 ownC zC):=by rw [hg3,gput_lt (by omega),gput_ne (by omega),gput_lt (by omega),gput_lt (by omega),gput_lt (by omega)]; exact hgC
       clear hg3 hgB hgC hBl hBv hBi
       refine LX.ind (fun mm gf H'=>∃ (kk:Nat) (th:Int),kk≤st2.length∧mm=st2.length - kk∧H'=⟨.fn g3,(n2+1+1+1+1)⟩∧((th=0∧∀ i,i < kk→(st2.map (·.1))[i]?≠some t)∨(th=1∧t∈st2.map (·.1))) ∧
        gf 2=some (.sl A 0 M.rows.length M.rows.length)∧gf 3=some (.sl D 0 M.rows.length M.rows.length)∧gf 5=some (.ptr n 0)∧gf 12=some ov2∧gf 13=some wv2∧gf 14=some (.lit (.int .i64 (k:Int)))∧gf 15=some (.lit (.int .i64 (j:Int)))∧gf 16=some (.lit (.int .i64 (t:Int))) ∧
        gf 17=some (.slq (n2+1+1+1) 0 (qn+1+1) 0)∧gf 18=some (.lit (.int .i64 th))∧gf 19=some (.lit (.int .i64 (kk:Int)))) (m0:=st2.length) ?_ ?_
       ·exact ⟨0,0,Nat.zero_le _,rfl,rfl,Or.inl ⟨rfl,fun i hi=>absurd hi (Nat.not_lt_zero i)⟩,by simp [*],by simp [*],by simp [*],by simp [*],by simp [*],by simp [*],by simp [*],by simp [*],by simp,by simp,by simp⟩
       rintro mm gf H' ⟨kk,th,hkk,rfl,rfl,hth,y2,y3,y5,y12,y13,y14,y15,y16,y17,y18,y19⟩ ihs
       refine LX.roundP (noO_ok _ _) hG pl24 (by decide +kernel) ?_
       by_cases hks:kk < st2.length
       ·have hksI:(kk:Int) < (st2.length:Int):=by omega
        have HTH:=Hide.mk hth
        obtain ⟨q,hq⟩ : ∃ q,st2[kk]?=some q:=⟨st2[kk],List.getElem?_eq_getElem hks⟩
        obtain ⟨hBl,hBv,hBi⟩:=HWV3.out.at1 (P:=Tryd.prog) hks hq
        rw [HL.out] at hBl
        have hBv2:L[kk]'hBl=.lit (.int .i64 (q.1:Int)):=by
         have:∀ (X:List AV) (h:kk < X.length),X=wordC (st2.map (·.1))→X[kk]'h=.lit (.int .i64 (q.1:Int)):=fun X h e=>by subst e; exact hBv
         exact this L hBl HL.out.symm
        clear hBv hth
        have HSK:Hide ((st2.map (·.1))[kk]?=some q.1):=⟨by rw [List.getElem?_map,hq]; rfl⟩
        clear hq
        generalize q.1=qk at hBv2 HSK
        by_cases hqt:qk=t
        ·subst hqt
         try simp (maxSteps:=999999) (disch:=first | assumption | omega | (simp; done) | fail) [Tryd.results24, *]
         refine ihs.out (st2.length - (kk+1)) _ _ (by omega) ⟨kk+1,1,by omega,rfl,rfl,Or.inr ⟨rfl,List.mem_of_getElem? HSK.out⟩,by simp [*],by simp [*],by simp [*],by simp [*],by simp [*],by simp [*],by simp [*],by simp [*],by simp [*],by simp,by simp⟩
        ·have hqtI:¬((qk:Int)=(t:Int)):=by omega
         try simp (maxSteps:=999999) (disch:=first | assumption | omega | (simp; done) | fail) [Tryd.results24, *]
         refine ihs.out (st2.length - (kk+1)) _ _ (by omega) ⟨kk+1,th,by omega,rfl,rfl,?_,by simp [*],by simp [*],by simp [*],by simp [*],by simp [*],by simp [*],by simp [*],by simp [*],by simp [*],by simp [*],by simp⟩
         rcases HTH.out with ⟨h1,h2⟩ | h
         ·refine Or.inl ⟨h1,fun i hi=>?_⟩
          by_cases e:i=kk
          ·subst e; rw [HSK.out]; intro h; exact hqt (Option.some.inj h)
          ·exact h2 i (by omega)
         ·exact Or.inr h
       ·have hksI:¬(kk:Int) < (st2.length:Int):=by omega
        rcases hth with ⟨rfl,hno⟩ | ⟨rfl,hin⟩
        ·have hnin:t ∉ st2.map (·.1):=by
          intro h
          obtain ⟨i,hi⟩:=List.mem_iff_getElem?.1 h
          have:i < st2.length:=by
           rcases Nat.lt_or_ge i (st2.map (·.1)).length with h | h
           ·rw [List.length_map] at h; exact h
           ·rw [List.getElem?_eq_none h] at hi; cases hi
          exact hno i (by omega) hi
         have hbr:=HBR3.out
         rw [if_neg hnin] at hbr
         have HBR4:=Hide.mk hbr
         have HNI:=Hide.mk hnin
         have hlL:L.length=st2.length:=by rw [← HL.out,wordC_len,List.length_map]
         have h1L:allOne L=true:=by rw [← HL.out]; exact wordC_one _
         have hlv:vs2.length=st2.length:=HWV3.out.2.2.2.2.2.1
         have h1v:allOne vs2=true:=HWV3.out.2.2.2.2.2.2.1
         have hst64:st2.length≤64:=by omega
         have hBCn:B2≠C2:=HWV3.out.2.2.2.2.1
         have HBK3:=Hide.mk (HBK2.out.snoc (w:=(qw++[j])) htN hnin (by have:=HBK2.out.short k _ HQ2.out; rw [List.length_append]; simp only [List.length_singleton]; dsimp only at this; omega))
         clear hbr hnin hno
         rcases HWV3.out.2.2.2.2.2.2.2.2 with ⟨hs1,rfl,rfl,_,_⟩ | ⟨hs2,rfl,rfl,e1,e2⟩
         ·have HS1:=Hide.mk hs1
          have hlL1:L.length=1:=by omega
          have hlv1:vs2.length=1:=by omega
          have hk1:¬((kk:Int) < 1):=by omega
          have hin2:n2 < n2+1:=by omega
          clear hlL hlv hlen2 hs1 hksI hks hkk
          try simp (maxSteps:=999999) (disch:=first | assumption | omega | (simp; done) | fail) [Tryd.results24, *]
          refine ihj.out (row.length - (j+1)) _ _ (by omega) ⟨j+1,(n2+1+1+1+1)+1+1+1+1,_,st2++[(t,(qw++[j]))],(n2+1+1+1+1)+1,(n2+1+1+1+1)+1+1+1,.slq ((n2+1+1+1+1)+1) 0 2 0,.slq ((n2+1+1+1+1)+1+1+1) 0 2 0,vs2++[.slq (n2+1+1+1) 0 (qn+1+1) 0],by omega,rfl,rfl,by omega,fun q hq=>?_,?_,?_,HBK3.out,?_,HBR4.out,by simp [*],by simp [*],by simp [*],by simp [*],by simp [*],by simp [*],by simp⟩
          ·rw [gput_lt (by omega),gput_lt (by omega),gput_lt (by omega),gput_lt (by omega)]; exact HG3.out q hq
          ·rw [gput_lt (by omega),gput_lt (by omega),gput_lt (by omega),gput_lt (by omega)]; exact d3
          ·refine HWV3.out.snoc (F:=(n2+1+1+1)) (by rw [HS1.out]) (by rw [List.length_append,HQN.out]; rfl) (by omega) (by simp) (by omega) (by omega) (by omega) (by omega) (by omega) (by omega) (by omega) (by omega) (by omega) HGF.out (fun q h1 h2 h3 h4=>by rw [gput_lt (by omega),gput_lt (by omega),gput_lt (by omega),gput_lt (by omega)]) ?_ ?_ (by omega)
           ·rw [gput_lt (by omega),gput_lt (by omega),gput_eq,HL.out,List.take_of_length_le (by omega)]
           ·rw [gput_eq,List.take_of_length_le (by omega)]
          ·rw [List.getElem?_append_left (by omega)]; exact HQ2.out
         ·have e1' : g3 B2=some (.cells L true 1):=by rw [← HL.out]; exact e1
          have hgne:∀ (G:Nat→Option Blk) (x:Option Blk),gput G B2 x C2=G C2:=fun G x=>gput_ne (fun e=>hBCn e.symm)
          have hBlo:n+1≤B2:=HWV3.out.1
          have hClo:n+1≤C2:=HWV3.out.2.2.1
          clear e1 hgB3 hgC3
          try simp (maxSteps:=999999) (disch:=first | assumption | omega | (simp; done) | fail) [Tryd.results24, *]
          refine ihj.out (row.length - (j+1)) _ _ (by omega) ⟨j+1,(n2+1+1+1+1)+1+1+1+1,_,st2++[(t,(qw++[j]))],(n2+1+1+1+1)+1,(n2+1+1+1+1)+1+1+1,.slq ((n2+1+1+1+1)+1) 0 (st2.length+1) 0,.slq ((n2+1+1+1+1)+1+1+1) 0 (st2.length+1) 0,vs2++[.slq (n2+1+1+1) 0 (qn+1+1) 0],by omega,rfl,rfl,by omega,fun q hq=>?_,?_,?_,HBK3.out,?_,HBR4.out,by simp [*],by simp [*],by simp [*],by simp [*],by simp [*],by simp [*],by simp⟩
          ·rw [gput_lt (by omega),gput_ne (by omega),gput_lt (by omega),gput_lt (by omega),gput_ne (by omega),gput_lt (by omega)]; exact HG3.out q hq
          ·rw [gput_lt (by omega),gput_ne (by omega),gput_lt (by omega),gput_lt (by omega),gput_ne (by omega),gput_lt (by omega)]; exact d3
          ·refine HWV3.out.snoc (F:=(n2+1+1+1)) rfl (by rw [List.length_append,HQN.out]; rfl) (by omega) (by simp) (by omega) (by omega) (by omega) (by omega) (by omega) (by omega) (by omega) (by omega) (by omega) HGF.out (fun q h1 h2 h3 h4=>by rw [gput_lt (by omega),gput_ne (by omega),gput_lt (by omega),gput_lt (by omega),gput_ne (by omega),gput_lt (by omega)]) ?_ ?_ (by omega)
           ·rw [gput_lt (by omega),gput_ne (by omega),gput_lt (by omega),gput_eq,HL.out]
           ·rw [gput_eq]
          ·rw [List.getElem?_append_left (by omega)]; exact HQ2.out
        ·have hbr:=HBR3.out
         rw [if_pos hin] at hbr
         have HBR4:=Hide.mk hbr
         clear hbr hin
         try simp (maxSteps:=999999) (disch:=first | assumption | omega | (simp; done) | fail) [Tryd.results24, *]
         refine ihj.out (row.length - (j+1)) _ _ (by omega) ⟨j+1,(n2+1+1+1+1),g3,st2,B2,C2,ov2,wv2,vs2,by omega,rfl,rfl,by omega,HG3.out,d3,HWV3.out,HBK2.out,HQ2.out,HBR4.out,by simp [*],by simp [*],by simp [*],by simp [*],by simp [*],by simp [*],by simp⟩
   ·have hjtI:¬(j:Int) < M.inp:=by rw [HIN.out]; omega
    have HJ:Hide (j=row.length):=⟨by omega⟩
    try simp (maxSteps:=999999) (disch:=first | assumption | omega | (simp; done) | fail) [Tryd.results24, *]
    refine ih.out (M.rows.length+1 - (k+1)) _ _ (by omega) ⟨k+1,n2,g2,st2,B2,C2,ov2,wv2,vs2,by omega,rfl,rfl,hn2,HG2.out,d0,HWV2.out,HBK2.out,?_,by simp [*],by simp [*],by simp [*],by simp [*],by simp [*],by simp⟩
    have h1:=HBR.out
    have h2:=HBS2.out
    rw [HJ.out,List.drop_length] at h1
    rw [h1] at h2
    rw [show M.rows.length+1 - (k+1)=M.rows.length - k by omega]
    exact h2.symm
end Go.Ai
end
