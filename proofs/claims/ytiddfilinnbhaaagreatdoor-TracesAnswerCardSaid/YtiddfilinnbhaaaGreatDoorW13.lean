/- A small verified interpreter over names, its proofs, and what was proved with it. No condition. -/
import Derived.Test.YtiddfilinnbhaaaGreatDoorW12
import Derived.Test.YtiddfilinnbhaaaGreatDoorW06
import Derived.Test.YtiddfilinnbhaaaGreatDoorW11
set_option linter.all false
set_option linter.deprecated false
section
namespace Go.Ai
set_option maxRecDepth 10000
def ansM (rows:List (List (Int×Int))) : Int→List Int→Option (List Int)
 | _,[]=>some []
 | a,i :: w=>if ((rows.getD a.toNat []).getD i.toNat (-1,-1)).1 = -1 then (if ((rows.getD a.toNat []).getD i.toNat (-1,-1)).2 = -2 then some (List.replicate (w.length+1) (-1)) else none) else (ansM rows ((rows.getD a.toNat []).getD i.toNat (-1,-1)).1 w).map (((rows.getD a.toNat []).getD i.toNat (-1,-1)).2 :: ·)
def knM (V:List Int→Option Int) : Bool→List Int→List Int→Option (List Int)
 | _,_,[]=>some []
 | true,p,i :: w=>(knM V true (p++[i]) w).map (-1 :: ·)
 | false,p,i :: w=>match V (p++[i]) with
  | none=>none
  | some o=>(knM V (decide (o = -1)) (p++[i]) w).map (o :: ·)
theorem knM_nil {V:List Int→Option Int} {d:Bool} {p:List Int} : knM V d p []=some []:=by cases d <;> rfl
theorem knM_dead (V:List Int→Option Int) : ∀ (w p:List Int),knM V true p w=some (List.replicate w.length (-1))
 | [],_=>rfl
 | i :: w,p=>by
  show (knM V true (p++[i]) w).map (-1 :: ·)=_
  rw [knM_dead V w]; rfl
theorem ans_kn {V:List Int→Option Int} {ws:List (List Int)} {I:Nat} (hN:Nod V ws) : ∀ (w p:List Int),p∈ws→inW w I=true→ansM (rowsT V ws I) ((ws.idxOf p:Nat) : Int) w=knM V false p w
 | [],_,_,_=>rfl
 | i :: w,p,hp,hw=>by
  unfold inW at hw
  rw [List.all_cons,Bool.and_eq_true] at hw
  have hi:=of_decide_eq_true hw.1
  obtain ⟨j,rfl⟩ : ∃ j:Nat,i=j:=⟨i.toNat,by omega⟩
  obtain ⟨hl,hat⟩:=idx_at hp
  have e1:((rowsT V ws I).getD ((ws.idxOf p:Nat) : Int).toNat []).getD (j:Int).toNat (-1,-1)=entT V ws p j:=by
   rw [Int.toNat_natCast,Int.toNat_natCast,rowsT_at hl,hat,List.getD_eq_getElem?_getD,rowW_at (by omega)]; rfl
  unfold ansM
  rw [e1]
  show _=match V (p++[(j:Int)]) with
   | none=>none
   | some o=>(knM V (decide (o = -1)) (p++[(j:Int)]) w).map (o :: ·)
  unfold entT
  cases h:V (p++[(j:Int)]) with
  | none=>rfl
  | some o =>
   by_cases ho:o = -1
   ·subst ho
    simp [knM_dead,List.replicate_succ]
   ·have ih:=ans_kn hN w (p++[(j:Int)]) ((hN.mem _).2 (.inr ⟨o,h,ho⟩)) hw.2
    have hne:¬((ws.idxOf (p++[(j:Int)]) : Nat) : Int) = -1:=by omega
    simp only [ho,if_false,hne,decide_false]
    rw [ih]
theorem neAt_none:∀ (a b:List Int) (k:Nat),a.length=b.length→neAt a b k=none→a=b
 | [],[],_,_,_=>rfl
 | a :: x,b :: y,k,hl,h=>by
  have h' : (if a=b then neAt x y (k+1) else some k)=none:=h
  by_cases e:a=b
  ·rw [if_pos e] at h'
   rw [e,neAt_none x y (k+1) (by simpa using hl) h']
  ·rw [if_neg e] at h'; cases h'
 | [],_ :: _,_,hl,_=>by cases hl
 | _ :: _,[],_,hl,_=>by cases hl
theorem dev_none {M:MachM} : ∀ (ts:List (List Int×List Int)) (i:Nat),devF M ts i=none→(∀ t∈ts,t.2.length=t.1.length)→∀ t∈ts,t.2=runM M 0 t.1
 | [],_,_,_=>fun t ht=>by cases ht
 | u :: ts,i,h,hl=>by
  unfold devF at h
  intro t ht
  cases h1:neAt (runM M 0 u.1) u.2 0 with
  | some k=>rw [h1] at h; cases h
  | none =>
   rw [h1] at h
   rcases List.mem_cons.1 ht with rfl | ht
   ·exact (neAt_none _ _ _ (by rw [runM_len,hl t (by simp)]) h1).symm
   ·exact dev_none ts (i+1) h (fun v hv=>hl v (by simp [hv])) t ht
theorem kn_run {M:MachM} (hM:M.ok) {ts:List (List Int×List Int)} (h:∀ t∈ts,t.2=runM M 0 t.1) : ∀ (w p r:List Int) (d:Bool),stOK M (aftM M 0 p)→inW w M.inp=true→(d=true→aftM M 0 p = -1)→knM (valT ts) d p w=some r→r=runM M (aftM M 0 p) w
 | [],p,r,d,_,_,_,hk=>by rw [knM_nil] at hk; injection hk with hk; rw [← hk]; rfl
 | i :: w,p,r,true,hs,hw,hd,hk=>by
  rw [knM_dead] at hk
  injection hk with hk
  rw [hd rfl,← hk]
  have key:∀ (v:List Int),runM M (-1) v=List.replicate v.length (-1):=by
   intro v
   induction v with
   | nil=>rfl
   | cons j v ih =>
    show (nextM M (-1) j).2 :: runM M (nextM M (-1) j).1 v=_
    rw [nextM_neg (by decide)]
    show (-1:Int) :: runM M (-1) v=_
    rw [ih]; rfl
  exact (key _).symm
 | i :: w,p,r,false,hs,hw,hd,hk=>by
  unfold inW at hw
  rw [List.all_cons,Bool.and_eq_true] at hw
  have hi:=of_decide_eq_true hw.1
  have he:=edgeOK_st (nextM_ok hM hs hi.1 hi.2)
  have hk' : (match valT ts (p++[i]) with
   | none=>none
   | some o=>(knM (valT ts) (decide (o = -1)) (p++[i]) w).map (o :: ·))=some r:=hk
  cases hV:valT ts (p++[i]) with
  | none=>rw [hV] at hk'; cases hk'
  | some o =>
   rw [hV] at hk'
   have hk' : (knM (valT ts) (decide (o = -1)) (p++[i]) w).map (o :: ·)=some r:=hk'
   obtain ⟨u,hu,_,hul,hut,hov⟩:=valT_of hV
   have ho:o=(nextM M (aftM M 0 p) i).2:=by
    rw [hov,h u hu]
    have e1:u.1=(p++[i])++u.1.drop (p++[i]).length:=by
     have e2:=List.take_append_drop (p++[i]).length u.1
     rw [hut] at e2; exact e2.symm
    rw [e1,List.append_assoc,runM_app]
    have e3:(runM M 0 p).length=p.length:=runM_len _ _
    rw [List.getD_eq_getElem?_getD,List.getElem?_append_right (by rw [e3]; simp),e3]
    simp [runM]
   cases hq:knM (valT ts) (decide (o = -1)) (p++[i]) w with
   | none=>rw [hq] at hk'; cases hk'
   | some q =>
    rw [hq] at hk'
    have hr:o :: q=r:=by injection hk'
    have ea:aftM M 0 (p++[i])=(nextM M (aftM M 0 p) i).1:=by rw [aftM_app]; rfl
    have ih:=kn_run hM h w (p++[i]) q (decide (o = -1)) (by rw [ea]; exact he.1) hw.2 (fun hd=>by rw [ea]; exact he.2.2.2 (ho ▸ of_decide_eq_true hd)) hq
    rw [← hr,ih,ea,ho]
    rfl
theorem kn_own {O:Int} {ts:List (List Int×List Int)} (hc:Cons ts) {t:List Int×List Int} (ht:t∈ts) (hl:t.2.length=t.1.length) : ∀ (m k:Nat) (d:Bool),m=t.1.length - k→k≤t.1.length→okR O d (t.2.drop k)=true→knM (valT ts) d (t.1.take k) (t.1.drop k)=some (t.2.drop k)
 | 0,k,d,hm,hk,_=>by
  rw [List.drop_eq_nil_of_le (by omega),List.drop_eq_nil_of_le (by omega),knM_nil]
 | m+1,k,d,hm,hk,ho=>by
  have hk1:k < t.1.length:=by omega
  have hk2:k < t.2.length:=by omega
  rw [List.drop_eq_getElem_cons hk1,List.drop_eq_getElem_cons hk2]
  rw [List.drop_eq_getElem_cons hk2] at ho
  obtain ⟨_,_,h3,h4⟩:=okR_inv ho
  have ih:=kn_own hc ht hl m (k+1) _ (by omega) (by omega) h4
  rw [take_snoc hk1] at ih
  have hv:=valT_mem hc ht hk1
  rw [take_snoc hk1,List.getD_eq_getElem?_getD,List.getElem?_eq_getElem hk2] at hv
  cases d with
  | true =>
   have e:=h3 rfl
   rw [e] at ih ⊢
   show (knM (valT ts) true (t.1.take k++[t.1[k]]) (t.1.drop (k+1))).map (-1 :: ·)=_
   rw [show decide ((-1:Int) = -1)=true from rfl] at ih
   rw [ih]; rfl
  | false =>
   show (match valT ts (t.1.take k++[t.1[k]]) with
    | none=>none
    | some o=>(knM (valT ts) (decide (o = -1)) (t.1.take k++[t.1[k]]) (t.1.drop (k+1))).map (o :: ·))=_
   rw [hv]
   show (knM (valT ts) (decide (t.2[k] = -1)) (t.1.take k++[t.1[k]]) (t.1.drop (k+1))).map (t.2[k] :: ·)=_
   rw [ih]; rfl
theorem kn_own' {I O:Int} {ts:List (List Int×List Int)} (hc:Cons ts) {t:List Int×List Int} (ht:t∈ts) (hv:validB I O t=true) : knM (valT ts) false [] t.1=some t.2:=by
 unfold validB at hv
 rw [Bool.and_eq_true,Bool.and_eq_true] at hv
 have h:=kn_own (O:=O) hc ht (of_decide_eq_true hv.1.1) _ 0 false rfl (Nat.zero_le _) hv.2
 simpa using h
end Go.Ai
end
section
namespace Go.Ai
open Go.Proofs
set_option maxRecDepth 10000
set_option maxHeartbeats 40000000
theorem okT_of {I O:Int} {T:List (List (Int×Int))} (h:goT I O T 0 1=some T.length) : ∀ r∈T,(r.length:Int)=I∧∀ e∈r,e.1 = -1∨(0≤e.1∧e.1 < T.length):=by
 intro r hr
 obtain ⟨h1,h2⟩:=goT_ok h (Nat.le_refl _) (Nat.le_refl _) r hr
 refine ⟨h1,fun e he=>?_⟩
 have h3:=h2 e he
 unfold okE at h3
 rw [Bool.or_eq_true,decide_eq_true_eq,decide_eq_true_eq] at h3
 omega
def AnsV (g:Nat→Option Blk) (lo n:Nat) (r:Option (List Int)) (rv:AV) : Prop:=match r with
 | none=>rv=.lit (.slice none 0 0)
 | some r=>∃ B,lo≤B∧B < n∧rv=.sl B 0 r.length r.length∧g B=some (.cells (wdC r) true 0)
theorem ansM_step {T:List (List (Int×Int))} {a:Nat} {i:Nat} {w:List Int} (ha:a < T.length) (hi:i < (T[a]).length) : ansM T ((a:Nat) : Int) ((i:Int) :: w)=if (T[a][i]).1 = -1 then (if (T[a][i]).2 = -2 then some (List.replicate (w.length+1) (-1)) else none) else (ansM T (T[a][i]).1 w).map ((T[a][i]).2 :: ·):=by
 have e:(T.getD ((a:Nat) : Int).toNat []).getD ((i:Nat) : Int).toNat (-1,-1)=T[a][i]:=by
  rw [Int.toNat_natCast,Int.toNat_natCast,List.getD_eq_getElem?_getD,List.getD_eq_getElem?_getD,List.getElem?_eq_getElem ha]
  simp [hi]
 rw [ansM,e]
theorem Answer_w {I:Nat} {O:Int} {T:List (List (Int×Int))} (hI1:1≤I) (hI2:I≤16) (hO1:1≤O) (hO2:O≤16) (h0:0 < T.length) (hl:T.length≤65537) (hgo:goT I O T 0 1=some T.length) {w:List Int} (hw:inW w I=true) (hwl:w.length≤256) (g:Nat→Option Blk) (n:Nat) (tv wv:AV) (hT:TreeV g n T tv) (hW:RepW g n w wv) :
  WC 3 Tryz.prog 30 [.agg [.lit (.int .i64 I),.lit (.int .i64 O),tv],wv] ⟨.fn g,n⟩ fun r=>∃ g' n' rv,r=.ret (.tup [rv,.lit (.bool (ansM T 0 w).isSome),.lit (.int .i64 0)]) ⟨.fn g',n'⟩∧n≤n'∧(∀ b,b < n→g' b=g b)∧AnsV g' n n' (ansM T 0 w) rv:=by
 have hlen:=@lenV Tryz.prog _ _ _ _ _ hW
 have h1t:=hT.choose_spec.1.one
 have hone:allOne [.lit (.int .i64 I),.lit (.int .i64 O),tv]=true:=by simp [h1t]
 have HOK:=Hide.mk (okT_of hgo)
 have HCK:=Hide.mk fun (gX:Nat→Option Blk) (n2:Nat) (hn:n≤n2) (hX:∀ b,b < n→gX b=g b)=>check_tree hI1 hI2 hO1 hO2 h0 hl hgo (fun r hr=>by have:=(okT_of hgo r hr).1; omega) gX n2 tv (hT.mono hn hX)
 have HWE:=Hide.mk fun (gX:Nat→Option Blk) (n2:Nat) (hn:n≤n2) (hX:∀ b,b < n→gX b=g b)=>wCheck_w w (by omega) I gX n2 wv (SliceV.mono hn hX hW)
 rw [wErr_ok (by omega) (by omega) hwl hw] at HWE
 have HT:=Hide.mk hT
 have HW:=Hide.mk hW
 have HWI:=Hide.mk hw
 clear hT hW hw hgo
 obtain ⟨RES,hRES⟩ : ∃ x,x=ansM T 0 w:=⟨_,rfl⟩
 rw [← hRES]
 have HR:=Hide.mk hRES
 clear hRES
 have hW2:(w.length:Int)≤1048576:=by omega
 refine WC.enterP (noO_ok _ _) hG [] Tryz.func30 rfl (by decide +kernel) (Nat.le_of_ble_eq_true (by kernel_rfl)) ?_
 iterate 8 (all_goals try (first | with_reducible refine splitI (fun h=>?_) (fun h=>?_) | with_reducible refine splitBI (fun h=>?_) (fun h=>?_) | simp (config:={ maxSteps:=1000000 }) (disch:=first | assumption | omega | (simp; done) | fail) [Tryz.results30, *]))
 refine WC.mono (HCK.out _ _ (by omega) fun b hb=>gput_lt hb) ?_
 rintro _ rfl
 iterate 8 (all_goals try (first | with_reducible refine splitI (fun h=>?_) (fun h=>?_) | with_reducible refine splitBI (fun h=>?_) (fun h=>?_) | simp (config:={ maxSteps:=1000000 }) (disch:=first | assumption | omega | (simp; done) | fail) [Tryz.results30, *]))
 refine WC.mono (HWE.out _ _ (by omega) fun b hb=>gput_lt hb) ?_
 rintro _ rfl
 iterate 8 (all_goals try (first | with_reducible refine splitI (fun h=>?_) (fun h=>?_) | with_reducible refine splitBI (fun h=>?_) (fun h=>?_) | simp (config:={ maxSteps:=1000000 }) (disch:=first | assumption | omega | (simp; done) | fail) [Tryz.results30, *]))
 refine LX.ind (fun m gf H'=>∃ (k a n2:Nat) (gL:Nat→Option Blk) (Lo:List AV) (r:List Int),k≤w.length∧m=w.length - k∧H'=⟨.fn gL,n2⟩∧n+1+1≤n2∧a < T.length∧Hide (∀ b,b < n→gL b=g b)∧gL n=some (.cells [.lit (.int .i64 I),.lit (.int .i64 O),tv] true 0)∧gL (n+1)=some (.cells Lo true 0)∧Lo.length=w.length∧Hide (Lo.take k=wdC r)∧Hide (r.length=k)∧Hide (RES=(ansM T ((a:Nat) : Int) (w.drop k)).map (r ++ ·)) ∧
  gf 1=some wv∧gf 2=some (.ptr n 0)∧gf 9=some (.sl (n+1) 0 k w.length)∧gf 10=some (.lit (.int .i64 ((a:Nat) : Int)))∧gf 29=some wv∧gf 30=some (.lit (.int .i64 w.length))∧gf 31=some (.lit (.int .i64 k))) (m0:=w.length) ?_ ?_
 ·refine ⟨0,0,_,_,_,[],Nat.zero_le _,rfl,rfl,Nat.le_refl _,h0,⟨fun b hb=>?_⟩,?_,gput_eq,?_,⟨rfl⟩,⟨rfl⟩,⟨?_⟩,by simp,by simp,by simp,by simp,by simp,by simp,by simp⟩
  ·simp (disch:=omega) only [gput_lt]
  ·simp (disch:=omega) only [gput_lt,gput_eq]
  ·rw [rep_len]; simp
  ·rw [HR.out]
   show ansM T 0 w=(ansM T 0 w).map fun x=>x
   cases ansM T 0 w <;> rfl
 clear HCK HWE HR hlen
 rintro m gf H' ⟨k,a,n2,gL,Lo,r,hk,rfl,rfl,hn2,ha,HG,hgn,hgo,hLo,HLo,HRL,HRE,w1,w2,w9,w10,w29,w30,w31⟩ ih
 refine LX.roundP (noO_ok _ _) hG [] (by decide +kernel) ?_
 by_cases hlt:k < w.length
 ·have hltI:(k:Int) < (w.length:Int):=by omega
  obtain ⟨a1,o1,ha1,hia1,hc1⟩:=RepW.at (SliceV.mono (show n≤n2 by omega) HG.out HW.out) hlt
  obtain ⟨a2,o2,q,ha2,hia2,hc2,hq⟩:=(HT.out.mono (show n≤n2 by omega) HG.out).at ha
  have hir:0≤w[k]∧w[k] < (I:Int):=by
   have h1:=HWI.out
   unfold inW at h1
   rw [List.all_eq_true] at h1
   exact of_decide_eq_true (h1 _ (List.getElem_mem hlt))
  have HDR:Hide (w.drop k=w[k] :: w.drop (k+1)):=⟨List.drop_eq_getElem_cons hlt⟩
  have HO1:=Hide.mk (HOK.out _ (List.getElem_mem ha))
  generalize w[k]=i at *
  obtain ⟨j,rfl⟩ : ∃ j:Nat,i=j:=⟨i.toNat,by omega⟩
  have hj:j < (T[a]).length:=by have:=HO1.out.1; omega
  obtain ⟨a3,o3,ha3,hia3,hc3⟩:=edge_at hq hj
  have HE1:=Hide.mk (HO1.out.2 _ (List.getElem_mem hj))
  have HST:Hide (RES=(if (T[a][j]).1 = -1 then (if (T[a][j]).2 = -2 then some (List.replicate (w.length - k) (-1)) else none) else (ansM T (T[a][j]).1 (w.drop (k+1))).map ((T[a][j]).2 :: ·)).map (r ++ ·)):=⟨by
   rw [HRE.out,HDR.out,ansM_step ha hj,List.length_drop,show w.length - (k+1)+1=w.length - k by omega]⟩
  clear HRE hq
  generalize T[a][j]=e at *
  obtain ⟨to,out⟩:=e
  dsimp only at HST HE1 hc3
  by_cases ht:to = -1
  ·rw [if_pos ht] at HST
   subst ht
   by_cases ho:out = -2
   ·rw [if_pos ho] at HST
    subst ho
    have HSR:Hide (RES=some (r++List.replicate (w.length - k) (-1))):=⟨HST.out⟩
    have hlenW:=@lenV Tryz.prog _ _ _ _ _ HW.out
    clear HST HE1
    iterate 8 (all_goals try (first | with_reducible refine splitI (fun h=>?_) (fun h=>?_) | with_reducible refine splitBI (fun h=>?_) (fun h=>?_) | simp (config:={ maxSteps:=1000000 }) (disch:=first | assumption | omega | (simp; done) | fail) [Tryz.results30, *]))
    clear hc1 hc2 hc3 hia1 hia2 hia3
    refine LX.ind (fun m gf H'=>∃ (j n3:Nat) (gI:Nat→Option Blk) (Lo:List AV),k≤j∧j≤w.length∧m=w.length - j∧H'=⟨.fn gI,n3⟩∧n2≤n3∧Hide (∀ b,b < n→gI b=gL b)∧gI (n+1)=some (.cells Lo true 0)∧Lo.length=w.length∧Hide (Lo.take j=wdC (r++List.replicate (j - k) (-1))) ∧
     gf 1=some wv∧gf 9=some (.sl (n+1) 0 j w.length)) (m0:=w.length - k) ?_ ?_
    ·refine ⟨k,_,_,Lo,Nat.le_refl _,hk,rfl,rfl,Nat.le_succ _,⟨fun b hb=>gput_lt (by omega)⟩,(gput_lt (by omega)).trans hgo,hLo,⟨by rw [HLo.out]; simp⟩,by simp [*],by simp [*]⟩
    clear HLo hLo hgo hgn w1 w2 w9 w10 w29 w30 w31
    rintro m gf H' ⟨j,n3,gI,Lo,hkj,hj2,rfl,rfl,hn3,HGI,hgo,hLo,HLo,v1,v9⟩ ih2
    refine LX.roundP (noO_ok _ _) hG [] (by decide +kernel) ?_
    by_cases hlt2:j < w.length
    ·have hlt2I:(j:Int) < (w.length:Int):=by omega
     have hLk:j+([.lit (.int .i64 (-1))] : List AV).length≤Lo.length:=by simp; omega
     have HPL:Hide ((putR Lo j [.lit (.int .i64 (-1))]).length=w.length∧(putR Lo j [.lit (.int .i64 (-1))]).take (j+1)=wdC (r++List.replicate (j+1 - k) (-1))):=⟨by
      refine ⟨by rw [putR_len hLk]; exact hLo,?_⟩
      have h1:=putR_take hLk
      rw [HLo.out] at h1
      rw [show j+1 - k=(j - k)+1 by omega,List.replicate_succ']
      exact h1.trans (by simp [wdC])⟩
     iterate 8 (all_goals try (first | with_reducible refine splitI (fun h=>?_) (fun h=>?_) | with_reducible refine splitBI (fun h=>?_) (fun h=>?_) | simp (config:={ maxSteps:=1000000 }) (disch:=first | assumption | omega | (simp; done) | fail) [Tryz.results30, *]))
     refine ih2.out (w.length - (j+1)) _ _ (by omega) ⟨j+1,_,_,putR Lo j [.lit (.int .i64 (-1))],by omega,by omega,rfl,rfl,by omega,⟨fun b hb=>?_⟩,?_,HPL.out.1,⟨HPL.out.2⟩,by simp [*],by simp⟩
     ·simp (disch:=omega) only [gput_lt,gput_ne]; exact HGI.out b hb
     ·simp (disch:=omega) only [gput_lt,gput_ne,gput_eq]
    ·have hlt2I:¬(j:Int) < (w.length:Int):=by omega
     have hjw:j=w.length:=by omega
     have hRS:=HSR.out
     subst hRS
     iterate 8 (all_goals try (first | with_reducible refine splitI (fun h=>?_) (fun h=>?_) | with_reducible refine splitBI (fun h=>?_) (fun h=>?_) | simp (config:={ maxSteps:=1000000 }) (disch:=first | assumption | omega | (simp; done) | fail) [Tryz.results30, *]))
     refine ⟨_,_,_,⟨rfl,rfl,rfl⟩,by omega,fun b hb=>(HGI.out b hb).trans (HG.out b hb),n+1,by omega,by omega,?_,?_⟩
     ·rw [List.length_append,List.length_replicate,HRL.out,show k+(w.length - k)=w.length by omega]
     ·rw [hgo,← hjw,← HLo.out,List.take_of_length_le (by omega)]
   ·rw [if_neg ho] at HST
    have hRN:RES=none:=HST.out
    subst hRN
    iterate 8 (all_goals try (first | with_reducible refine splitI (fun h=>?_) (fun h=>?_) | with_reducible refine splitBI (fun h=>?_) (fun h=>?_) | simp (config:={ maxSteps:=1000000 }) (disch:=first | assumption | omega | (simp; done) | fail) [Tryz.results30, *]))
    exact ⟨_,_,_,⟨rfl,rfl,rfl⟩,by omega,fun b hb=>(gput_lt (by omega)).trans (HG.out b hb),rfl⟩
  ·rw [if_neg ht] at HST
   obtain ⟨t,rfl⟩ : ∃ t:Nat,to=t:=⟨to.toNat,by have:=HE1.out; omega⟩
   have hLk:k+([.lit (.int .i64 out)] : List AV).length≤Lo.length:=by simp; omega
   have HPL:Hide ((putR Lo k [.lit (.int .i64 out)]).length=w.length∧(putR Lo k [.lit (.int .i64 out)]).take (k+1)=wdC (r++[out])):=⟨by
    refine ⟨by rw [putR_len hLk]; exact hLo,?_⟩
    have h1:=putR_take hLk
    rw [HLo.out] at h1
    exact h1.trans (by simp [wdC])⟩
   have htl:t < T.length:=by have:=HE1.out; omega
   iterate 8 (all_goals try (first | with_reducible refine splitI (fun h=>?_) (fun h=>?_) | with_reducible refine splitBI (fun h=>?_) (fun h=>?_) | simp (config:={ maxSteps:=1000000 }) (disch:=first | assumption | omega | (simp; done) | fail) [Tryz.results30, *]))
   refine ih.out (w.length - (k+1)) _ _ (by omega) ⟨k+1,t,_,_,putR Lo k [.lit (.int .i64 out)],r++[out],by omega,rfl,rfl,by omega,htl,⟨fun b hb=>?_⟩,?_,?_,HPL.out.1,⟨HPL.out.2⟩,⟨by simp [HRL.out]⟩,⟨?_⟩,by simp [*],by simp [*],by simp [*],by simp [*],by simp [*],by simp [*],by simp⟩
   ·simp (disch:=omega) only [gput_lt,gput_ne]; exact HG.out b hb
   ·simp (disch:=omega) only [gput_lt,gput_ne]; exact hgn
   ·simp (disch:=omega) only [gput_lt,gput_ne,gput_eq]
   ·rw [HST.out]
    cases ansM T (t:Int) (w.drop (k+1)) <;> simp
 ·have hltI:¬(k:Int) < (w.length:Int):=by omega
  have hkw:k=w.length:=by omega
  have hRS:RES=some r:=by rw [HRE.out,List.drop_eq_nil_of_le (by omega)]; simp [ansM]
  subst hRS
  iterate 8 (all_goals try (first | with_reducible refine splitI (fun h=>?_) (fun h=>?_) | with_reducible refine splitBI (fun h=>?_) (fun h=>?_) | simp (config:={ maxSteps:=1000000 }) (disch:=first | assumption | omega | (simp; done) | fail) [Tryz.results30, *]))
  refine ⟨_,_,_,⟨rfl,rfl,rfl⟩,by omega,fun b hb=>HG.out b hb,n+1,by omega,by omega,?_,?_⟩
  ·rw [HRL.out,hkw]
  ·rw [hgo,← HLo.out,List.take_of_length_le (by omega)]
end Go.Ai
end
section
namespace Go.Ai
open Go.Proofs
set_option maxRecDepth 10000
set_option maxHeartbeats 40000000
theorem knM_step {V:List Int→Option Int} {d:Bool} {w:List Int} {k:Nat} (hk:k < w.length) : knM V d (w.take k) (w.drop k)=if d=true then (knM V true (w.take (k+1)) (w.drop (k+1))).map (-1 :: ·) else match V (w.take (k+1)) with
  | none=>none
  | some o=>(knM V (decide (o = -1)) (w.take (k+1)) (w.drop (k+1))).map (o :: ·):=by
 rw [List.drop_eq_getElem_cons hk,take_snoc hk]
 cases d <;> rfl
theorem rKnown_w {I O:Int} {ts:List (List Int×List Int)} (hS:SmallL ts) (hL2:∀ t∈ts,t.2.length=t.1.length) {w:List Int} (hwl:w.length≤256) (g:Nat→Option Blk) (n:Nat) (sv wv:AV) (hT:LogX g n ts sv) (hW:RepW g n w wv) (hcw:CapV wv) :
  WC 3 Tryz.prog 31 [.agg [.lit (.int .i64 I),.lit (.int .i64 O),sv],wv] ⟨.fn g,n⟩ fun r=>∃ g' n' rv,r=.ret (.tup [rv,.lit (.bool (knM (valT ts) false [] w).isSome)]) ⟨.fn g',n'⟩∧n≤n'∧(∀ b,b < n→g' b=g b)∧RepW g' n' ((knM (valT ts) false [] w).getD []) rv:=by
 have hlen:=@lenV Tryz.prog _ _ _ _ _ hW
 have h1s:=hT.choose_spec.1.one
 have hone:allOne [.lit (.int .i64 I),.lit (.int .i64 O),sv]=true:=by simp [h1s]
 have HLA:=Hide.mk fun (v:List Int) (h0:0 < v.length) (hw:v.length≤1000) (gX:Nat→Option Blk) (n2:Nat) (vv:AV) (hn:n≤n2) (hX:∀ b,b < n→gX b=g b) (hV:RepW gX n2 v vv)=>last_w (I:=I) (O:=O) hS hL2 h0 hw gX n2 sv vv (hT.mono hn hX) hV
 have HW:=Hide.mk hW
 have HCW:=Hide.mk hcw
 clear hT hW hS hL2 hcw
 generalize valT ts=V at *
 obtain ⟨RES,hRES⟩ : ∃ x,x=knM V false [] w:=⟨_,rfl⟩
 rw [← hRES]
 have HR:=Hide.mk hRES
 clear hRES
 refine WC.enterP (noO_ok _ _) hG pl31 Tryz.func31 rfl (by decide +kernel) (Nat.le_of_ble_eq_true (by kernel_rfl)) ?_
 iterate 8 (all_goals try (first | with_reducible refine splitI (fun h=>?_) (fun h=>?_) | with_reducible refine splitBI (fun h=>?_) (fun h=>?_) | simp (config:={ maxSteps:=1000000 }) (disch:=first | assumption | omega | (simp; done) | fail) [Tryz.results31, *]))
 refine LX.ind (fun m gf H'=>∃ (k n2 B:Nat) (gL:Nat→Option Blk) (ov:AV) (r:List Int),k≤w.length∧m=w.length - k∧H'=⟨.fn gL,n2⟩∧n+1≤n2∧Hide (∀ b,b < n→gL b=g b)∧gL n=some (.cells [.lit (.int .i64 I),.lit (.int .i64 O),sv] true 0)∧r.length=k∧Hide (GrowV gL (n+1) n2 B ov k 1 (wdC r))∧Hide (RES=(knM V (decide (0 < k∧r.getD (k - 1) 0 = -1)) (w.take k) (w.drop k)).map (r ++ ·)) ∧
  gf 1=some wv∧gf 2=some (.ptr n 0)∧gf 6=some ov∧gf 7=some (.lit (.int .i64 k))) (m0:=w.length) ?_ ?_
 ·refine ⟨0,_,0,_,_,[],Nat.zero_le _,rfl,rfl,Nat.le_refl _,⟨fun b hb=>gput_lt hb⟩,gput_eq,rfl,⟨.inl ⟨rfl,rfl,rfl⟩⟩,⟨?_⟩,by simp,by simp,by simp,by simp⟩
  rw [HR.out]
  show knM V false [] w=(knM V false [] w).map fun x=>x
  cases knM V false [] w <;> rfl
 clear HR
 rintro m gf H' ⟨k,n2,B,gL,ov,r,hk,rfl,rfl,hn2,HG,hgn,hrl,HGR,HRE,w1,w2,w6,w7⟩ ih
 refine LX.roundP (noO_ok _ _) hG pl31 (by decide +kernel) ?_
 by_cases hlt:k < w.length
 ·have hltI:(k:Int) < (w.length:Int):=by omega
  obtain ⟨cut,hcut,hcv⟩:=SliceV.cut HW.out HCW.out el57 (k:=k+1) (sz:=1) (by omega) (by omega)
  rw [show ((k+1:Nat) : Int)=(k:Int)+1 by omega] at hcut
  have htl:(w.take (k+1)).length=k+1:=by rw [List.length_take]; omega
  have hcv2:RepW g n (w.take (k+1)) cut:=by
   unfold RepW
   rw [htl,show wdC (w.take (k+1))=(wdC w).take ((k+1) * 1) by simp [wdC]]
   exact hcv
  have HLT:=Hide.mk fun (gX:Nat→Option Blk) (n3:Nat) (hn:n2≤n3) (hX:∀ b,b < n→gX b=g b)=>HLA.out (w.take (k+1)) (by omega) (by omega) gX n3 cut (by omega) hX (SliceV.mono (by omega) hX hcv2)
  have HST:Hide (RES=(if decide (0 < k∧r.getD (k - 1) 0 = -1)=true then (knM V true (w.take (k+1)) (w.drop (k+1))).map (-1 :: ·) else match V (w.take (k+1)) with
   | none=>none
   | some o=>(knM V (decide (o = -1)) (w.take (k+1)) (w.drop (k+1))).map (o :: ·)).map (r ++ ·)):=⟨by rw [HRE.out,knM_step hlt]⟩
  have HGL:∀ x:Int,Hide ((wdC r++[(.lit (.int .i64 x) : AV)]).length=(k+1) * 1):=fun x=>⟨by rw [List.length_append,wdC_len]; simp; omega⟩
  have HSN:∀ x:Int,Hide (wdC r++[.lit (.int .i64 x)]=wdC (r++[x])):=fun x=>⟨(wdC_snoc r x).symm⟩
  have HGD:Hide (∀ x:Int,decide (0 < k+1∧(r++[x]).getD (k+1 - 1) 0 = -1)=decide (x = -1)):=⟨fun x=>by
   have:(r++[x]).getD (k+1 - 1) 0=x:=by rw [List.getD_eq_getElem?_getD,Nat.add_sub_cancel,List.getElem?_append_right (by omega)]; simp [hrl]
   rw [this]; simp⟩
  clear hcv hcv2 HRE
  by_cases h0:k=0
  ·subst h0
   have hr0:r=[]:=List.eq_nil_of_length_eq_zero hrl
   subst hr0
   rw [if_neg (by simp)] at HST
   have hov:ov=.lit (.slice none 0 0):=by
    rcases HGR.out with ⟨_,_,h⟩ | ⟨h,_⟩
    ·exact h
    ·exact absurd h (by omega)
   subst hov
   have w7' : gf 7=some (.lit (.int .i64 0)):=w7
   have hltI' : (0:Int) < (w.length:Int):=hltI
   rw [show ((0:Nat) : Int)+1=1 from rfl] at hcut
   clear w7 hltI hk hrl
   iterate 8 (all_goals try (first | with_reducible refine splitI (fun h=>?_) (fun h=>?_) | with_reducible refine splitBI (fun h=>?_) (fun h=>?_) | simp (config:={ maxSteps:=1000000 }) (disch:=first | assumption | omega | (simp; done) | fail) [Tryz.results31, *]))
   refine WC.mono (HLT.out _ _ (by omega) fun b hb=>HG.out b hb) ?_
   rintro _ ⟨g3,rfl,hg3⟩
   have HG3:=Hide.mk hg3
   clear hg3
   generalize V (w.take (0+1))=vo at *
   cases vo with
   | none =>
    have hRN:RES=none:=HST.out
    subst hRN
    simp only [lastV]
    iterate 8 (all_goals try (first | with_reducible refine splitI (fun h=>?_) (fun h=>?_) | with_reducible refine splitBI (fun h=>?_) (fun h=>?_) | simp (config:={ maxSteps:=1000000 }) (disch:=first | assumption | omega | (simp; done) | fail) [Tryz.results31, *]))
    exact ⟨_,_,_,⟨rfl,rfl,rfl⟩,by omega,fun b hb=>(HG3.out b (by omega)).trans (HG.out b hb),.inl ⟨rfl,rfl,.inl rfl⟩⟩
   | some o =>
    have HST2:Hide (RES=((knM V (decide (o = -1)) (w.take (0+1)) (w.drop (0+1))).map (o :: ·)).map (([] : List Int) ++ ·)):=⟨HST.out⟩
    clear HST
    simp only [lastV]
    iterate 8 (all_goals try (first | with_reducible refine splitI (fun h=>?_) (fun h=>?_) | with_reducible refine splitBI (fun h=>?_) (fun h=>?_) | simp (config:={ maxSteps:=1000000 }) (disch:=first | assumption | omega | (simp; done) | fail) [Tryz.results31, *]))
    refine ih.out (w.length - (0+1)) _ _ (by omega) ⟨0+1,_,n2+1+1,_,.slq (n2+1+1) 0 (0+1) 0,[o],by omega,rfl,rfl,by omega,⟨fun b hb=>?_⟩,?_,rfl,⟨.mk gput_eq (by omega) (by omega) rfl⟩,⟨?_⟩,by simp [*],by simp [*],by simp,by simp⟩
    ·simp (disch:=omega) only [gput_lt]; exact (HG3.out b (by omega)).trans (HG.out b hb)
    ·simp (disch:=omega) only [gput_lt]; exact (HG3.out n (by omega)).trans hgn
    ·have h3:=HGD.out o
     rw [List.nil_append] at h3
     rw [HST2.out,h3]
     cases knM V (decide (o = -1)) (w.take (0+1)) (w.drop (0+1)) <;> rfl
  ·have hk0:0 < k:=by omega
   obtain ⟨a3,o3,ha3,hia3,hc3⟩:=RepW.at (GrowV.word HGR.out hrl.symm) (by omega:k - 1 < r.length)
   rw [show ((k - 1:Nat) : Int)=(k:Int) - 1 by omega] at hia3
   have hkI:(0:Int) < (k:Int):=by omega
   have hge1:r.getD (k - 1) 0=r[k - 1]:=by rw [List.getD_eq_getElem?_getD,List.getElem?_eq_getElem]; rfl
   rw [hge1] at HST
   clear hge1
   obtain ⟨_,_,_⟩ | ⟨hk1,hs0,hB1,hB2,hB3,hB4⟩:=HGR.out
   ·omega
   subst hs0
   have hcell:=hB3
   generalize r[k - 1]=x at *
   have hk1I:(0:Int)≤(k:Int) - 1:=by omega
   by_cases hx:x = -1
   ·subst hx
    rw [if_pos (by simp [hk0])] at HST
    iterate 8 (all_goals try (first | with_reducible refine splitI (fun h=>?_) (fun h=>?_) | with_reducible refine splitBI (fun h=>?_) (fun h=>?_) | simp (config:={ maxSteps:=1000000 }) (disch:=first | assumption | omega | (simp; done) | fail) [Tryz.results31, *]))
    refine ih.out (w.length - (k+1)) _ _ (by omega) ⟨k+1,_,n2+1,_,.slq (n2+1) 0 (k+1) 0,r++[-1],by omega,rfl,rfl,by omega,⟨fun b hb=>?_⟩,?_,by simp [hrl],⟨?_⟩,⟨?_⟩,by simp [*],by simp [*],by simp,by simp⟩
    ·simp (disch:=omega) only [gput_lt,gput_ne]; exact HG.out b hb
    ·simp (disch:=omega) only [gput_lt,gput_ne]; exact hgn
    ·rw [← (HSN (-1)).out]; exact .mk gput_eq (by omega) (by omega) (HGL (-1)).out
    ·rw [HST.out,HGD.out (-1),decide_eq_true rfl]
     cases knM V true (w.take (k+1)) (w.drop (k+1)) <;> simp
   ·rw [if_neg (by simp [hx])] at HST
    iterate 8 (all_goals try (first | with_reducible refine splitI (fun h=>?_) (fun h=>?_) | with_reducible refine splitBI (fun h=>?_) (fun h=>?_) | simp (config:={ maxSteps:=1000000 }) (disch:=first | assumption | omega | (simp; done) | fail) [Tryz.results31, *]))
    refine WC.mono (HLT.out _ _ (by omega) fun b hb=>HG.out b hb) ?_
    rintro _ ⟨g3,rfl,hg3⟩
    have HG3:=Hide.mk hg3
    clear hg3
    generalize V (w.take (k+1))=vo at *
    cases vo with
    | none =>
     have hRN:RES=none:=HST.out
     subst hRN
     simp only [lastV]
     iterate 8 (all_goals try (first | with_reducible refine splitI (fun h=>?_) (fun h=>?_) | with_reducible refine splitBI (fun h=>?_) (fun h=>?_) | simp (config:={ maxSteps:=1000000 }) (disch:=first | assumption | omega | (simp; done) | fail) [Tryz.results31, *]))
     exact ⟨_,_,_,⟨rfl,rfl,rfl⟩,by omega,fun b hb=>(HG3.out b (by omega)).trans (HG.out b hb),.inl ⟨rfl,rfl,.inl rfl⟩⟩
    | some o =>
     have HST2:Hide (RES=((knM V (decide (o = -1)) (w.take (k+1)) (w.drop (k+1))).map (o :: ·)).map (r ++ ·)):=⟨HST.out⟩
     clear HST
     have hB5:g3 B=some (.cells (wdC r) true 1):=(HG3.out B (by omega)).trans hB3
     clear hB3 hcell hc3 hia3
     simp only [lastV]
     iterate 8 (all_goals try (first | with_reducible refine splitI (fun h=>?_) (fun h=>?_) | with_reducible refine splitBI (fun h=>?_) (fun h=>?_) | simp (config:={ maxSteps:=1000000 }) (disch:=first | assumption | omega | (simp; done) | fail) [Tryz.results31, *]))
     refine ih.out (w.length - (k+1)) _ _ (by omega) ⟨k+1,_,n2+1+1,_,.slq (n2+1+1) 0 (k+1) 0,r++[o],by omega,rfl,rfl,by omega,⟨fun b hb=>?_⟩,?_,by simp [hrl],⟨?_⟩,⟨?_⟩,by simp [*],by simp [*],by simp,by simp⟩
     ·simp (disch:=omega) only [gput_lt,gput_ne]; exact (HG3.out b (by omega)).trans (HG.out b hb)
     ·simp (disch:=omega) only [gput_lt,gput_ne]; exact (HG3.out n (by omega)).trans hgn
     ·rw [← (HSN o).out]; exact .mk gput_eq (by omega) (by omega) (HGL o).out
     ·rw [HST2.out,HGD.out o]
      cases knM V (decide (o = -1)) (w.take (k+1)) (w.drop (k+1)) <;> simp
 ·have hltI:¬(k:Int) < (w.length:Int):=by omega
  have hRS:RES=some r:=by rw [HRE.out,List.drop_eq_nil_of_le (by omega),knM_nil]; simp
  subst hRS
  iterate 8 (all_goals try (first | with_reducible refine splitI (fun h=>?_) (fun h=>?_) | with_reducible refine splitBI (fun h=>?_) (fun h=>?_) | simp (config:={ maxSteps:=1000000 }) (disch:=first | assumption | omega | (simp; done) | fail) [Tryz.results31, *]))
  exact ⟨_,_,_,⟨rfl,rfl,rfl⟩,by omega,HG.out,GrowV.word HGR.out hrl.symm⟩
end Go.Ai
end
section
namespace Go.Ai
open Go.Proofs
set_option maxRecDepth 10000
set_option maxHeartbeats 40000000
theorem capV_grow {g:Nat→Option Blk} {lo n B len sz:Nat} {sv:AV} {cs:List AV} (h:GrowV g lo n B sv len sz cs) : CapV sv:=by
 intro a o k c e
 rcases h with ⟨_,_,h3⟩ | ⟨_,h3,_⟩
 ·rw [h3] at e; cases e
 ·rw [h3] at e; cases e
def FreshC (g:Nat→Option Blk) (lo n:Nat) (w:List Int) (sv:AV) : Prop:=FreshW g lo n w sv∧CapV sv
def LogC (g:Nat→Option Blk) (lo n B:Nat) (ts:List (List Int×List Int)) (sv:AV) : Prop:=∃ cs,GrowV g lo n B sv ts.length 2 cs∧RowsF g lo n B ts cs∧∀ v∈cs,CapV v
theorem LogC.logF {g:Nat→Option Blk} {lo n B:Nat} {ts:List (List Int×List Int)} {sv:AV} (h:LogC g lo n B ts sv) : LogF g lo n B ts sv:=let ⟨cs,h1,h2,_⟩:=h; ⟨cs,h1,h2⟩
theorem LogC.one {g:Nat→Option Blk} {lo n B:Nat} {ts:List (List Int×List Int)} {sv:AV} (h:LogC g lo n B ts sv) : oneC sv=true:=h.logF.one
theorem LogC.logX {g:Nat→Option Blk} {lo n B:Nat} {ts:List (List Int×List Int)} {sv:AV} (h:LogC g lo n B ts sv) : LogX g n ts sv:=by
 obtain ⟨cs,h1,h2,h3⟩:=h
 refine ⟨cs,SliceV.ext (Nat.le_refl _) (fun a x _ hx=>?_) h1.slice,h2.rows,h3⟩
 split at hx
 ·exact hx
 ·cases hx
theorem LogC.keep {g g' : Nat→Option Blk} {lo lo' n n' B:Nat} {ts:List (List Int×List Int)} {sv:AV} (h:LogC g lo n B ts sv) (h0:lo'≤lo) (h2:n≤n') (hg:∀ a,lo≤a→a < n→g' a=g a) : LogC g' lo' n' B ts sv:=by
 obtain ⟨cs,h1,h3,h4⟩:=h
 refine ⟨cs,?_,h3.keep h0 h2 (.inr (.inl rfl)) fun a h4 h5 _=>hg a h4 h5,h4⟩
 rcases h1 with h1 | ⟨k1,k2,k3,k4,k5,k6⟩
 ·exact .inl h1
 ·exact .inr ⟨k1,k2,by omega,by omega,(hg B k3 k4).trans k5,k6⟩
theorem rRun_c {M:MachM} (hM:M.ok) (w:List Int) (hwl:w.length≤300) (hw:inW w M.inp=true) (g:Nat→Option Blk) (n:Nat) (ms:List AV) (wv:AV) (hr:RepM g n M ms) (hv:RepW g n w wv) :
  WC 3 Tryz.prog 33 [.agg ms,.lit (.int .i64 0),wv] ⟨.fn g,n⟩ fun r=>∃ sv g' n',r=.ret sv ⟨.fn g',n'⟩∧n≤n'∧(∀ b,b < n→g' b=g b)∧FreshC g' n n' (runM M 0 w) sv:=by
 obtain ⟨rv,rfl,h1r⟩:=hr.one
 have h1a:allOne [.lit (.int .i64 M.inp),.lit (.int .i64 M.out),rv]=true:=by simp [h1r]
 have hlen:=@lenV Tryz.prog _ _ _ _ _ hv
 have HR:=Hide.mk hr
 have HV:=Hide.mk hv
 have HM:=Hide.mk hM
 have HW:=Hide.mk hw
 have hr0:=hM.2.2.2.2.1
 clear hr hv hM hw
 refine WC.enterP (noO_ok _ _) hG pl33 Tryz.func33 rfl (by decide +kernel) (Nat.le_of_ble_eq_true (by kernel_rfl)) ?_
 iterate 8 (all_goals try (first | with_reducible refine splitI (fun h=>?_) (fun h=>?_) | with_reducible refine splitBI (fun h=>?_) (fun h=>?_) | simp (config:={ maxSteps:=1000000 }) (disch:=first | assumption | omega | (simp; done) | fail) [Tryz.results33, *]))
 refine LX.ind (fun m gf H'=>∃ (k n' : Nat) (gL:Nat→Option Blk) (B:Nat) (sv:AV) (cs:List AV) (s:Int),k≤w.length∧m=w.length - k∧H'=⟨.fn gL,n'⟩∧n+1≤n'∧Hide (∀ b,b < n→gL b=g b)∧gL n=some (.cells [.lit (.int .i64 M.inp),.lit (.int .i64 M.out),rv] true 0) ∧
  Hide (GrowV gL (n+1) n' B sv k 1 cs)∧Hide (cs=wdC (runM M 0 (w.take k)))∧Hide (s=aftM M 0 (w.take k)∧stOK M s)∧gf 1=some (.lit (.int .i64 s))∧gf 2=some wv∧gf 3=some (.ptr n 0)∧gf 7=some sv∧gf 8=some (.lit (.int .i64 k))) (m0:=w.length) ?_ ?_
 ·exact ⟨0,_,_,0,_,[],0,Nat.zero_le _,rfl,rfl,Nat.le_refl _,⟨fun b hb=>gput_lt hb⟩,gput_eq,⟨.inl ⟨rfl,rfl,rfl⟩⟩,⟨rfl⟩,⟨rfl,.inr ⟨0,rfl,by omega⟩⟩,by simp,by simp,by simp,by simp,by simp⟩
 rintro m gf H' ⟨k,n',gL,B,sv,cs,s,hk,rfl,rfl,hn',HG,hgn,HGR,HC,HST,w1,w2,w3,w7,w8⟩ ih
 refine LX.roundP (noO_ok _ _) hG pl33 (by decide +kernel) ?_
 by_cases hlt:k < w.length
 ·have hltI:(k:Int) < (w.length:Int):=by omega
  obtain ⟨a2,off,ha2,hia,hcell⟩:=SliceV.mono (Nat.le_of_lt hn') HG.out HV.out |> fun h=>RepW.at (w:=w) h hlt
  have htk:=take_snoc hlt
  have hx:=of_decide_eq_true (List.all_eq_true.1 HW.out _ (List.getElem_mem hlt))
  have HN:=Hide.mk (fun (gX:Nat→Option Blk) (n2:Nat) (hn2:n≤n2) (hX:∀ b,b < n→gX b=g b)=>rNext_w HM.out s w[k] HST.out.2 hx.1 hx.2 gX n2 _ (HR.out.mono hn2 hX))
  have HA:Hide (aftM M 0 (w.take (k+1))=(nextM M s w[k]).1):=⟨by rw [htk,aftM_app,← HST.out.1]; rfl⟩
  have HRN:Hide (runM M 0 (w.take (k+1))=runM M 0 (w.take k)++[(nextM M s w[k]).2]):=⟨by rw [htk,runM_app,← HST.out.1]; rfl⟩
  have HOK:=Hide.mk (edgeOK_st (nextM_ok HM.out HST.out.2 hx.1 hx.2)).1
  clear hx htk
  generalize w[k]=x at *
  generalize nextM M s x=e at *
  obtain ⟨to,eo⟩:=e
  dsimp only at *
  iterate 8 (all_goals try (first | with_reducible refine splitI (fun h=>?_) (fun h=>?_) | with_reducible refine splitBI (fun h=>?_) (fun h=>?_) | simp (config:={ maxSteps:=1000000 }) (disch:=first | assumption | omega | (simp; done) | fail) [Tryz.results33, *]))
  refine WC.mono (HN.out _ _ (by omega) fun b (hb:b < n)=>(gput_lt (by omega)).trans (HG.out b hb)) ?_
  rintro _ ⟨g2,n2,rfl,hn2,hX⟩
  have HG2:Hide (∀ b,b < n→g2 b=g b):=⟨fun b hb=>(hX b (by omega)).trans ((gput_lt (by omega)).trans (HG.out b hb))⟩
  have hnn2:n'+1≤n2:=hn2
  have hg2n:g2 n=some (.cells [.lit (.int .i64 M.inp),.lit (.int .i64 M.out),rv] true 0):=(hX n (by omega)).trans ((gput_lt (by omega)).trans hgn)
  have hg2e:g2 n'=some (.cells [.lit (.int .i64 0),.lit (.int .i64 0)] true 0):=(hX n' (by omega)).trans gput_eq
  have HX:=Hide.mk hX
  have HEND:Hide (∀ cs',cs'=cs++[.lit (.int .i64 eo)]→cs'=wdC (runM M 0 (w.take (k+1)))∧cs'.length=(k+1) * 1):=⟨fun cs' h=>by
   rw [HRN.out,wdC_snoc,← HC.out]
   refine ⟨h,?_⟩
   rw [h,HC.out,List.length_append,wdC_len,runM_len,List.length_take]
   simp; omega⟩
  clear hX hn2 HN hia hcell ha2
  rcases HGR.out with ⟨hk0,hc0,hs0⟩ | ⟨hk0,hs0,hB1,hB2,hB3,hB4⟩
  ·subst hs0
   have HZ:=Hide.mk (And.intro hk0 hc0)
   clear hk0 hc0
   iterate 8 (all_goals try (first | with_reducible refine splitI (fun h=>?_) (fun h=>?_) | with_reducible refine splitBI (fun h=>?_) (fun h=>?_) | simp (config:={ maxSteps:=1000000 }) (disch:=first | assumption | omega | (simp; done) | fail) [Tryz.results33, *]))
   have HQ:=HEND.out [.lit (.int .i64 eo)] (by rw [HZ.out.2]; rfl)
   refine ih.out (w.length - (k+1)) _ _ (by omega) ⟨k+1,n2+1+1,_,n2+1,.slq (n2+1) 0 (k+1) 0,_,to,by omega,rfl,rfl,by omega,⟨fun b hb=>?_⟩,?_,⟨.mk gput_eq (by omega) (by omega) HQ.2⟩,⟨HQ.1⟩,⟨HA.out.symm,HOK.out⟩,by simp,by simp [*],by simp [*],by rw [HZ.out.1]; simp,by simp⟩
   ·simp (disch:=omega) only [gput_lt]; exact HG2.out b hb
   ·simp (disch:=omega) only [gput_lt]; exact hg2n
  ·subst hs0
   have hB5:g2 B=some (.cells cs true 1):=(HX.out B (by omega)).trans ((gput_lt hB2).trans hB3)
   clear hB3
   iterate 8 (all_goals try (first | with_reducible refine splitI (fun h=>?_) (fun h=>?_) | with_reducible refine splitBI (fun h=>?_) (fun h=>?_) | simp (config:={ maxSteps:=1000000 }) (disch:=first | assumption | omega | (simp; done) | fail) [Tryz.results33, *]))
   have HQ:=HEND.out _ rfl
   refine ih.out (w.length - (k+1)) _ _ (by omega) ⟨k+1,n2+1+1,_,n2+1,.slq (n2+1) 0 (k+1) 0,_,to,by omega,rfl,rfl,by omega,⟨fun b hb=>?_⟩,?_,⟨.mk gput_eq (by omega) (by omega) HQ.2⟩,⟨HQ.1⟩,⟨HA.out.symm,HOK.out⟩,by simp,by simp [*],by simp [*],by simp,by simp⟩
   ·simp (disch:=omega) only [gput_lt,gput_ne]; exact HG2.out b hb
   ·simp (disch:=omega) only [gput_lt,gput_ne]; exact hg2n
 ·have hltI:¬(k:Int) < (w.length:Int):=by omega
  have hkw:k=w.length:=by omega
  have HREP:Hide (FreshC gL n n' (runM M 0 w) sv):=⟨by
   have h1:=HGR.out
   rw [HC.out,hkw,List.take_length] at h1
   exact ⟨(h1.fresh (runM_len w 0).symm).keep (Nat.le_succ n) (Nat.le_refl _) fun _ _ _=>rfl,capV_grow h1⟩⟩
  clear hkw
  iterate 8 (all_goals try (first | with_reducible refine splitI (fun h=>?_) (fun h=>?_) | with_reducible refine splitBI (fun h=>?_) (fun h=>?_) | simp (config:={ maxSteps:=1000000 }) (disch:=first | assumption | omega | (simp; done) | fail) [Tryz.results33, *]))
  exact ⟨_,_,_,⟨rfl,rfl,rfl⟩,by omega,HG.out,HREP.out⟩
theorem Word_c (bs:List Nat) (hb:∀ b∈bs,b < 256) (I most:Nat) (hI0:0 < I) (hI:I≤16) (hm:most≤12) (g:Nat→Option Blk) (n:Nat) (bv:AV) (hv:RepB g n bs bv) :
  WC 3 Tryz.prog 29 [bv,.lit (.int .i64 I),.lit (.int .i64 most)] ⟨.fn g,n⟩ fun r=>∃ sv g' n',r=.ret sv ⟨.fn g',n'⟩∧n≤n'∧(∀ b,b < n→g' b=g b)∧FreshC g' n n' (wordG bs I most) sv:=by
 have hlen:=@lenV Tryz.prog _ _ _ _ _ hv
 have HV:=Hide.mk hv
 have HBS:=Hide.mk hb
 clear hv hb
 refine WC.enterP (noO_ok _ _) hG [] Tryz.func29 rfl (by decide +kernel) (Nat.le_of_ble_eq_true (by kernel_rfl)) ?_
 iterate 8 (all_goals try (first | with_reducible refine splitI (fun h=>?_) (fun h=>?_) | with_reducible refine splitBI (fun h=>?_) (fun h=>?_) | simp (config:={ maxSteps:=1000000 }) (disch:=first | assumption | omega | (simp; done) | fail) [Tryz.results29, *]))
 refine LX.ind (fun m gf H'=>∃ (k n' : Nat) (gL:Nat→Option Blk) (B:Nat) (sv:AV) (cs:List AV),k≤bs.length∧k≤most∧m=most - k∧H'=⟨.fn gL,n'⟩∧n≤n'∧Hide (∀ b,b < n→gL b=g b) ∧
  Hide (GrowV gL n n' B sv k 1 cs)∧Hide (cs=wdC ((bs.take k).map fun b=>((b % I:Nat) : Int)))∧gf 0=some bv∧gf 1=some (.lit (.int .i64 I))∧gf 2=some (.lit (.int .i64 most))∧gf 7=some sv∧gf 8=some (.lit (.int .i64 k))) (m0:=most) ?_ ?_
 ·exact ⟨0,_,_,0,_,[],Nat.zero_le _,Nat.zero_le _,rfl,rfl,Nat.le_refl _,⟨fun b hb=>rfl⟩,⟨.inl ⟨rfl,rfl,rfl⟩⟩,⟨rfl⟩,by simp,by simp,by simp,by simp,by simp⟩
 rintro m gf H' ⟨k,n',gL,B,sv,cs,hk,hkm,rfl,rfl,hn',HG,HGR,HC,w0,w1,w2,w7,w8⟩ ih
 refine LX.roundP (noO_ok _ _) hG [] (by decide +kernel) ?_
 have fin:¬(k < bs.length∧k < most)→Hide (FreshC gL n n' (wordG bs I most) sv):=fun h=>⟨by
  have h1:=HGR.out
  have e:bs.take k=bs.take most:=by
   by_cases h2:k < most
   ·rw [List.take_of_length_le (by omega),List.take_of_length_le (by omega)]
   ·rw [show k=most by omega]
  rw [HC.out,e] at h1
  exact ⟨h1.fresh (by rw [List.length_map,← e,List.length_take]; omega),capV_grow h1⟩⟩
 have FIN:=Hide.mk fin
 clear fin
 by_cases hlt:k < bs.length
 ·have hltI:(k:Int) < (bs.length:Int):=by omega
  by_cases hlm:k < most
  ·have hlmI:(k:Int) < (most:Int):=by omega
   obtain ⟨a2,off,ha2,hia,hcell⟩:=RepB.at (n:=n') (w:=bs) (SliceV.mono hn' HG.out HV.out) hlt
   have hx:=HBS.out _ (List.getElem_mem hlt)
   have HEND:Hide (∀ cs',cs'=cs++[.lit (.int .i64 ((bs[k] % I:Nat) : Int))]→cs'=wdC ((bs.take (k+1)).map fun b=>((b % I:Nat) : Int))∧cs'.length=(k+1) * 1):=⟨fun cs' h=>by
    rw [take_snoc hlt,List.map_append,List.map_singleton,wdC_snoc,← HC.out]
    refine ⟨h,?_⟩
    rw [h,HC.out,List.length_append,wdC_len,List.length_map,List.length_take]
    simp; omega⟩
   generalize bs[k]=x at *
   have hrem:(x:Int).tmod (I:Int)=((x % I:Nat) : Int):=(Int.ofNat_tmod x I).symm
   have hxi:x % I < 256:=Nat.lt_of_le_of_lt (Nat.mod_le x I) hx
   generalize x % I=y at *
   have hI1:¬(I:Int)=0:=by omega
   have hI2:¬I=0:=by omega
   rcases HGR.out with ⟨hk0,hc0,hs0⟩ | ⟨hk0,hs0,hB1,hB2,hB3,hB4⟩
   ·subst hs0
    have HZ:=Hide.mk (And.intro hk0 hc0)
    clear hk0 hc0
    iterate 8 (all_goals try (first | with_reducible refine splitI (fun h=>?_) (fun h=>?_) | with_reducible refine splitBI (fun h=>?_) (fun h=>?_) | simp (config:={ maxSteps:=1000000 }) (disch:=first | assumption | omega | (simp; done) | fail) [Tryz.results29, *]))
    have HQ:=HEND.out [.lit (.int .i64 (y:Int))] (by rw [HZ.out.2]; rfl)
    refine ih.out (most - (k+1)) _ _ (by omega) ⟨k+1,n'+1+1,_,n'+1,.slq (n'+1) 0 (k+1) 0,_,by omega,by omega,rfl,rfl,by omega,⟨fun b hb=>?_⟩,⟨.mk gput_eq (by omega) (by omega) HQ.2⟩,⟨HQ.1⟩,by simp [*],by simp [*],by simp [*],by rw [HZ.out.1]; simp,by simp⟩
    simp (disch:=omega) only [gput_lt]; exact HG.out b hb
   ·subst hs0
    iterate 8 (all_goals try (first | with_reducible refine splitI (fun h=>?_) (fun h=>?_) | with_reducible refine splitBI (fun h=>?_) (fun h=>?_) | simp (config:={ maxSteps:=1000000 }) (disch:=first | assumption | omega | (simp; done) | fail) [Tryz.results29, *]))
    have HQ:=HEND.out _ rfl
    refine ih.out (most - (k+1)) _ _ (by omega) ⟨k+1,n'+1+1,_,n'+1,.slq (n'+1) 0 (k+1) 0,_,by omega,by omega,rfl,rfl,by omega,⟨fun b hb=>?_⟩,⟨.mk gput_eq (by omega) (by omega) HQ.2⟩,⟨HQ.1⟩,by simp [*],by simp [*],by simp [*],by simp,by simp⟩
    simp (disch:=omega) only [gput_lt,gput_ne]; exact HG.out b hb
  ·have hlmI:¬(k:Int) < (most:Int):=by omega
   have HF:=FIN.out (by omega)
   iterate 8 (all_goals try (first | with_reducible refine splitI (fun h=>?_) (fun h=>?_) | with_reducible refine splitBI (fun h=>?_) (fun h=>?_) | simp (config:={ maxSteps:=1000000 }) (disch:=first | assumption | omega | (simp; done) | fail) [Tryz.results29, *]))
   exact ⟨_,_,_,⟨rfl,rfl,rfl⟩,by omega,HG.out,HF.out⟩
 ·have hltI:¬(k:Int) < (bs.length:Int):=by omega
  have HF:=FIN.out (by omega)
  iterate 8 (all_goals try (first | with_reducible refine splitI (fun h=>?_) (fun h=>?_) | with_reducible refine splitBI (fun h=>?_) (fun h=>?_) | simp (config:={ maxSteps:=1000000 }) (disch:=first | assumption | omega | (simp; done) | fail) [Tryz.results29, *]))
  exact ⟨_,_,_,⟨rfl,rfl,rfl⟩,by omega,HG.out,HF.out⟩
theorem Word2_c (bs:List Nat) (hb:∀ b∈bs,b < 256) (I:Int) (most:Nat) (hI0:1≤I) (hI:I≤16) (hm:most≤12) (mm:Int) (hmm:mm=most) (g:Nat→Option Blk) (n:Nat) (bv:AV) (hv:RepB g n bs bv) :
  WC 3 Tryz.prog 29 [bv,.lit (.int .i64 I),.lit (.int .i64 mm)] ⟨.fn g,n⟩ fun r=>∃ sv g' n',r=.ret sv ⟨.fn g',n'⟩∧n≤n'∧(∀ b,b < n→g' b=g b)∧FreshC g' n n' (wordG bs I.toNat most) sv:=by
 obtain ⟨k,rfl⟩ : ∃ k:Nat,I=k:=⟨I.toNat,by omega⟩
 subst hmm
 exact Word_c bs hb k most (by omega) (by omega) hm g n bv hv
theorem Runs_c {st inp out:Nat} {part:Bool} {es:List Nat} {ev:AV} {ws:List (List Nat)} {wv:AV} (ia ib ic:Int) (g:Nat→Option Blk) (n:Nat) (hI:InG g n st inp out es ev ws wv) :
  WC 3 Tryz.prog 25 [.agg [.lit (.int .u8 st),.lit (.int .u8 inp),.lit (.int .u8 out),.lit (.bool part),ev,wv,.lit (.int .u8 ia),.lit (.int .u8 ib),.lit (.int .u8 ic)]] ⟨.fn g,n⟩ fun r=>∃ sv g' n' B,r=.ret (.agg [.lit (.int .i64 (machOf st inp out part es).inp),.lit (.int .i64 (machOf st inp out part es).out),sv]) ⟨.fn g',n'⟩∧n≤n'∧(∀ b,b < n→g' b=g b)∧LogC g' n n' B (runsM (machOf st inp out part es) ws) sv:=by
 have hlen:=@lenV Tryz.prog _ _ _ _ _ hI.sw.choose_spec.1
 have h1e:=hI.se.one
 have h1w:=hI.sw.choose_spec.1.one
 have hone:allOne [.lit (.int .u8 st),.lit (.int .u8 inp),.lit (.int .u8 out),.lit (.bool part),ev,wv,.lit (.int .u8 ia),.lit (.int .u8 ib),.lit (.int .u8 ic)]=true:=by simp [h1e,h1w]
 have HMO:=Hide.mk fun (gX:Nat→Option Blk) (n2:Nat) (hn:n≤n2) (hX:∀ b,b < n→gX b=g b)=>MOf_w st inp out part es ev gX n2 hI.b0 hI.b1 hI.b2 (hI.se.mono hn hX) hI.eb
 have HI:=Hide.mk hI
 have HM:=Hide.mk (machOf_ok st inp out part es)
 clear hI
 generalize machOf st inp out part es=M at *
 refine WC.enterP (noO_ok _ _) hG pl25 Tryz.func25 rfl (by decide +kernel) (Nat.le_of_ble_eq_true (by kernel_rfl)) ?_
 iterate 8 (all_goals try (first | with_reducible refine splitI (fun h=>?_) (fun h=>?_) | with_reducible refine splitBI (fun h=>?_) (fun h=>?_) | simp (config:={ maxSteps:=1000000 }) (disch:=first | assumption | omega | (simp; done) | fail) [Tryz.results25, *]))
 refine WC.mono (HMO.out _ _ (by omega) fun b (hb:b < n)=>by simp (disch:=omega) only [gput_lt]) ?_
 rintro _ ⟨ms,g1,n1,rfl,hn1,hg1,hfr⟩
 obtain ⟨rv,hms,h1r⟩:=hfr.rep.one
 subst hms
 have hone2:allOne [.lit (.int .i64 M.inp),.lit (.int .i64 M.out),rv]=true:=by simp [h1r]
 have HR:=Hide.mk hfr.rep
 have HG1:Hide (∀ b,b < n→g1 b=g b):=⟨fun b hb=>(hg1 b (by omega)).trans (by simp (disch:=omega) only [gput_lt])⟩
 have HX1:=Hide.mk hg1
 clear hg1 hfr HMO
 iterate 8 (all_goals try (first | with_reducible refine splitI (fun h=>?_) (fun h=>?_) | with_reducible refine splitBI (fun h=>?_) (fun h=>?_) | simp (config:={ maxSteps:=1000000 }) (disch:=first | assumption | omega | (simp; done) | fail) [Tryz.results25, *]))
 have hgn1:g1 n=some (.cells [.lit (.int .u8 st),.lit (.int .u8 inp),.lit (.int .u8 out),.lit (.bool part),ev,wv,.lit (.int .u8 ia),.lit (.int .u8 ib),.lit (.int .u8 ic)] true 0):=(HX1.out n (by omega)).trans (by simp (disch:=omega) only [gput_lt,gput_eq])
 have hgo1:g1 (n+1)=some (.cells [.lit (.int .i64 0),.lit (.int .i64 0),.lit (.slice none 0 0)] true 0):=(HX1.out (n+1) (by omega)).trans (by simp (disch:=omega) only [gput_lt,gput_eq])
 clear HX1
 refine LX.ind (fun m gf H'=>∃ (k n' : Nat) (gL:Nat→Option Blk) (B:Nat) (sv:AV),k≤ws.length∧k≤12∧m=12 - k∧H'=⟨.fn gL,n'⟩∧n1+1+1≤n'∧B < n'∧Hide (∀ b,b < n1→gL b=g1 b)∧gL n1=some (.cells [.lit (.int .i64 M.inp),.lit (.int .i64 M.out),rv] true 0) ∧
  gL (n1+1)=some (.cells [.lit (.int .i64 M.inp),.lit (.int .i64 M.out),sv] true 0)∧Hide (LogC gL (n1+1+1) n' B ((ws.take k).map (oneM M)) sv)∧gf 1=some (.ptr n 0)∧gf 2=some (.ptr (n+1) 0)∧gf 3=some (.ptr n1 0)∧gf 4=some (.ptr (n1+1) 0)∧gf 5=some (.lit (.int .i64 k))) (m0:=12) ?_ ?_
 ·refine ⟨0,_,_,0,_,Nat.zero_le _,Nat.zero_le _,rfl,rfl,Nat.le_refl _,by omega,⟨fun b hb=>?_⟩,?_,gput_eq,⟨[],.inl ⟨rfl,rfl,rfl⟩,.nil,fun v hv=>by cases hv⟩,by simp,by simp,by simp,by simp,by simp⟩
  ·exact (gput_lt (by omega)).trans (gput_lt hb)
  ·exact (gput_lt (by omega)).trans gput_eq
 rintro m gf H' ⟨k,n',gL,B,sv,hk,hk12,rfl,rfl,hn',hBn,HG,hgm,hgl,HL,w1,w2,w3,w4,w5⟩ ih
 have hgn:=(HG.out n (by omega)).trans hgn1
 have hgo:=(HG.out (n+1) (by omega)).trans hgo1
 have h1sv:=HL.out.one
 have hone3:allOne [.lit (.int .i64 M.inp),.lit (.int .i64 M.out),sv]=true:=by simp [h1sv]
 have FIN:Hide (¬(k < ws.length∧k < 12)→LogC gL (n1+1+1) n' B (runsM M ws) sv):=⟨fun h=>by
  have e:ws.take k=ws.take 12:=by
   by_cases h2:k < 12
   ·rw [List.take_of_length_le (by omega),List.take_of_length_le (by omega)]
   ·rw [show k=12 by omega]
  have h1:=HL.out
  rw [e] at h1
  exact h1⟩
 refine LX.roundP (noO_ok _ _) hG pl25 (by decide +kernel) ?_
 by_cases hlt:k < ws.length
 ·have hltI:(k:Int) < (ws.length:Int):=by omega
  by_cases hlm:k < 12
  ·have hlmI:(k:Int) < 12:=by omega
   obtain ⟨a2,off,q,ha2,hia,hcell,hrb⟩:=HI.out.sw.at hlt
   have hcell2:loadB (some (false,1)) (gL a2) (off+k)=some q:=(congrArg (fun z=>loadB (some (false,1)) z (off+k)) ((HG.out a2 (by omega)).trans (HG1.out a2 ha2))).trans hcell
   have hM:=HM.out
   have HWD:=Hide.mk (fun (gX:Nat→Option Blk) (n2:Nat) (hn2:n≤n2) (hX:∀ b,b < n→gX b=g b)=>Word2_c ws[k] (HI.out.wb _ (List.getElem_mem hlt)) M.inp 10 hM.1 hM.2.1 (by decide) 10 rfl gX n2 q (SliceV.mono hn2 hX hrb))
   have HTK:Hide ((ws.take (k+1)).map (oneM M)=(ws.take k).map (oneM M)++[oneM M ws[k]]):=⟨by rw [take_snoc hlt,List.map_append,List.map_singleton]⟩
   have HW:Hide (oneM M ws[k]=(wordG ws[k] M.inp.toNat 10,runM M 0 (wordG ws[k] M.inp.toNat 10))∧(wordG ws[k] M.inp.toNat 10).length≤10∧inW (wordG ws[k] M.inp.toNat 10) M.inp=true):=⟨rfl,wordG_len,wordG_in hM.1⟩
   clear hcell hrb hM
   generalize wordG ws[k] M.inp.toNat 10=w at *
   generalize oneM M ws[k]=t at *
   iterate 8 (all_goals try (first | with_reducible refine splitI (fun h=>?_) (fun h=>?_) | with_reducible refine splitBI (fun h=>?_) (fun h=>?_) | simp (config:={ maxSteps:=1000000 }) (disch:=first | assumption | omega | (simp; done) | fail) [Tryz.results25, *]))
   refine WC.mono (HWD.out _ _ (by omega) fun b (hb:b < n)=>(HG.out b (by omega)).trans (HG1.out b hb)) ?_
   rintro _ ⟨uv,g2,n2,rfl,hn2,hX2,hfw⟩
   have HX2:=Hide.mk hX2
   have HFW:=Hide.mk hfw
   have hgm2:=(hX2 n1 (by omega)).trans hgm
   have hgl2:=(hX2 (n1+1) (by omega)).trans hgl
   have hone4:oneC uv=true:=hfw.1.rep.one
   have hcu:cellsOf uv=[uv]:=hfw.1.rep.cell
   have HRU:=Hide.mk (fun (gX:Nat→Option Blk) (n3:Nat) (hn3:n2≤n3) (hX:∀ b,b < n2→gX b=g2 b)=>rRun_c HM.out w (by have:=HW.out.2.1; omega) HW.out.2.2 gX n3 [.lit (.int .i64 M.inp),.lit (.int .i64 M.out),rv] uv (HR.out.mono (by omega) fun b hb=>(hX b (by omega)).trans ((HX2.out b (by omega)).trans (HG.out b (by omega)))) (SliceV.mono hn3 hX HFW.out.1.rep))
   clear hX2 hfw HWD hcell2 hia
   iterate 8 (all_goals try (first | with_reducible refine splitI (fun h=>?_) (fun h=>?_) | with_reducible refine splitBI (fun h=>?_) (fun h=>?_) | simp (config:={ maxSteps:=1000000 }) (disch:=first | assumption | omega | (simp; done) | fail) [Tryz.results25, *]))
   refine WC.mono (HRU.out _ _ (by omega) fun b hb=>rfl) ?_
   rintro _ ⟨zv,g3,n3,rfl,hn3,hX3,hfz⟩
   have HX3:=Hide.mk hX3
   have HFZ:=Hide.mk hfz
   have hgm3:=(hX3 n1 (by omega)).trans hgm2
   have hgl3:=(hX3 (n1+1) (by omega)).trans hgl2
   have hone5:oneC zv=true:=hfz.1.rep.one
   have hcz:cellsOf zv=[zv]:=hfz.1.rep.cell
   have hone6:allOne [uv,zv]=true:=by simp [hone4,hone5]
   clear hX3 hfz HRU
   obtain ⟨cs,hgr,hrf,hcc⟩:=HL.out
   have HCC:=Hide.mk hcc
   clear hcc
   have HRF:=Hide.mk hrf
   have hcl:=hrf.1
   rw [List.length_map,List.length_take,Nat.min_eq_left hk] at hgr
   rw [List.length_map,List.length_take,Nat.min_eq_left hk] at hcl
   clear hrf
   have HNB:Hide (∀ a,n'≤a→a≠B):=⟨fun a h=>by omega⟩
   have HLOG:Hide (∀ gF:Nat→Option Blk,(∀ b,n1+1+1≤b→b < n3→b≠B→gF b=g3 b)→gF (n3+1)=some (.cells (cs++[uv,zv]) true 2)→LogC gF (n1+1+1) (n3+1+1) (n3+1) ((ws.take (k+1)).map (oneM M)) (.slq (n3+1) 0 (k+1) 0)):=⟨fun gF h1 h2=>by
    refine ⟨cs++[uv,zv],?_,?_,?_⟩
    ·rw [HTK.out,List.length_append,List.length_map,List.length_take,Nat.min_eq_left hk]
     exact .mk h2 (by omega) (by omega) (by rw [List.length_append,hcl]; simp; omega)
    ·rw [HTK.out,HW.out.1]
     exact (HRF.out.keep (Nat.le_refl _) (by omega) (.inl (by omega)) fun a h3 h4 h5=>(h1 a h3 (by omega) h5).trans ((HX3.out a (by omega)).trans (HX2.out a h4))).snoc (HFW.out.1.safe (by omega) (by omega) (.inl (by omega)) fun a h3 h4=>(h1 a (by omega) (by omega) (HNB.out a (by omega))).trans (HX3.out a h4)) (HFZ.out.1.safe (by omega) (by omega) (.inl (by omega)) fun a h3 h4=>h1 a (by omega) h4 (HNB.out a (by omega)))
    ·intro v hv
     rcases List.mem_append.1 hv with h | h
     ·exact HCC.out v h
     ·rcases List.mem_cons.1 h with rfl | h
      ·exact HFW.out.2
      ·rw [List.mem_singleton.1 h]; exact HFZ.out.2⟩
   rcases hgr with ⟨hk0,hc0,hs0⟩ | ⟨hk0,hs0,hB1,hB2,hB3,hB4⟩
   ·subst hs0
    have HZ:=Hide.mk (And.intro hk0 hc0)
    clear hk0 hc0
    iterate 8 (all_goals try (first | with_reducible refine splitI (fun h=>?_) (fun h=>?_) | with_reducible refine splitBI (fun h=>?_) (fun h=>?_) | simp (config:={ maxSteps:=1000000 }) (disch:=first | assumption | omega | (simp; done) | fail) [Tryz.results25, *]))
    refine ih.out (12 - (k+1)) _ _ (by omega) ⟨k+1,n3+1+1,_,n3+1,.slq (n3+1) 0 (k+1) 0,by omega,by omega,rfl,rfl,by omega,by omega,⟨fun b hb=>?_⟩,?_,?_,⟨HLOG.out _ (fun b h1 h2 h3=>?_) ?_⟩,by simp [*],by simp [*],by simp [*],by simp [*],by simp⟩
    ·simp (disch:=omega) only [gput_lt,gput_ne]; exact (HX3.out b (by omega)).trans ((HX2.out b (by omega)).trans (HG.out b hb))
    ·simp (disch:=omega) only [gput_lt,gput_ne]; exact hgm3
    ·rw [HZ.out.1]; simp (disch:=omega) only [gput_lt,gput_ne,gput_eq]
    ·simp (disch:=omega) only [gput_lt,gput_ne]
    ·rw [HZ.out.2]; simp (disch:=omega) only [gput_lt,gput_ne,gput_eq]; rfl
   ·subst hs0
    have hB5:g3 B=some (.cells cs true 2):=(HX3.out B (by omega)).trans ((HX2.out B hB2).trans hB3)
    clear hB3
    iterate 8 (all_goals try (first | with_reducible refine splitI (fun h=>?_) (fun h=>?_) | with_reducible refine splitBI (fun h=>?_) (fun h=>?_) | simp (config:={ maxSteps:=1000000 }) (disch:=first | assumption | omega | (simp; done) | fail) [Tryz.results25, *]))
    refine ih.out (12 - (k+1)) _ _ (by omega) ⟨k+1,n3+1+1,_,n3+1,.slq (n3+1) 0 (k+1) 0,by omega,by omega,rfl,rfl,by omega,by omega,⟨fun b hb=>?_⟩,?_,?_,⟨HLOG.out _ (fun b h1 h2 h3=>?_) ?_⟩,by simp [*],by simp [*],by simp [*],by simp [*],by simp⟩
    ·simp (disch:=omega) only [gput_lt,gput_ne]; exact (HX3.out b (by omega)).trans ((HX2.out b (by omega)).trans (HG.out b hb))
    ·simp (disch:=omega) only [gput_lt,gput_ne]; exact hgm3
    ·simp (disch:=omega) only [gput_lt,gput_ne,gput_eq]
    ·simp (disch:=omega) only [gput_lt,gput_ne]
    ·simp (disch:=omega) only [gput_lt,gput_ne,gput_eq]
  ·have hlmI:¬(k:Int) < 12:=by omega
   have HF:=Hide.mk (FIN.out (by omega))
   iterate 8 (all_goals try (first | with_reducible refine splitI (fun h=>?_) (fun h=>?_) | with_reducible refine splitBI (fun h=>?_) (fun h=>?_) | simp (config:={ maxSteps:=1000000 }) (disch:=first | assumption | omega | (simp; done) | fail) [Tryz.results25, *]))
   exact ⟨_,_,_,⟨rfl,rfl,rfl⟩,by omega,fun b hb=>(gput_lt (by omega)).trans ((HG.out b (by omega)).trans (HG1.out b hb)),B,HF.out.keep (by omega) (Nat.le_refl _) fun a h1 h2=>gput_ne (by omega)⟩
 ·have hltI:¬(k:Int) < (ws.length:Int):=by omega
  have HF:=Hide.mk (FIN.out (by omega))
  iterate 8 (all_goals try (first | with_reducible refine splitI (fun h=>?_) (fun h=>?_) | with_reducible refine splitBI (fun h=>?_) (fun h=>?_) | simp (config:={ maxSteps:=1000000 }) (disch:=first | assumption | omega | (simp; done) | fail) [Tryz.results25, *]))
  exact ⟨_,_,_,⟨rfl,rfl,rfl⟩,by omega,fun b hb=>(gput_lt (by omega)).trans ((HG.out b (by omega)).trans (HG1.out b hb)),B,HF.out.keep (by omega) (Nat.le_refl _) fun a h1 h2=>gput_ne (by omega)⟩
end Go.Ai
end
section
namespace Go.Ai
open Go.Proofs
set_option maxRecDepth 10000
set_option maxHeartbeats 40000000
theorem GOf_c {st inp out:Nat} {part:Bool} {es:List Nat} {ev:AV} {ws:List (List Nat)} {wv:AV} (ia ib ic:Nat) (hia:ia < 256) (hib:ib < 256) (hic:ic < 256) (g:Nat→Option Blk) (n:Nat) (hI:InG g n st inp out es ev ws wv) :
  WC 3 Tryz.prog 22 [.agg [.lit (.int .u8 st),.lit (.int .u8 inp),.lit (.int .u8 out),.lit (.bool part),ev,wv,.lit (.int .u8 ia),.lit (.int .u8 ib),.lit (.int .u8 ic)]] ⟨.fn g,n⟩ fun r=>∃ sv g' n' B,r=.ret (.agg [.lit (.int .i64 (machOf st inp out part es).inp),.lit (.int .i64 (machOf st inp out part es).out),sv]) ⟨.fn g',n'⟩∧n≤n'∧(∀ b,b < n→g' b=g b)∧LogC g' n n' B (ofG (machOf st inp out part es) ws ia ib ic) sv:=by
 have h1e:=hI.se.one
 have h1w:=hI.sw.choose_spec.1.one
 have hone:allOne [.lit (.int .u8 st),.lit (.int .u8 inp),.lit (.int .u8 out),.lit (.bool part),ev,wv,.lit (.int .u8 ia),.lit (.int .u8 ib),.lit (.int .u8 ic)]=true:=by simp [h1e,h1w]
 have HRU:=Hide.mk fun (gX:Nat→Option Blk) (n2:Nat) (hn:n≤n2) (hX:∀ b,b < n→gX b=g b)=>Runs_c (part:=part) ia ib ic gX n2 (hI.mono hn hX)
 have HM:=Hide.mk (machOf_ok st inp out part es)
 clear hI
 generalize machOf st inp out part es=M at *
 have HOF:=Hide.mk (rfl:ofG M ws ia ib ic=ofG M ws ia ib ic)
 have hOK:=runsM_ok HM.out ws
 have HOK:=Hide.mk hOK
 have hO1:=hOK.o1
 have hO2:=hOK.o2
 obtain ⟨L,hL⟩ : ∃ L,L=ofG M ws ia ib ic:=⟨_,rfl⟩
 rw [← hL]
 unfold ofG at hL
 have HL:=Hide.mk hL
 clear hL HOF hOK
 generalize runsM M ws=ts at *
 have hrem4:(ic:Int).tmod 4=((ic % 4:Nat) : Int):=(Int.ofNat_tmod ic 4).symm
 have hq4:ic % 4 < 4:=Nat.mod_lt _ (by decide)
 generalize ic % 4=q at *
 refine WC.enterP (noO_ok _ _) hG pl22 Tryz.func22 rfl (by decide +kernel) (Nat.le_of_ble_eq_true (by kernel_rfl)) ?_
 iterate 8 (all_goals try (first | with_reducible refine splitI (fun h=>?_) (fun h=>?_) | with_reducible refine splitBI (fun h=>?_) (fun h=>?_) | simp (config:={ maxSteps:=1000000 }) (disch:=first | assumption | omega | (simp; done) | fail) [Tryz.results22, *]))
 refine WC.mono (HRU.out _ _ (by omega) fun b (hb:b < n)=>by simp (disch:=omega) only [gput_lt]) ?_
 rintro _ ⟨sv,g1,n1,B,rfl,hn1,hg1,hlf⟩
 have HG1:Hide (∀ b,b < n→g1 b=g b):=⟨fun b hb=>(hg1 b (by omega)).trans (by simp (disch:=omega) only [gput_lt])⟩
 have hgn1:g1 n=some (.cells [.lit (.int .u8 st),.lit (.int .u8 inp),.lit (.int .u8 out),.lit (.bool part),ev,wv,.lit (.int .u8 ia),.lit (.int .u8 ib),.lit (.int .u8 ic)] true 0):=(hg1 n (by omega)).trans (by simp (disch:=omega) only [gput_lt,gput_eq])
 have hgo1:g1 (n+1)=some (.cells [.lit (.int .i64 0),.lit (.int .i64 0),.lit (.slice none 0 0)] true 0):=(hg1 (n+1) (by omega)).trans (by simp (disch:=omega) only [gput_lt,gput_eq])
 clear hg1 HRU
 have h1sv:=hlf.one
 have hone3:allOne [.lit (.int .i64 M.inp),.lit (.int .i64 M.out),sv]=true:=by simp [h1sv]
 have hlenS:=@lenV Tryz.prog _ _ _ _ _ hlf.logF.log.choose_spec.1
 have HLF:=Hide.mk hlf
 have htl:=HOK.out.len
 clear hlf
 have FIN0:Hide (L=ts→∀ gF:Nat→Option Blk,∀ m,n1≤m→(∀ b,n+1+1≤b→b < n1→gF b=g1 b)→LogC gF n m B L sv):=⟨fun h gF m hm hgF=>by
  rw [h]; exact HLF.out.keep (by omega) hm fun a h1 h2=>hgF a (by omega) h2⟩
 by_cases c1:ts.length=0
 ·have hLt:L=ts:=by rw [HL.out,if_pos (.inl c1)]
  have HF:=Hide.mk (FIN0.out hLt)
  have c1I:(ts.length:Int)=0:=by omega
  clear hLt
  iterate 8 (all_goals try (first | with_reducible refine splitI (fun h=>?_) (fun h=>?_) | with_reducible refine splitBI (fun h=>?_) (fun h=>?_) | simp (config:={ maxSteps:=1000000 }) (disch:=first | assumption | omega | (simp; done) | fail) [Tryz.results22, *]))
  refine ⟨_,_,_,⟨rfl,rfl,rfl⟩,by omega,fun b hb=>?_,B,HF.out _ _ (by omega) fun b h1 h2=>?_⟩
  ·simp (disch:=omega) only [gput_lt]; exact HG1.out b hb
  ·simp (disch:=omega) only [gput_lt,gput_ne]
 have c1I:¬(ts.length:Int)=0:=by omega
 have c1N:¬ts=[]:=fun h=>c1 (by rw [h]; rfl)
 have hremI:(ia:Int).tmod (ts.length:Int)=((ia % ts.length:Nat) : Int):=(Int.ofNat_tmod ia _).symm
 by_cases c2:q < 2
 ·have hLt:L=ts:=by rw [HL.out,if_pos (.inr c2)]
  have HF:=Hide.mk (FIN0.out hLt)
  have c2I:(q:Int) < 2:=by omega
  clear hLt
  iterate 8 (all_goals try (first | with_reducible refine splitI (fun h=>?_) (fun h=>?_) | with_reducible refine splitBI (fun h=>?_) (fun h=>?_) | simp (config:={ maxSteps:=1000000 }) (disch:=first | assumption | omega | (simp; done) | fail) [Tryz.results22, *]))
  refine ⟨_,_,_,⟨rfl,rfl,rfl⟩,by omega,fun b hb=>?_,B,HF.out _ _ (by omega) fun b h1 h2=>?_⟩
  ·simp (disch:=omega) only [gput_lt]; exact HG1.out b hb
  ·simp (disch:=omega) only [gput_lt,gput_ne]
 have c2I:¬(q:Int) < 2:=by omega
 have hi:ia % ts.length < ts.length:=Nat.mod_lt _ (by omega)
 rw [if_neg (by omega),(getD_mem hi).2] at HL
 generalize ia % ts.length=i at *
 have hiI:(i:Int) < (ts.length:Int):=by omega
 have HTI:=Hide.mk (HOK.out.lens (List.getElem_mem hi))
 have hrl:(ts[i]).2.length≤256:=by rw [HTI.out.1]; exact HOK.out.wl _ (List.getElem_mem hi)
 obtain ⟨cs,hgr,hrf,hcc⟩:=HLF.out
 have HCC:=Hide.mk hcc
 clear hcc
 rcases hgr with ⟨hk0,_,_⟩ | ⟨hk0,hs0,hB1,hB2,hB3,hB4⟩
 ·omega
 subst hs0
 obtain ⟨s1,s2,hc1,hc2,hw1,hw2⟩:=hrf.2 i hi
 obtain ⟨hil,hc2⟩:=List.getElem?_eq_some_iff.1 hc2
 have h1s2:oneC s2=true:=hw2.rep.one
 have hcs2:cellsOf s2=[s2]:=hw2.rep.cell
 have hlenR:=@lenV Tryz.prog _ _ _ _ _ hw2.rep
 have HRF:=Hide.mk hrf
 have HW2:=Hide.mk hw2.rep
 have HW1:=Hide.mk hw1
 clear hw1 hw2 hrf hc1
 by_cases c3:(ts[i]).2.length=0
 ·have hLt:L=ts:=by rw [HL.out,if_pos c3]
  have HF:=Hide.mk (FIN0.out hLt)
  have H30:Hide (SliceV g1 n1 s2 0 (wdC (ts[i]).2)):=⟨by have h:=HW2.out; unfold RepW at h; rw [c3] at h; exact h⟩
  have hap:=fun {H:Mem} {ev:Ev} {d:Option Tmp} {ty:TypeId} {p:String} {af:Array Edge} {gd:Option (Nat×Bool)} {x y:Operand} {s t:TypeId} {a off:Nat} {hx:ev x=some (.sl a off 0 0)} {hy:ev y=some s2} (hp:(apI Tryz.prog s t).isSome=true)=>SliceV.ap00 (P:=Tryz.prog) (H30.out) (H:=H) (ev:=ev) (d:=d) (ty:=ty) (p:=p) (af:=af) (gd:=gd) (x:=x) (y:=y) (a:=a) (off:=off) (hx:=hx) (hy:=hy) hp
  have c3I:((ts[i]).2.length:Int)=0:=by omega
  clear hLt
  iterate 8 (all_goals try (first | with_reducible refine splitI (fun h=>?_) (fun h=>?_) | with_reducible refine splitBI (fun h=>?_) (fun h=>?_) | simp (config:={ maxSteps:=1000000 }) (disch:=first | assumption | omega | (simp; done) | fail) [Tryz.results22, *]))
  refine ⟨_,_,_,⟨rfl,rfl,rfl⟩,by omega,fun b hb=>?_,B,HF.out _ _ (by omega) fun b h1 h2=>?_⟩
  ·simp (disch:=omega) only [gput_lt]; exact HG1.out b hb
  ·simp (disch:=omega) only [gput_lt,gput_ne]
 have c3I:¬((ts[i]).2.length:Int)=0:=by omega
 rw [if_neg c3] at HL
 obtain ⟨a2,blk,ha2,hga2,hap⟩:=SliceV.ap0 (P:=Tryz.prog) (sz:=1) HW2.out (by omega) (by omega) (by rw [wdC_len]; omega)
 have hremR:(ib:Int).tmod ((ts[i]).2.length:Int)=((ib % (ts[i]).2.length:Nat) : Int):=(Int.ofNat_tmod ib _).symm
 have hk:ib % (ts[i]).2.length < (ts[i]).2.length:=Nat.mod_lt _ (by omega)
 have HAT:=Hide.mk (okR_at (ts[i]).2 (ib % (ts[i]).2.length) false HTI.out.2.2 hk)
 have HGD:=Hide.mk (getD_mem (d:=(0:Int)) hk)
 have HFIN:Hide (∀ (gF:Nat→Option Blk) (m c:Nat) (r' : List Int),r'.length=(ts[i]).2.length→L=ts.set i ((ts[i]).1,r')→(∀ b,n+1+1≤b→b < n1→b≠B→gF b=g1 b)→gF B=some (.cells (cs.set (i * 2+1) (.slq (n1+1+1) 0 (ts[i]).2.length c)) true 2)→gF (n1+1+1)=some (.cells (wdC r') true 1)→n1+1+1 < m→LogC gF n m B L (.slq B 0 ts.length 0)):=⟨fun gF m c r' h1 h2 h3 h4 h5 h6=>by
  refine ⟨cs.set (i * 2+1) (.slq (n1+1+1) 0 (ts[i]).2.length c),.inr ⟨?_,?_,by omega,by omega,h4,?_⟩,?_,?_⟩
  ·rw [h2,List.length_set]; exact hk0
  ·rw [h2,List.length_set]
  ·rw [h2,List.length_set,List.length_set]; exact hB4
  ·rw [h2]
   refine (HRF.out.keep (by omega) (by omega) (.inr (.inl rfl)) h3).set2 hi ?_
   rw [← h1]
   exact .mk h5 (by omega) h6 (by omega)
  ·intro v hv
   rcases List.mem_or_eq_of_mem_set hv with h | rfl
   ·exact HCC.out v h
   ·intro a o n c e; cases e⟩
 generalize ib % (ts[i]).2.length=k at *
 have hkI:(k:Int) < ((ts[i]).2.length:Int):=by omega
 have hwk:(wdC (ts[i]).2)[k]'(by rw [wdC_len]; exact hk)=.lit (.int .i64 ((ts[i]).2[k])):=(List.getElem?_eq_some_iff.1 (wdC_at _ k hk)).2
 have hwl:(wdC (ts[i]).2).length=(ts[i]).2.length:=wdC_len _
 rw [HGD.out.2] at HAT
 have HCH:Hide (changeR M.out q k (ts[i]).2=if q=2 then (if (ts[i]).2[k] = -1 then (ts[i]).2 else (ts[i]).2.set k (((ts[i]).2[k]+1).tmod M.out)) else (ts[i]).2.take k++List.replicate ((ts[i]).2.length - k) (-1)):=⟨by unfold changeR; rw [HGD.out.2]⟩
 have HWS:Hide (∀ v,(wdC (ts[i]).2).set k (.lit (.int .i64 v))=wdC ((ts[i]).2.set k v)):=⟨fun v=>wdC_set _ _ _⟩
 have ha2n:¬a2=n1:=by omega
 clear HLF FIN0
 generalize (ts[i]).2=r at *
 have hrkO : -1≤r[k]∧r[k] < M.out:=HAT.out
 generalize hxx:r[k]=x at *
 have HXX:=Hide.mk hxx
 clear hxx
 have hx1:=hrkO.1
 have hx2:=hrkO.2
 have hOI:¬M.out=0:=by omega
 by_cases c4:q=2
 ·subst c4
  rw [if_pos rfl] at HCH
  by_cases c5:x = -1
  ·rw [if_pos c5] at HCH
   have HF:=Hide.mk fun gF m c h3 h4 h5 h6=>HFIN.out gF m c r rfl (by rw [HL.out,HCH.out]) h3 h4 h5 h6
   iterate 12 (all_goals try (first | with_reducible refine splitI (fun h=>?_) (fun h=>?_) | with_reducible refine splitBI (fun h=>?_) (fun h=>?_) | simp (config:={ maxSteps:=1000000 }) (disch:=first | assumption | omega | (simp; done) | fail) [Tryz.results22, *]))
   refine LX.roundP (noO_ok _ _) hG pl22 (by decide +kernel) ?_
   iterate 8 (all_goals try (first | with_reducible refine splitI (fun h=>?_) (fun h=>?_) | with_reducible refine splitBI (fun h=>?_) (fun h=>?_) | simp (config:={ maxSteps:=1000000 }) (disch:=first | assumption | omega | (simp; done) | fail) [Tryz.results22, *]))
   refine ⟨_,_,_,⟨rfl,rfl,rfl⟩,by omega,fun b hb=>?_,B,HF.out _ _ 0 (fun b h1 h2 h3=>?_) ?_ ?_ (by omega)⟩
   ·simp (disch:=omega) only [gput_lt]; exact HG1.out b hb
   ·simp (disch:=omega) only [gput_lt,gput_ne]
   ·simp (disch:=omega) only [gput_lt,gput_ne,gput_eq]
   ·simp (disch:=omega) only [gput_lt,gput_ne,gput_eq]
  ·rw [if_neg c5] at HCH
   have HF:=Hide.mk fun gF m c h3 h4 h5 h6=>HFIN.out gF m c (r.set k ((x+1).tmod M.out)) List.length_set (by rw [HL.out,HCH.out]) h3 h4 h5 h6
   have hv0:0≤(x+1).tmod M.out:=Int.tmod_nonneg _ (by omega)
   have hv1:(x+1).tmod M.out < M.out:=Int.tmod_lt_of_pos _ (by omega)
   have hws:=HWS.out ((x+1).tmod M.out)
   have hsl:((wdC r).set k (.lit (.int .i64 ((x+1).tmod M.out)))).length=r.length:=by rw [List.length_set]; exact hwl
   iterate 12 (all_goals try (first | with_reducible refine splitI (fun h=>?_) (fun h=>?_) | with_reducible refine splitBI (fun h=>?_) (fun h=>?_) | simp (config:={ maxSteps:=1000000 }) (disch:=first | assumption | omega | (simp; done) | fail) [Tryz.results22, *]))
   refine LX.roundP (noO_ok _ _) hG pl22 (by decide +kernel) ?_
   iterate 8 (all_goals try (first | with_reducible refine splitI (fun h=>?_) (fun h=>?_) | with_reducible refine splitBI (fun h=>?_) (fun h=>?_) | simp (config:={ maxSteps:=1000000 }) (disch:=first | assumption | omega | (simp; done) | fail) [Tryz.results22, *]))
   refine ⟨_,_,_,⟨rfl,rfl,rfl⟩,by omega,fun b hb=>?_,B,HF.out _ _ 0 (fun b h1 h2 h3=>?_) ?_ ?_ (by omega)⟩
   ·simp (disch:=omega) only [gput_lt]; exact HG1.out b hb
   ·simp (disch:=omega) only [gput_lt,gput_ne]
   ·simp (disch:=omega) only [gput_lt,gput_ne,gput_eq]
   ·simp (disch:=omega) only [gput_lt,gput_ne,gput_eq]
 ·have hq3:q=3:=by omega
  subst hq3
  rw [if_neg c4] at HCH
  have HF:=Hide.mk fun gF m c h3 h4 h5 h6=>HFIN.out gF m c (noneC r k r.length) (noneC_len (by omega) (Nat.le_refl _)) (by rw [HL.out,HCH.out,noneC_end (by omega)]) h3 h4 h5 h6
  iterate 12 (all_goals try (first | with_reducible refine splitI (fun h=>?_) (fun h=>?_) | with_reducible refine splitBI (fun h=>?_) (fun h=>?_) | simp (config:={ maxSteps:=1000000 }) (disch:=first | assumption | omega | (simp; done) | fail) [Tryz.results22, *]))
  obtain ⟨gA,hgA⟩ : ∃ gA,gA=gput (gput g1 n1 (some (.cells [.lit (.int .i64 M.inp),.lit (.int .i64 M.out),.slq B 0 ts.length 0] true 0))) (n1+1) (some (.cells [] true 0)):=⟨_,rfl⟩
  have HGA:=Hide.mk hgA
  rw [← hgA]
  clear hgA
  refine LX.ind (fun m gf H'=>∃ (j:Nat) (gL:Nat→Option Blk),k≤j∧j≤r.length∧m=r.length - j∧H'=⟨.fn gL,n1+1+1+1⟩∧Hide (∀ b,b < n1+1+1→gL b=gA b)∧gL (n1+1+1)=some (.cells (wdC (noneC r k j)) true 1) ∧
   gf 1=some (.ptr n 0)∧gf 2=some (.ptr (n+1) 0)∧gf 3=some (.ptr n1 0)∧gf 4=some (.lit (.int .i64 i))∧gf 5=some (.slq (n1+1+1) 0 r.length 0)∧gf 7=some (.lit (.int .i64 j))) (m0:=r.length - k) ?_ ?_
  ·refine ⟨k,_,Nat.le_refl _,by omega,rfl,rfl,⟨fun b hb=>gput_lt hb⟩,?_,by simp,by simp,by simp,by simp,by simp,by simp⟩
   rw [gput_eq]
   unfold noneC
   rw [Nat.sub_self,List.replicate_zero,List.nil_append,List.take_append_drop]
  rintro m gf H' ⟨j,gL,hkj,hj,rfl,rfl,HG,hgr,w1,w2,w3,w4,w5,w7⟩ ih
  have hgn:=(HG.out n (by omega)).trans ((congrFun HGA.out n).trans (by simp (disch:=omega) only [gput_lt]; exact hgn1))
  have hgo:=(HG.out (n+1) (by omega)).trans ((congrFun HGA.out (n+1)).trans (by simp (disch:=omega) only [gput_lt]; exact hgo1))
  have hgm:gL n1=some (.cells [.lit (.int .i64 M.inp),.lit (.int .i64 M.out),.slq B 0 ts.length 0] true 0):=(HG.out n1 (by omega)).trans ((congrFun HGA.out n1).trans (by simp (disch:=omega) only [gput_lt,gput_eq]))
  have hgB:=(HG.out B (by omega)).trans ((congrFun HGA.out B).trans (by simp (disch:=omega) only [gput_lt]; exact hB3))
  have hrem43:(ic:Int).tmod 4=3:=hrem4
  have hncl:(wdC (noneC r k j)).length=r.length:=by rw [wdC_len,noneC_len hkj hj]
  clear hB3 hgo1 hgn1 hrem4
  refine LX.roundP (noO_ok _ _) hG pl22 (by decide +kernel) ?_
  by_cases hlt:j < r.length
  ·have hltI:(j:Int) < (r.length:Int):=by omega
   have HST:=Hide.mk (noneC_step hkj hlt)
   have HWN:=Hide.mk (wdC_set (noneC r k j) j (-1))
   iterate 8 (all_goals try (first | with_reducible refine splitI (fun h=>?_) (fun h=>?_) | with_reducible refine splitBI (fun h=>?_) (fun h=>?_) | simp (config:={ maxSteps:=1000000 }) (disch:=first | assumption | omega | (simp; done) | fail) [Tryz.results22, *]))
   rw [HWN.out,HST.out]
   refine ih.out (r.length - (j+1)) _ _ (by omega) ⟨j+1,_,by omega,by omega,rfl,rfl,⟨fun b hb=>?_⟩,gput_eq,by simp [*],by simp [*],by simp [*],by simp [*],by simp [*],by simp⟩
   exact (gput_lt hb).trans (HG.out b hb)
  ·have hltI:¬(j:Int) < (r.length:Int):=by omega
   have hjr:j=r.length:=by omega
   have HJR:=Hide.mk hjr
   clear hjr
   iterate 8 (all_goals try (first | with_reducible refine splitI (fun h=>?_) (fun h=>?_) | with_reducible refine splitBI (fun h=>?_) (fun h=>?_) | simp (config:={ maxSteps:=1000000 }) (disch:=first | assumption | omega | (simp; done) | fail) [Tryz.results22, *]))
   refine ⟨_,_,_,⟨rfl,rfl,rfl⟩,by omega,fun b hb=>?_,B,HF.out _ _ 0 (fun b h1 h2 h3=>?_) ?_ ?_ (by omega)⟩
   ·simp (disch:=omega) only [gput_lt]; rw [HG.out b (by omega),HGA.out]; simp (disch:=omega) only [gput_lt]; exact HG1.out b hb
   ·simp (disch:=omega) only [gput_lt,gput_ne]; rw [HG.out b (by omega),HGA.out]; simp (disch:=omega) only [gput_lt,gput_ne]
   ·simp (disch:=omega) only [gput_lt,gput_ne,gput_eq]
   ·simp (disch:=omega) only [gput_lt,gput_ne,gput_eq]; rw [hgr,HJR.out]
end Go.Ai
end
section
namespace Go.Ai
open Go.Proofs
set_option maxRecDepth 10000
set_option maxHeartbeats 40000000
def devP (d:Option (Nat×Nat)) : Int×Int:=match d with
 | some (i,k)=>((i:Int),(k:Int))
 | none=>(0,0)
theorem devF_at {M:MachM} {ts:List (List Int×List Int)} {k:Nat} (hk:k < ts.length) : devF M (ts.drop k) k=match neAt (runM M 0 (ts[k]).1) (ts[k]).2 0 with
  | some j=>some (k,j)
  | none=>devF M (ts.drop (k+1)) (k+1):=by
 rw [List.drop_eq_getElem_cons hk]; rfl
theorem neAt_at {a b:List Int} {j:Nat} (ha:j < a.length) (hb:j < b.length) : neAt (a.drop j) (b.drop j) j=if a[j]=b[j] then neAt (a.drop (j+1)) (b.drop (j+1)) (j+1) else some j:=by
 rw [List.drop_eq_getElem_cons ha,List.drop_eq_getElem_cons hb]; rfl
theorem neAt_end {a b:List Int} {j:Nat} (ha:a.length≤j) : neAt (a.drop j) (b.drop j) j=none:=by
 rw [List.drop_eq_nil_of_le ha]; rfl
theorem RepW.of {g:Nat→Option Blk} {n B:Nat} {w:List Int} {own:Bool} {z:Nat} (h:g B=some (.cells (wdC w) own z)) (hB:B < n) {c:Nat} : RepW g n w (.sl B 0 w.length c):=sliceV_all h hB
end Go.Ai
end
section
namespace Go.Ai
open Go.Proofs
set_option maxRecDepth 10000
set_option maxHeartbeats 40000000
theorem rAgainst_w {M:MachM} (hM:M.ok) {O:Int} {ts:List (List Int×List Int)} (hL:LogOK M.inp O ts) (g:Nat→Option Blk) (n:Nat) (ms:List AV) (sv:AV) (hr:RepM g n M ms) (hT:LogR g n ts sv) :
  WC 3 Tryz.prog 23 [.agg ms,.agg [.lit (.int .i64 M.inp),.lit (.int .i64 O),sv]] ⟨.fn g,n⟩ fun r=>∃ gX n',r=.ret (.tup [.agg [.lit (.int .i64 (devP (devF M ts 0)).1),.lit (.int .i64 (devP (devF M ts 0)).2)],.lit (.bool (devF M ts 0).isSome)]) ⟨.fn gX,n'⟩∧n≤n'∧∀ b,b < n→gX b=g b:=by
 have hlen:=@lenV Tryz.prog _ _ _ _ _ hT.choose_spec.1
 have h1s:=hT.choose_spec.1.one
 have hone:allOne [.lit (.int .i64 M.inp),.lit (.int .i64 O),sv]=true:=by simp [h1s]
 obtain ⟨rv,rfl,h1v⟩:=hr.one
 have honem:allOne [.lit (.int .i64 M.inp),.lit (.int .i64 M.out),rv]=true:=by simp [h1v]
 have HR:=Hide.mk hr
 have HT:=Hide.mk hT
 have HL:=Hide.mk hL
 have HM:=Hide.mk hM
 have htl:=hL.len
 clear hr hT hL hM
 obtain ⟨D,hD⟩ : ∃ D,D=devF M ts 0:=⟨_,rfl⟩
 rw [← hD]
 have HD:=Hide.mk hD
 clear hD
 refine WC.enterP (noO_ok _ _) hG pl23 Tryz.func23 rfl (by decide +kernel) (Nat.le_of_ble_eq_true (by kernel_rfl)) ?_
 iterate 8 (all_goals try (first | with_reducible refine splitI (fun h=>?_) (fun h=>?_) | with_reducible refine splitBI (fun h=>?_) (fun h=>?_) | simp (config:={ maxSteps:=1000000 }) (disch:=first | assumption | omega | (simp; done) | fail) [Tryz.results23, *]))
 refine LX.ind (fun m gf H'=>∃ (k n' : Nat) (gL:Nat→Option Blk),k≤ts.length∧m=ts.length - k∧H'=⟨.fn gL,n'⟩∧n+1+1+1≤n'∧Hide (∀ b,b < n→gL b=g b)∧gL n=some (.cells [.lit (.int .i64 M.inp),.lit (.int .i64 M.out),rv] true 0)∧gL (n+1)=some (.cells [.lit (.int .i64 M.inp),.lit (.int .i64 O),sv] true 0)∧gL (n+1+1)=some (.cells [.lit (.int .i64 0),.lit (.int .i64 0)] true 0) ∧
  Hide (D=devF M (ts.drop k) k)∧gf 2=some (.ptr n 0)∧gf 3=some (.ptr (n+1) 0)∧gf 4=some (.ptr (n+1+1) 0)∧gf 6=some (.lit (.int .i64 k))) (m0:=ts.length) ?_ ?_
 ·refine ⟨0,_,_,Nat.zero_le _,rfl,rfl,Nat.le_refl _,⟨fun b hb=>?_⟩,?_,?_,gput_eq,⟨HD.out⟩,by simp,by simp,by simp,by simp⟩
  ·simp (disch:=omega) only [gput_lt]
  ·simp (disch:=omega) only [gput_lt,gput_eq]
  ·simp (disch:=omega) only [gput_lt,gput_eq]
 rintro m gf H' ⟨k,n',gL,hk,rfl,rfl,hn',HG,hgn,hgl,hgp,HP,w2,w3,w4,w6⟩ ih
 refine LX.roundP (noO_ok _ _) hG pl23 (by decide +kernel) ?_
 by_cases hlt:k < ts.length
 ·have hltI:(k:Int) < (ts.length:Int):=by omega
  obtain ⟨a2,off,s1,s2,HAT0⟩:=(HT.out.mono (show n≤n' by omega) HG.out).at hlt
  have HAT:=Hide.mk HAT0
  clear HAT0
  have hia:∀ {H:Mem} {ev:Ev} {o:Oper} {ty:TypeId},iaS Tryz.prog H ev o ty (some (none,2)) (some sv) (some (.lit (.int .i64 (k:Int))))=.val (.ptr a2 (off+k * 2)) H:=fun {H ev o ty}=>HAT.out.ia
  have han:a2 < n':=HAT.out.an
  have hc0:=HAT.out.c0
  have HLN:=Hide.mk (HL.out.lens (List.getElem_mem hlt))
  have hw12:=HL.out.wl _ (List.getElem_mem hlt)
  have HDE:=Hide.mk (HP.out.trans (devF_at hlt))
  have HR1:=Hide.mk HAT.out.r1
  have HR2:=Hide.mk HAT.out.r2
  have HC1:=Hide.mk HAT.out.c1
  clear HAT
  generalize ts[k]=t at *
  have HRN:=Hide.mk fun (gX:Nat→Option Blk) (n2:Nat) (hn:n'≤n2) (hX:∀ b,b < n'→gX b=gL b)=>rRun_w HM.out t.1 (by omega) HLN.out.2.1 gX n2 [.lit (.int .i64 M.inp),.lit (.int .i64 M.out),rv] s1 (HR.out.mono (by omega) fun b hb=>(hX b (by omega)).trans (HG.out b hb)) (SliceV.mono hn hX HR1.out)
  iterate 8 (all_goals try (first | with_reducible refine splitI (fun h=>?_) (fun h=>?_) | with_reducible refine splitBI (fun h=>?_) (fun h=>?_) | simp (config:={ maxSteps:=1000000 }) (disch:=first | assumption | omega | (simp; done) | fail) [Tryz.results23, *]))
  refine WC.mono (HRN.out _ _ (by omega) fun b hb=>by first | rfl | simp (disch:=omega) only [gput_lt]) ?_
  rintro _ ⟨zv,g2,n2,rfl,hn2,hg2,hfw⟩
  have HG2:=Hide.mk hg2
  have hrl:(runM M 0 t.1).length=t.1.length:=runM_len _ _
  have HRW:=Hide.mk hfw.rep
  have hlenZ:=@lenV Tryz.prog _ _ _ _ _ hfw.rep
  rw [hrl] at hlenZ
  have hgn2:=(hg2 n (by omega)).trans hgn
  have hgl2:=(hg2 (n+1) (by omega)).trans hgl
  have hgp2:=(hg2 (n+1+1) (by omega)).trans hgp
  have HR2':=Hide.mk (SliceV.mono hn2 HG2.out HR2.out)
  have hc1:loadB (some (false,1)) (g2 a2) (off+k * 2+1)=some s2:=(congrArg (fun z=>loadB (some (false,1)) z (off+k * 2+1)) (hg2 a2 han)).trans HC1.out
  clear hg2 HRN hgn hgp hgl hc0 hfw
  have hl2:=HLN.out.1
  generalize runM M 0 t.1=R at *
  iterate 8 (all_goals try (first | with_reducible refine splitI (fun h=>?_) (fun h=>?_) | with_reducible refine splitBI (fun h=>?_) (fun h=>?_) | simp (config:={ maxSteps:=1000000 }) (disch:=first | assumption | omega | (simp; done) | fail) [Tryz.results23, *]))
  refine LX.ind (fun m gf H'=>∃ (j:Nat),j≤t.1.length∧m=t.1.length - j∧H'=⟨.fn g2,n2⟩∧Hide (neAt R t.2 0=neAt (R.drop j) (t.2.drop j) j)∧gf 2=some (.ptr n 0)∧gf 3=some (.ptr (n+1) 0)∧gf 4=some (.ptr (n+1+1) 0)∧gf 6=some (.lit (.int .i64 k)) ∧
   gf 7=some zv∧gf 8=some (.lit (.int .i64 j))) (m0:=t.1.length) ?_ ?_
  ·exact ⟨0,Nat.zero_le _,rfl,rfl,⟨rfl⟩,by simp [*],by simp [*],by simp [*],by simp [*],by simp,by simp⟩
  clear w2 w3 w4 w6
  rintro m gf H' ⟨j,hj,rfl,rfl,HNE,w2,w3,w4,w6,w7,w8⟩ ih2
  refine LX.roundP (noO_ok _ _) hG pl23 (by decide +kernel) ?_
  by_cases hltj:j < t.1.length
  ·have hltjI:(j:Int) < (t.1.length:Int):=by omega
   obtain ⟨a3,o3,ha3,hia3,hc3⟩:=RepW.at (w:=R) HRW.out (by omega:j < R.length)
   obtain ⟨a4,o4,ha4,hia4,hc4⟩:=RepW.at HR2'.out (by omega:j < t.2.length)
   have HNA:=Hide.mk (HNE.out.trans (neAt_at (a:=R) (b:=t.2) (by omega) (by omega)))
   generalize R[j]=x at *
   generalize t.2[j]=y at *
   by_cases hxy:x=y
   ·rw [if_pos hxy] at HNA
    subst hxy
    iterate 8 (all_goals try (first | with_reducible refine splitI (fun h=>?_) (fun h=>?_) | with_reducible refine splitBI (fun h=>?_) (fun h=>?_) | simp (config:={ maxSteps:=1000000 }) (disch:=first | assumption | omega | (simp; done) | fail) [Tryz.results23, *]))
    exact ih2.out (t.1.length - (j+1)) _ _ (by omega) ⟨j+1,by omega,rfl,rfl,HNA,by simp [*],by simp [*],by simp [*],by simp [*],by simp [*],by simp⟩
   ·rw [if_neg hxy] at HNA
    have hDE:=HDE.out
    rw [HNA.out] at hDE
    have hDE2:D=some (k,j):=hDE
    clear hDE HDE HD HP
    subst hDE2
    iterate 8 (all_goals try (first | with_reducible refine splitI (fun h=>?_) (fun h=>?_) | with_reducible refine splitBI (fun h=>?_) (fun h=>?_) | simp (config:={ maxSteps:=1000000 }) (disch:=first | assumption | omega | (simp; done) | fail) [Tryz.results23, *]))
    refine ⟨_,_,⟨⟨rfl,rfl⟩,rfl,rfl⟩,by omega,fun b hb=>?_⟩
    simp (disch:=omega) only [gput_lt]
    exact (HG2.out b (by omega)).trans (HG.out b hb)
  ·have hltjI:¬(j:Int) < (t.1.length:Int):=by omega
   have hNN:=HNE.out.trans (neAt_end (by omega))
   have hDE:=HDE.out
   rw [hNN] at hDE
   have HDN:Hide (D=devF M (ts.drop (k+1)) (k+1)):=⟨hDE⟩
   clear hDE hNN
   iterate 8 (all_goals try (first | with_reducible refine splitI (fun h=>?_) (fun h=>?_) | with_reducible refine splitBI (fun h=>?_) (fun h=>?_) | simp (config:={ maxSteps:=1000000 }) (disch:=first | assumption | omega | (simp; done) | fail) [Tryz.results23, *]))
   refine ih.out (ts.length - (k+1)) _ _ (by omega) ⟨k+1,n2,g2,by omega,rfl,rfl,by omega,⟨fun b hb=>(HG2.out b (by omega)).trans (HG.out b hb)⟩,hgn2,hgl2,hgp2,HDN,by simp [*],by simp [*],by simp [*],by simp⟩
 ·have hltI:¬(k:Int) < (ts.length:Int):=by omega
  have hDE:D=none:=by rw [HP.out,List.drop_eq_nil_of_le (by omega)]; rfl
  clear HP HD
  subst hDE
  iterate 8 (all_goals try (first | with_reducible refine splitI (fun h=>?_) (fun h=>?_) | with_reducible refine splitBI (fun h=>?_) (fun h=>?_) | simp (config:={ maxSteps:=1000000 }) (disch:=first | assumption | omega | (simp; done) | fail) [Tryz.results23, *]))
  refine ⟨_,_,⟨⟨rfl,rfl⟩,rfl,rfl⟩,by omega,fun b hb=>?_⟩
  simp (disch:=omega) only [gput_lt]
  exact HG.out b hb
end Go.Ai
end
section
namespace Go.Ai
open Go.Proofs
set_option maxRecDepth 10000
set_option maxHeartbeats 40000000
theorem rContradiction_w {I O:Int} {ts:List (List Int×List Int)} (hL:LogOK I O ts) (g:Nat→Option Blk) (n:Nat) (sv:AV) (hT:LogR g n ts sv) :
  WC 3 Tryz.prog 24 [.agg [.lit (.int .i64 I),.lit (.int .i64 O),sv]] ⟨.fn g,n⟩ fun r=>∃ gX n',r=.ret (.tup [conC (conB ts ts 0),.lit (.bool (conB ts ts 0).isSome)]) ⟨.fn gX,n'⟩∧n≤n'∧∀ b,b < n→gX b=g b:=by
 have hlen:=@lenV Tryz.prog _ _ _ _ _ hT.choose_spec.1
 have h1s:=hT.choose_spec.1.one
 have hone:allOne [.lit (.int .i64 I),.lit (.int .i64 O),sv]=true:=by simp [h1s]
 have HT:=Hide.mk hT
 have HL:=Hide.mk hL
 have htl:=hL.len
 clear hT hL
 obtain ⟨D,hD⟩ : ∃ D,D=conB ts ts 0:=⟨_,rfl⟩
 rw [← hD]
 have HD:=Hide.mk hD
 clear hD
 refine WC.enterP (noO_ok _ _) hG pl24 Tryz.func24 rfl (by decide +kernel) (Nat.le_of_ble_eq_true (by kernel_rfl)) ?_
 iterate 8 (all_goals try (first | with_reducible refine splitI (fun h=>?_) (fun h=>?_) | with_reducible refine splitBI (fun h=>?_) (fun h=>?_) | simp (config:={ maxSteps:=1000000 }) (disch:=first | assumption | omega | (simp; done) | fail) [Tryz.results24, *]))
 obtain ⟨gA,hgA⟩ : ∃ gA,gA=gput (gput g n (some (.cells [.lit (.int .i64 I),.lit (.int .i64 O),sv] true 0))) (n+1) (some (.cells [.lit (.int .i64 0),.lit (.int .i64 0),.lit (.int .i64 0)] true 0)):=⟨_,rfl⟩
 rw [← hgA]
 have HGA:Hide (∀ b,b < n→gA b=g b):=⟨fun b hb=>by rw [hgA]; simp (disch:=omega) only [gput_lt]⟩
 have hgn:gA n=some (.cells [.lit (.int .i64 I),.lit (.int .i64 O),sv] true 0):=by rw [hgA]; simp (disch:=omega) only [gput_lt,gput_eq]
 have hgp:gA (n+1)=some (.cells [.lit (.int .i64 0),.lit (.int .i64 0),.lit (.int .i64 0)] true 0):=by rw [hgA]; simp (disch:=omega) only [gput_lt,gput_eq]
 clear hgA
 have HT2:=Hide.mk (HT.out.mono (show n≤n+1+1 by omega) HGA.out)
 refine LX.ind (fun m gf H'=>∃ (k:Nat),k≤ts.length∧m=ts.length - k∧H'=⟨.fn gA,n+1+1⟩∧Hide (D=conB ts (ts.drop k) k)∧gf 1=some (.ptr n 0)∧gf 2=some (.ptr (n+1) 0)∧gf 4=some (.lit (.int .i64 k))) (m0:=ts.length) ?_ ?_
 ·exact ⟨0,Nat.zero_le _,rfl,rfl,⟨HD.out⟩,by simp,by simp,by simp⟩
 rintro m gf H' ⟨k,hk,rfl,rfl,HP,w1,w2,w4⟩ ih
 refine LX.roundP (noO_ok _ _) hG pl24 (by decide +kernel) ?_
 by_cases hlt:k < ts.length
 ·have hltI:(k:Int) < (ts.length:Int):=by omega
  obtain ⟨a2,off,r1,r2,HAT0⟩:=HT2.out.at hlt
  have HAT:=Hide.mk HAT0
  clear HAT0
  have hia:∀ {H:Mem} {ev:Ev} {o:Oper} {ty:TypeId},iaS Tryz.prog H ev o ty (some (none,2)) (some sv) (some (.lit (.int .i64 (k:Int))))=.val (.ptr a2 (off+k * 2)) H:=fun {H ev o ty}=>HAT.out.ia
  have han:a2 < n+1+1:=HAT.out.an
  have hagg:=HAT.out.agg
  have h1r1:oneC r1=true:=HAT.out.r1.one
  have h1r2:oneC r2=true:=HAT.out.r2.one
  have honeR:allOne [r1,r2]=true:=by simp [h1r1,h1r2]
  have HDE:=Hide.mk (HP.out.trans (conB_at hlt))
  have HLT:=Hide.mk (HL.out.lens (List.getElem_mem hlt))
  have HWT:=Hide.mk (HL.out.wl _ (List.getElem_mem hlt))
  have HR1:=Hide.mk HAT.out.r1
  have HR2:=Hide.mk HAT.out.r2
  clear HAT
  generalize ts[k]=t at *
  iterate 8 (all_goals try (first | with_reducible refine splitI (fun h=>?_) (fun h=>?_) | with_reducible refine splitBI (fun h=>?_) (fun h=>?_) | simp (config:={ maxSteps:=1000000 }) (disch:=first | assumption | omega | (simp; done) | fail) [Tryz.results24, *]))
  refine LX.ind (fun m gf H'=>∃ (j:Nat),j≤k∧m=k - j∧H'=⟨.fn gA,n+1+1⟩∧Hide (conA t (ts.take k) 0=conA t ((ts.take k).drop j) j) ∧
   gf 1=some (.ptr n 0)∧gf 2=some (.ptr (n+1) 0)∧gf 4=some (.lit (.int .i64 k))∧gf 5=some (.lit (.int .i64 j))) (m0:=k) ?_ ?_
  ·exact ⟨0,Nat.zero_le _,rfl,rfl,⟨rfl⟩,by simp [*],by simp [*],by simp [*],by simp⟩
  clear w1 w2 w4
  rintro m gf H' ⟨j,hj,rfl,rfl,HNE,w1,w2,w4,w5⟩ ih2
  refine LX.roundP (noO_ok _ _) hG pl24 (by decide +kernel) ?_
  by_cases hltj:j < k
  ·have hltjI:(j:Int) < (k:Int):=by omega
   have hjl:j < (ts.take k).length:=by rw [List.length_take]; omega
   obtain ⟨a3,o3,s1,s2,HAU0⟩:=HT2.out.at (show j < ts.length by omega)
   have HAU:=Hide.mk HAU0
   clear HAU0
   have hia3:∀ {H:Mem} {ev:Ev} {o:Oper} {ty:TypeId},iaS Tryz.prog H ev o ty (some (none,2)) (some sv) (some (.lit (.int .i64 (j:Int))))=.val (.ptr a3 (o3+j * 2)) H:=fun {H ev o ty}=>HAU.out.ia
   have han3:a3 < n+1+1:=HAU.out.an
   have hagg3:=HAU.out.agg
   have h1s1:oneC s1=true:=HAU.out.r1.one
   have h1s2:oneC s2=true:=HAU.out.r2.one
   have honeS:allOne [s1,s2]=true:=by simp [h1s1,h1s2]
   have HMU:Hide (ts[j]∈ts):=⟨List.getElem_mem _⟩
   have HLU:=Hide.mk (HL.out.lens HMU.out)
   have HWU:=Hide.mk (HL.out.wl _ HMU.out)
   have hna:=HNE.out.trans (conA_at hjl)
   rw [List.getElem_take] at hna
   have HNA:=Hide.mk hna
   have HS1:=Hide.mk HAU.out.r1
   have HS2:=Hide.mk HAU.out.r2
   clear HAU hna
   generalize ts[j]=u at *
   have HST:=Hide.mk (rStep_w (I:=I) (O:=O) HLU.out.1 HLT.out.1 HWU.out HWT.out gA (n+1+1) s1 s2 r1 r2 HS1.out HS2.out HR1.out HR2.out)
   have HSI:Hide (stepI u t=optI (stepL u.1 u.2 t.1 t.2 0)):=⟨rfl⟩
   generalize stepI u t=z at *
   iterate 8 (all_goals try (first | with_reducible refine splitI (fun h=>?_) (fun h=>?_) | with_reducible refine splitBI (fun h=>?_) (fun h=>?_) | simp (config:={ maxSteps:=1000000 }) (disch:=first | assumption | omega | (simp; done) | fail) [Tryz.results24, *]))
   refine WC.mono HST.out ?_
   rintro _ rfl
   cases hq:stepL u.1 u.2 t.1 t.2 0 with
   | none =>
    have hz:z = -1:=by rw [HSI.out,hq]; rfl
    rw [hq] at HNA
    have HNB:Hide (conA t (ts.take k) 0=conA t ((ts.take k).drop (j+1)) (j+1)):=⟨HNA.out⟩
    clear HNA hq HSI
    subst hz
    iterate 8 (all_goals try (first | with_reducible refine splitI (fun h=>?_) (fun h=>?_) | with_reducible refine splitBI (fun h=>?_) (fun h=>?_) | simp (config:={ maxSteps:=1000000 }) (disch:=first | assumption | omega | (simp; done) | fail) [Tryz.results24, *]))
    exact ih2.out (k - (j+1)) _ _ (by omega) ⟨j+1,by omega,rfl,rfl,HNB,by simp [*],by simp [*],by simp [*],by simp⟩
   | some v =>
    have hz:z=v:=by rw [HSI.out,hq]; rfl
    rw [hq] at HNA
    have hDE:=HDE.out
    rw [HNA.out] at hDE
    have hDE2:D=some (j,k,v):=hDE
    clear HNA hq HSI hDE HDE HD HP
    subst hz hDE2
    iterate 8 (all_goals try (first | with_reducible refine splitI (fun h=>?_) (fun h=>?_) | with_reducible refine splitBI (fun h=>?_) (fun h=>?_) | simp (config:={ maxSteps:=1000000 }) (disch:=first | assumption | omega | (simp; done) | fail) [Tryz.results24, *]))
    refine ⟨_,_,⟨rfl,rfl,rfl⟩,by omega,fun b hb=>?_⟩
    simp (disch:=omega) only [gput_lt]
    exact HGA.out b hb
  ·have hltjI:¬(j:Int) < (k:Int):=by omega
   have hNN:=HNE.out.trans (by rw [List.drop_eq_nil_of_le (by rw [List.length_take]; omega)]; rfl:_=none)
   have hDE:=HDE.out
   rw [hNN] at hDE
   have HDN:Hide (D=conB ts (ts.drop (k+1)) (k+1)):=⟨hDE⟩
   clear hDE hNN
   iterate 8 (all_goals try (first | with_reducible refine splitI (fun h=>?_) (fun h=>?_) | with_reducible refine splitBI (fun h=>?_) (fun h=>?_) | simp (config:={ maxSteps:=1000000 }) (disch:=first | assumption | omega | (simp; done) | fail) [Tryz.results24, *]))
   exact ih.out (ts.length - (k+1)) _ _ (by omega) ⟨k+1,by omega,rfl,rfl,HDN,by simp [*],by simp [*],by simp⟩
 ·have hltI:¬(k:Int) < (ts.length:Int):=by omega
  have hDE:D=none:=by rw [HP.out,List.drop_eq_nil_of_le (by omega)]; rfl
  clear HP HD
  subst hDE
  iterate 8 (all_goals try (first | with_reducible refine splitI (fun h=>?_) (fun h=>?_) | with_reducible refine splitBI (fun h=>?_) (fun h=>?_) | simp (config:={ maxSteps:=1000000 }) (disch:=first | assumption | omega | (simp; done) | fail) [Tryz.results24, *]))
  refine ⟨_,_,⟨rfl,rfl,rfl⟩,by omega,fun b hb=>?_⟩
  simp (disch:=omega) only [gput_lt]
  exact HGA.out b hb
end Go.Ai
end
section
namespace Go.Ai
open Go.Proofs
set_option maxRecDepth 10000
set_option maxHeartbeats 40000000
end Go.Ai
end
section
namespace Go.Ai
open Go.Proofs
set_option maxRecDepth 10000
set_option maxHeartbeats 40000000
end Go.Ai
end
section
namespace Go.Ai
open Go.Proofs
set_option maxRecDepth 10000
set_option maxHeartbeats 40000000
theorem nodW_len:∀ (w r:List Int) (L:List (List Int)) (p:List Int),(nodW L p w r).length≤L.length+w.length
 | [],r,L,p=>by cases r <;> exact Nat.le_refl _
 | _ :: _,[],L,p=>Nat.le_add_right _ _
 | i :: w,o :: r,L,p=>by
  have h1:=nodW_len w r (insW (p++[i]) L) (p++[i])
  have h2:=@insW_len (p++[i]) L
  unfold nodW
  rw [List.length_cons]
  split <;> omega
theorem nodesM_len {ts:List (List Int×List Int)} (h:∀ t∈ts,t.1.length≤256) : (nodesM ts).length≤1+256 * ts.length:=by
 have key:∀ (us:List (List Int×List Int)) (out:List (List Int)),(∀ t∈us,t.1.length≤256)→(us.foldl (fun out t=>nodW out [] t.1 t.2) out).length≤out.length+256 * us.length:=by
  intro us
  induction us with
  | nil=>intro out _; exact Nat.le_refl _
  | cons t us ih =>
   intro out hu
   have h1:=ih (nodW out [] t.1 t.2) fun t ht=>hu t (by simp [ht])
   have h2:=nodW_len t.1 t.2 out []
   have h3:=hu t (by simp)
   rw [List.foldl_cons,List.length_cons]
   omega
 exact key ts [[]] h
end Go.Ai
end
section
namespace Go.Ai
set_option maxRecDepth 10000
theorem nod_nodes {I:Nat} {O:Int} {ts:List (List Int×List Int)} (hv:∀ t∈ts,validB I O t=true) (hc:Cons ts) : Nod (valT ts) (nodesM ts):=by
 obtain ⟨us,hN,_⟩:=tree_ok (I:=I) _ ts rfl hc hv
 exact ⟨(nodesM_ok hv).1.nodup,fun w=>nodesM_val hv hc w,hN.clo⟩
theorem idx_nil {ws:List (List Int)} (hs:Srt2 ws) (h:[]∈ws) : ws.idxOf []=0:=by
 obtain ⟨hl,hat⟩:=idx_at h
 by_cases h0:ws.idxOf []=0
 ·exact h0
 ·have h1:=hs 0 (ws.idxOf []) (by omega) hl (by omega)
  rw [hat] at h1
  have h2:=h1.le
  have h3:ws[0]=[]:=List.eq_nil_of_length_eq_zero (by simpa using h2)
  rw [h3] at h1
  exact absurd h1 SL.irrefl
theorem ans_log {I:Nat} {O:Int} {ts:List (List Int×List Int)} (hv:∀ t∈ts,validB I O t=true) (hc:Cons ts) {w:List Int} (hw:inW w I=true) : ansM (rowsL I ts) 0 w=knM (valT ts) false [] w:=by
 have hN:=nod_nodes hv hc
 have h0:[]∈nodesM ts:=(nodesM_val hv hc []).2 (.inl rfl)
 have h:=ans_kn (I:=I) hN w [] h0 hw
 rw [idx_nil (nodesM_ok hv).1 h0] at h
 exact h
theorem knM_len {V:List Int→Option Int} : ∀ (w p:List Int) (d:Bool) (r:List Int),knM V d p w=some r→r.length=w.length
 | [],p,d,r,h=>by rw [knM_nil] at h; injection h with h; rw [← h]
 | i :: w,p,true,r,h=>by
  rw [knM_dead] at h; injection h with h; rw [← h]; simp
 | i :: w,p,false,r,h=>by
  have h' : (match V (p++[i]) with
   | none=>none
   | some o=>(knM V (decide (o = -1)) (p++[i]) w).map (o :: ·))=some r:=h
  cases hV:V (p++[i]) with
  | none=>rw [hV] at h'; cases h'
  | some o =>
   rw [hV] at h'
   have h2:(knM V (decide (o = -1)) (p++[i]) w).map (o :: ·)=some r:=h'
   cases hq:knM V (decide (o = -1)) (p++[i]) w with
   | none=>rw [hq] at h2; cases h2
   | some q =>
    rw [hq] at h2
    have h3:o :: q=r:=by injection h2
    rw [← h3,List.length_cons,List.length_cons,knM_len w _ _ q hq]
end Go.Ai
end
