/- A small verified interpreter over names, its proofs, and what was proved with it. No condition. -/
import Derived.Test.YtpimmmnkcgnjjaaGreatN10
import Derived.Test.YtpimmmnkcgnjjaaGreatN11
import Derived.Test.YtpimmmnkcgnjjaaGreatN06
import Derived.Test.YtpimmmnkcgnjjaaGreatN09
import Derived.Test.YtpimmmnkcgnjjaaGreatN05
set_option linter.all false
set_option linter.deprecated false
section
namespace Go.Ai
open Go.Proofs
set_option maxRecDepth 10000
set_option maxHeartbeats 40000000
def AnsK (g:Nat→Option Blk) (lo n:Nat) : Option (List Int)→AV→Prop
 | none,rv=>rv=.lit (.slice none 0 0)
 | some r,rv=>FreshW g lo n r rv∧CapV rv
theorem ansM_stepK {T:List (List (Int×Int))} {a:Nat} {i:Nat} {w:List Int} (ha:a < T.length) (hi:i < (T[a]).length) : ansM T ((a:Nat) : Int) ((i:Int) :: w)=if (T[a][i]).1 = -1 then (if (T[a][i]).2 = -2 then some (List.replicate (w.length+1) (-1)) else none) else (ansM T (T[a][i]).1 w).map ((T[a][i]).2 :: ·):=by
 have e:(T.getD ((a:Nat) : Int).toNat []).getD ((i:Nat) : Int).toNat (-1,-1)=T[a][i]:=by
  rw [Int.toNat_natCast,Int.toNat_natCast,List.getD_eq_getElem?_getD,List.getD_eq_getElem?_getD,List.getElem?_eq_getElem ha]
  simp [hi]
 rw [ansM,e]
def restK (T:List (List (Int×Int))) (x:Int) (r w:List Int) : Option (List Int):=if x = -1 then some (r++List.replicate w.length (-1)) else (ansM T x w).map (r ++ ·)
theorem tknown_w {I:Nat} {T:List (List (Int×Int))} (h0:0 < T.length) (hok:∀ r∈T,r.length=I∧∀ e∈r,e.1 = -1∨(0≤e.1∧e.1 < T.length)) {w:List Int} (hwl:w.length≤1000) (hin:inW w I=true) (c0 c1 c2 c3 c4 c5:AV) (hc:allOne [c0,c1,c2,c3,c4,c5]=true) (g:Nat→Option Blk) (n:Nat) (tv wv:AV) (hT:TreeV g n T tv) (hw:RepW g n w wv) :
  WC 0 Tryz.prog 96 [.agg [c0,c1,c2,c3,c4,c5,tv],wv] ⟨.fn g,n⟩ fun r=>∃ rv g' n',r=.ret (.tup [rv,.lit (.bool (ansM T 0 w).isSome)]) ⟨.fn g',n'⟩∧n≤n'∧(∀ b,b < n→g' b=g b)∧AnsK g' n n' (ansM T 0 w) rv:=by
 have hlen:=@lenV Tryz.prog _ _ _ _ _ hw
 have h1t:=hT.choose_spec.1.one
 have hone:allOne [c0,c1,c2,c3,c4,c5,tv]=true:=by
  simp only [allOne_cons,Bool.and_eq_true] at hc ⊢
  simp [hc,h1t]
 have HT:=Hide.mk hT
 have HW:=Hide.mk hw
 have HOK:=Hide.mk hok
 have HIN:Hide (∀ (k:Nat) (h:k < w.length),∃ j:Nat,w[k]=(j:Int)∧j < I):=⟨fun k h=>by
  have h2:0≤w[k]∧w[k] < (I:Int):=by simpa using List.all_eq_true.1 hin _ (List.getElem_mem h)
  exact ⟨(w[k]).toNat,by omega,by omega⟩⟩
 obtain ⟨RES,hRES⟩ : ∃ x,x=ansM T 0 w:=⟨_,rfl⟩
 rw [← hRES]
 have HRES:Hide (RES=restK T 0 [] w):=⟨by rw [hRES]; unfold restK; rw [if_neg (by decide)]; cases ansM T 0 w <;> rfl⟩
 clear hT hw hok hin hRES hc
 have hW2:(w.length:Int)≤1048576:=by omega
 refine WC.enterP (noO_ok _ _) hG [] Tryz.func96 rfl (by decide +kernel) (Nat.le_of_ble_eq_true (by kernel_rfl)) ?_
 iterate 8 all_goals try first|with_reducible refine splitI (fun h=>?_) fun h=>?_|with_reducible refine splitBI (fun h=>?_) fun h=>?_|simp (maxSteps:=999999) (disch:=first|assumption|omega|(simp;done)|fail) [Tryz.results96, *]
 refine LX.ind (fun m gf H'=>∃ (k n2:Nat) (gL:Nat→Option Blk) (Lo:List AV) (r:List Int) (x:Int),k≤w.length∧m=w.length - k∧H'=⟨.fn gL,n2⟩∧n+1+1≤n2∧(x = -1∨(0≤x∧x < T.length))∧Hide (∀ b,b < n→gL b=g b)∧gL n=some (.cells [c0,c1,c2,c3,c4,c5,tv] true 0)∧gL (n+1)=some (.cells Lo true 0)∧Lo.length=w.length∧Hide (Lo.take k=wdC r)∧Hide (r.length=k)∧Hide (RES=restK T x r (w.drop k)) ∧
  gf 1=some wv∧gf 2=some (.ptr n 0)∧gf 6=some (.sl (n+1) 0 k w.length)∧gf 7=some (.lit (.int .i64 x))∧gf 14=some wv∧gf 15=some (.lit (.int .i64 w.length))∧gf 16=some (.lit (.int .i64 k))) (m0:=w.length) ?_ ?_
 ·refine ⟨0,_,_,_,[],0,Nat.zero_le _,rfl,rfl,Nat.le_refl _,.inr ⟨by decide,by omega⟩,⟨fun b hb=>?_⟩,?_,gput_eq,?_,⟨rfl⟩,⟨rfl⟩,HRES,by simp,by simp,by simp,by simp,by simp,by simp,by simp⟩
  ·simp (disch:=omega) only [gput_lt]
  ·simp (disch:=omega) only [gput_lt,gput_eq]
  ·rw [rep_len]; simp
 clear HRES
 rintro m gf H' ⟨k,n2,gL,Lo,r,x,hk,rfl,rfl,hn2,hx,HG,hgn,hgo,hLo,HLo,HRL,HRE,w1,w2,w6,w7,w14,w15,w16⟩ ih
 refine LX.roundP (noO_ok _ _) hG [] (by decide +kernel) ?_
 by_cases hlt:k < w.length
 ·have hltI:(k:Int) < (w.length:Int):=by omega
  obtain ⟨j,hj,hjI⟩:=HIN.out k hlt
  obtain ⟨a2,o2,ha2,hia2,hc2⟩:=RepW.at HW.out hlt
  rw [← HG.out a2 ha2] at hc2
  by_cases hxm:x = -1
  ·subst hxm
   have HR2:Hide (RES=restK T (-1) (r++[-1]) (w.drop (k+1))):=⟨by
    rw [HRE.out]
    unfold restK
    rw [if_pos rfl,if_pos rfl,List.drop_eq_getElem_cons hlt,List.length_cons,List.replicate_succ]
    simp⟩
   have hLk:k+([.lit (.int .i64 (-1))] : List AV).length≤Lo.length:=by simp; omega
   have HPL:Hide ((putR Lo k [.lit (.int .i64 (-1))]).length=w.length∧(putR Lo k [.lit (.int .i64 (-1))]).take (k+1)=wdC (r++[-1])):=⟨by
    refine ⟨by rw [putR_len hLk]; exact hLo,?_⟩
    have h1:=putR_take hLk
    rw [HLo.out] at h1
    exact h1.trans (by simp [wdC])⟩
   clear HRE
   iterate 8 all_goals try first|with_reducible refine splitI (fun h=>?_) fun h=>?_|with_reducible refine splitBI (fun h=>?_) fun h=>?_|simp (maxSteps:=999999) (disch:=first|assumption|omega|(simp;done)|fail) [Tryz.results96, *]
   refine ih.out (w.length - (k+1)) _ _ (by omega) ⟨k+1,_,_,putR Lo k [.lit (.int .i64 (-1))],r++[-1],-1,by omega,rfl,rfl,by omega,by omega,⟨fun b hb=>?_⟩,?_,?_,HPL.out.1,⟨HPL.out.2⟩,⟨by simp [HRL.out]⟩,HR2,by simp [*],by simp [*],by simp [*],by simp [*],by simp [*],by simp [*],by simp⟩
   ·simp (disch:=omega) only [gput_lt,gput_ne]; exact HG.out b hb
   ·simp (disch:=omega) only [gput_lt,gput_ne]; exact hgn
   ·simp (disch:=omega) only [gput_lt,gput_ne,gput_eq]
  ·obtain ⟨a,rfl⟩ : ∃ a:Nat,x=a:=⟨x.toNat,by omega⟩
   have hat:a < T.length:=by omega
   have hxn:¬(a:Int) < 0:=by omega
   rw [hj] at hc2
   obtain ⟨a3,o3,tq,ha3,hia3,hc3,htq⟩:=HT.out.at hat
   have hrow:=HOK.out _ (List.getElem_mem hat)
   have hjt:j < (T[a]).length:=by omega
   have HE1:=Hide.mk (hrow.2 _ (List.getElem_mem hjt))
   obtain ⟨a4,o4,ha4,hia4,hc4⟩:=edge_at htq hjt
   rw [← HG.out a3 ha3] at hc3
   rw [← HG.out a4 ha4] at hc4
   have HST:=Hide.mk (show RES=(if (T[a][j]).1 = -1 then (if (T[a][j]).2 = -2 then some (List.replicate ((w.drop (k+1)).length+1) (-1)) else none) else (ansM T (T[a][j]).1 (w.drop (k+1))).map ((T[a][j]).2 :: ·)).map (r ++ ·) from by
    rw [HRE.out]
    unfold restK
    rw [if_neg (by omega),List.drop_eq_getElem_cons hlt,hj,ansM_stepK hat hjt])
   clear hj hrow htq HRE hx
   generalize T[a][j]=e at *
   obtain ⟨to,eo⟩:=e
   dsimp only at HST HE1 hc4
   by_cases ht:to = -1
   ·subst ht
    rw [if_pos rfl] at HST
    by_cases ho:eo = -2
    ·subst ho
     have HR2:Hide (RES=restK T (-1) (r++[-1]) (w.drop (k+1))):=⟨by
      rw [HST.out,if_pos rfl]
      unfold restK
      rw [if_pos rfl,List.replicate_succ]
      simp⟩
     have hLk:k+([.lit (.int .i64 (-1))] : List AV).length≤Lo.length:=by simp; omega
     have HPL:Hide ((putR Lo k [.lit (.int .i64 (-1))]).length=w.length∧(putR Lo k [.lit (.int .i64 (-1))]).take (k+1)=wdC (r++[-1])):=⟨by
      refine ⟨by rw [putR_len hLk]; exact hLo,?_⟩
      have h1:=putR_take hLk
      rw [HLo.out] at h1
      exact h1.trans (by simp [wdC])⟩
     clear HST HE1
     iterate 8 all_goals try first|with_reducible refine splitI (fun h=>?_) fun h=>?_|with_reducible refine splitBI (fun h=>?_) fun h=>?_|simp (maxSteps:=999999) (disch:=first|assumption|omega|(simp;done)|fail) [Tryz.results96, *]
     refine ih.out (w.length - (k+1)) _ _ (by omega) ⟨k+1,_,_,putR Lo k [.lit (.int .i64 (-1))],r++[-1],-1,by omega,rfl,rfl,by omega,by omega,⟨fun b hb=>?_⟩,?_,?_,HPL.out.1,⟨HPL.out.2⟩,⟨by simp [HRL.out]⟩,HR2,by simp [*],by simp [*],by simp [*],by simp [*],by simp [*],by simp [*],by simp⟩
     ·simp (disch:=omega) only [gput_lt,gput_ne]; exact HG.out b hb
     ·simp (disch:=omega) only [gput_lt,gput_ne]; exact hgn
     ·simp (disch:=omega) only [gput_lt,gput_ne,gput_eq]
    ·have hR:RES=none:=by rw [HST.out,if_neg ho]; rfl
     clear HST HE1
     subst hR
     simp only [Option.isSome]
     iterate 8 all_goals try first|with_reducible refine splitI (fun h=>?_) fun h=>?_|with_reducible refine splitBI (fun h=>?_) fun h=>?_|simp (maxSteps:=999999) (disch:=first|assumption|omega|(simp;done)|fail) [Tryz.results96, *]
     exact ⟨_,_,_,⟨rfl,rfl,rfl⟩,by omega,fun b hb=>(gput_lt (by omega)).trans (HG.out b hb),rfl⟩
   ·rw [if_neg ht] at HST
    have HR2:Hide (RES=restK T to (r++[eo]) (w.drop (k+1))):=⟨by
     rw [HST.out]
     unfold restK
     rw [if_neg ht]
     cases ansM T to (w.drop (k+1)) <;> simp⟩
    have hto:0≤to∧to < T.length:=HE1.out.resolve_left ht
    have hLk:k+([.lit (.int .i64 (eo))] : List AV).length≤Lo.length:=by simp; omega
    have HPL:Hide ((putR Lo k [.lit (.int .i64 (eo))]).length=w.length∧(putR Lo k [.lit (.int .i64 (eo))]).take (k+1)=wdC (r++[eo])):=⟨by
     refine ⟨by rw [putR_len hLk]; exact hLo,?_⟩
     have h1:=putR_take hLk
     rw [HLo.out] at h1
     exact h1.trans (by simp [wdC])⟩
    clear HST HE1
    iterate 8 all_goals try first|with_reducible refine splitI (fun h=>?_) fun h=>?_|with_reducible refine splitBI (fun h=>?_) fun h=>?_|simp (maxSteps:=999999) (disch:=first|assumption|omega|(simp;done)|fail) [Tryz.results96, *]
    refine ih.out (w.length - (k+1)) _ _ (by omega) ⟨k+1,_,_,putR Lo k [.lit (.int .i64 eo)],r++[eo],to,by omega,rfl,rfl,by omega,.inr hto,⟨fun b hb=>?_⟩,?_,?_,HPL.out.1,⟨HPL.out.2⟩,⟨by simp [HRL.out]⟩,HR2,by simp [*],by simp [*],by simp [*],by simp [*],by simp [*],by simp [*],by simp⟩
    ·simp (disch:=omega) only [gput_lt,gput_ne]; exact HG.out b hb
    ·simp (disch:=omega) only [gput_lt,gput_ne]; exact hgn
    ·simp (disch:=omega) only [gput_lt,gput_ne,gput_eq]
 ·have hltI:¬(k:Int) < (w.length:Int):=by omega
  have hkw:k=w.length:=by omega
  have hR:RES=some r:=by
   rw [HRE.out,List.drop_eq_nil_of_le (by omega)]
   unfold restK
   split <;> simp [ansM]
  clear HRE
  subst hR
  iterate 8 all_goals try first|with_reducible refine splitI (fun h=>?_) fun h=>?_|with_reducible refine splitBI (fun h=>?_) fun h=>?_|simp (maxSteps:=999999) (disch:=first|assumption|omega|(simp;done)|fail) [Tryz.results96, *]
  have HRW:Hide (gL (n+1)=some (.cells (wdC r) true 0)):=⟨by rw [hgo,← HLo.out,List.take_of_length_le (by omega)]⟩
  refine ⟨_,_,_,⟨rfl,rfl,rfl⟩,by omega,HG.out,⟨fun x=>if x=n+1 then gL x else none,fun x y hx=>?_,?_⟩,fun _ _ _ _ e=>by cases e; omega⟩
  ·have hx' : (if x=n+1 then gL x else none)=some y:=hx
   split at hx'
   ·exact ⟨hx',by omega,by omega⟩
   ·cases hx'
  ·have h6:RepW (fun x=>if x=n+1 then gL x else none) n2 r (.sl (n+1) 0 r.length w.length):=RepW.of (own:=true) (z:=0) ((if_pos rfl).trans HRW.out) (by omega)
   rw [HRL.out,hkw] at h6
   exact h6
def TightV (len:Nat) (rv:AV) : Prop:=(len=0∧rv=.lit (.slice none 0 0))∨∃ a o,rv=.sl a o len len
def RowK (g:Nat→Option Blk) (lo n:Nat) : Option (List Int)→AV→Prop
 | none,rv=>rv=.lit (.slice none 0 0)
 | some r,rv=>FreshW g lo n r rv∧TightV r.length rv
def OutV (g:Nat→Option Blk) (lo n A c:Nat) (r:List Int) (rv:AV) : Prop :=
 (∃ Lo,rv=.sl A 0 r.length c∧lo≤A∧A < n∧g A=some (.cells Lo true 0)∧Lo.length=c∧Lo.take r.length=wdC r∧r.length≤c)∨(0 < r.length∧∃ B,rv=.slq B 0 r.length 0∧lo≤B∧B < n∧g B=some (.cells (wdC r) true 1))
theorem OutV.rep {g:Nat→Option Blk} {lo n A c:Nat} {r:List Int} {rv:AV} (h:OutV g lo n A c r rv) : RepW g n r rv:=by
 rcases h with ⟨Lo,rfl,h1,h2,h3,h4,h5,h6⟩ | ⟨h0,B,rfl,h1,h2,h3⟩
 ·refine .inr ⟨A,0,h2,.inl ⟨c,rfl⟩,Lo,true,0,h3,?_,?_⟩
  ·rw [wdC_len]; omega
  ·rw [wdC_len,List.drop_zero]; exact h5
 ·exact .inr ⟨B,0,h2,.inr ⟨0,rfl⟩,wdC r,true,1,h3,by simp,by simp⟩
def LogC (g:Nat→Option Blk) (lo n B:Nat) (ts:List (List Int×List Int)) (sv:AV) : Prop:=∃ cs,GrowV g lo n B sv ts.length 2 cs∧RowsF g lo n B ts cs∧∀ v∈cs,CapV v
theorem LogC.logF {g:Nat→Option Blk} {lo n B:Nat} {ts:List (List Int×List Int)} {sv:AV} (h:LogC g lo n B ts sv) : LogF g lo n B ts sv:=let ⟨cs,h1,h2,_⟩:=h; ⟨cs,h1,h2⟩
theorem LogC.one {g:Nat→Option Blk} {lo n B:Nat} {ts:List (List Int×List Int)} {sv:AV} (h:LogC g lo n B ts sv) : oneC sv=true:=h.logF.one
theorem LogC.keep {g g' : Nat→Option Blk} {lo lo' n n' B:Nat} {ts:List (List Int×List Int)} {sv:AV} (h:LogC g lo n B ts sv) (h0:lo'≤lo) (h2:n≤n') (hg:∀ a,lo≤a→a < n→g' a=g a) : LogC g' lo' n' B ts sv:=by
 obtain ⟨cs,h1,h3,h4⟩:=h
 refine ⟨cs,?_,h3.keep h0 h2 (.inr (.inl rfl)) fun a h4 h5 _=>hg a h4 h5,h4⟩
 rcases h1 with h1 | ⟨k1,k2,k3,k4,k5,k6⟩
 ·exact .inl h1
 ·exact .inr ⟨k1,k2,by omega,by omega,(hg B k3 k4).trans k5,k6⟩
def hidE (x y z:Nat) (g:Nat→Option Blk) : Nat→Option Blk:=fun a=>if a=x∨a=y∨a=z then none else g a
theorem hidE_some {x y z a:Nat} {g:Nat→Option Blk} {u:Blk} (h:hidE x y z g a=some u) : g a=some u:=by
 unfold hidE at h; split at h
 ·cases h
 ·exact h
theorem hidE_ne {x y z a:Nat} {g:Nat→Option Blk} (h1:a≠x) (h2:a≠y) (h3:a≠z) : hidE x y z g a=g a:=if_neg (by omega)
theorem hidE_congr {x y z a:Nat} {g g' : Nat→Option Blk} (h:a≠x→a≠y→a≠z→g' a=g a) : hidE x y z g' a=hidE x y z g a:=by
 unfold hidE; split
 ·rfl
 ·exact h (by omega) (by omega) (by omega)
def ListC (g:Nat→Option Blk) (n:Nat) (l:List (List Int)) (sv:AV) : Prop:=∃ svs,SliceV g n sv l.length svs∧RowsW g n l svs∧∀ q∈svs,CapV q
theorem ListC.ext {g g' : Nat→Option Blk} {n n' : Nat} {l:List (List Int)} {sv:AV} (h:ListC g n l sv) (hn:n≤n') (hg:∀ a x,a < n→g a=some x→g' a=some x) : ListC g' n' l sv :=
 let ⟨svs,h1,h2,h3⟩:=h; ⟨svs,SliceV.ext hn hg h1,h2.ext hn hg,h3⟩
theorem ListC.listV {g:Nat→Option Blk} {n:Nat} {l:List (List Int)} {sv:AV} (h:ListC g n l sv) : ListV g n l sv:=let ⟨svs,h1,h2,_⟩:=h; ⟨svs,h1,h2⟩
theorem ListC.one {g:Nat→Option Blk} {n:Nat} {l:List (List Int)} {sv:AV} (h:ListC g n l sv) : oneC sv=true:=let ⟨_,h1,_⟩:=h; h1.one
theorem ListC.cell {g:Nat→Option Blk} {n:Nat} {l:List (List Int)} {sv:AV} (h:ListC g n l sv) : cellsOf sv=[sv]:=let ⟨_,h1,_⟩:=h; h1.cell
theorem RowsT.snocT {g:Nat→Option Blk} {n:Nat} {ts:List (List Int×List Int)} {cs:List AV} (h:RowsT g n ts cs) {t:List Int×List Int} {s1 s2:AV} (h1:RepW g n t.1 s1) (h2:RepW g n t.2 s2) : RowsT g n (ts++[t]) (cs++[s1,s2]):=by
 have hl:=h.1
 refine ⟨by simp [hl]; omega,fun k hk=>?_⟩
 rw [List.length_append,List.length_singleton] at hk
 by_cases hlt:k < ts.length
 ·obtain ⟨u1,u2,e1,e2,e3,e4⟩:=h.2 k hlt
  rw [List.getElem_append_left hlt]
  exact ⟨u1,u2,by rw [List.getElem?_append_left (by omega)]; exact e1,by rw [List.getElem?_append_left (by omega)]; exact e2,e3,e4⟩
 ·have hk2:k=ts.length:=by omega
  subst hk2
  refine ⟨s1,s2,?_,?_,?_,?_⟩
  ·rw [List.getElem?_append_right (by omega),hl,Nat.sub_self]; rfl
  ·rw [List.getElem?_append_right (by omega),hl,show ts.length * 2+1 - ts.length * 2=1 by omega]; rfl
  ·simpa using h1
  ·simpa using h2
theorem GrowV.mk {g : Nat → Option Blk} {lo n' B len sz : Nat} {cs : List AV} (h : g B = some (.cells cs true sz)) (h1 : lo ≤ B) (h2 : B < n') (h3 : cs.length = (len + 1) * sz) : GrowV g lo n' B (.slq B 0 (len + 1) 0) (len + 1) sz cs :=
  .inr ⟨by omega, rfl, h1, h2, h, h3⟩
def LogH (g:Nat→Option Blk) (lo n x y B:Nat) (ts:List (List Int×List Int)) (lv:AV) : Prop:=∃ cs,GrowV g lo n B lv ts.length 2 cs∧RowsT (hidE x y B g) n ts cs∧∀ v∈cs,CapV v
theorem LogH.one {g:Nat→Option Blk} {lo n x y B:Nat} {ts:List (List Int×List Int)} {lv:AV} (h:LogH g lo n x y B ts lv) : oneC lv=true:=let ⟨_,h1,_⟩:=h; h1.one
theorem LogH.keep {g g' : Nat→Option Blk} {lo n n' x y B:Nat} {ts:List (List Int×List Int)} {lv:AV} (h:LogH g lo n x y B ts lv) (hn:n≤n') (hB:B≠x∧B≠y) (hg:∀ a,a < n→a≠x→a≠y→g' a=g a) : LogH g' lo n' x y B ts lv:=by
 obtain ⟨cs,h1,h2,h3⟩:=h
 refine ⟨cs,h1.keep hn fun _ h5=>hg B h5 hB.1 hB.2,h2.ext hn fun a z ha hz=>?_,h3⟩
 exact (hidE_congr fun k1 k2 _=>hg a ha k1 k2).trans hz
theorem LogH.snoc {g g' : Nat→Option Blk} {lo n n' x y B B' : Nat} {ts:List (List Int×List Int)} {cs:List AV} {t:List Int×List Int} {s1 s2:AV} (h2:RowsT (hidE x y B g) n ts cs) (h3:∀ v∈cs,CapV v) (hcs:cs.length=ts.length * 2) (hn:n≤n') (hB' : n≤B'∧B' < n'∧lo≤B') (hg:∀ a,a < n→a≠x→a≠y→a≠B→g' a=g a) (hb:g' B'=some (.cells (cs++[s1,s2]) true 2))
  (k1:RepW (hidE x y B' g') n' t.1 s1) (k2:RepW (hidE x y B' g') n' t.2 s2) (c1:CapV s1) (c2:CapV s2) {len:Nat} (hl:len=ts.length) : LogH g' lo n' x y B' (ts++[t]) (.slq B' 0 (len+1) 0):=by
 subst hl
 refine ⟨cs++[s1,s2],?_,RowsT.snocT (h2.ext hn fun a z ha hz=>?_) k1 k2,?_⟩
 ·rw [List.length_append,List.length_singleton]
  exact .mk hb hB'.2.2 hB'.2.1 (by rw [List.length_append,hcs]; simp; omega)
 ·have hab:a≠x∧a≠y∧a≠B:=by
   unfold hidE at hz; split at hz
   ·cases hz
   ·omega
  rw [hidE_ne hab.1 hab.2.1 (by omega),hg a ha hab.1 hab.2.1 hab.2.2]
  exact hidE_some hz
 ·intro v hv
  rcases List.mem_append.1 hv with h | h
  ·exact h3 v h
  ·rcases List.mem_cons.1 h with rfl | h
   ·exact c1
   ·rw [List.mem_singleton.1 h]; exact c2
theorem okT_of {I O:Int} {T:List (List (Int×Int))} (h:goT I O T 0 1=some T.length) : ∀ r∈T,(r.length:Int)=I∧∀ e∈r,e.1 = -1∨(0≤e.1∧e.1 < T.length):=by
 intro r hr
 obtain ⟨h1,h2⟩:=goT_ok h (Nat.le_refl _) (Nat.le_refl _) r hr
 refine ⟨h1,fun e he=>?_⟩
 have h3:=h2 e he
 unfold okE at h3
 rw [Bool.or_eq_true,decide_eq_true_eq,decide_eq_true_eq] at h3
 omega
structure TabP (I:Nat) (O:Int) (S E:List (List Int)) (T:List (List (Int×Int))) : Prop where
 i1:1≤I
 i2:I≤3
 o1:1≤O
 o2:O≤16
 sl:S.length≤20
 s0:0 < S.length
 sw:∀ w∈S,w.length≤300∧inW w I=true
 e0:0 < E.length
 el:E.length≤20
 ew:∀ e∈E,0 < e.length∧e.length≤300∧inW e I=true
 t0:0 < T.length
 tl:T.length≤65537
 go:goT I O T 0 1=some T.length
 ok:∀ r∈T,r.length=I∧∀ e∈r,e.1 = -1∨(0≤e.1∧e.1 < T.length)
 err:tabErr I O S E I O T=0
structure TabV (g:Nat→Option Blk) (n:Nat) (S E:List (List Int)) (T:List (List (Int×Int))) (sv ev tv:AV) : Prop where
 s:ListC g n S sv
 e:ListC g n E ev
 t:TreeV g n T tv
theorem TabV.mono {g g' : Nat→Option Blk} {n n' : Nat} {S E:List (List Int)} {T:List (List (Int×Int))} {sv ev tv:AV} (h:TabV g n S E T sv ev tv) (hn:n≤n') (hg:∀ a,a < n→g' a=g a) : TabV g' n' S E T sv ev tv :=
 ⟨h.s.ext hn fun a x ha hx=>(hg a ha).trans hx,h.e.ext hn fun a x ha hx=>(hg a ha).trans hx,h.t.mono hn hg⟩
theorem ListC.listT {g:Nat→Option Blk} {n:Nat} {l:List (List Int)} {sv:AV} (h:ListC g n l sv) (h1:l.length≤1000000) (h2:∀ w∈l,w.length≤1000000) : ListT g n l sv:=⟨h1,h2,h⟩
end Go.Ai
end
