/- A small verified interpreter over names, its proofs, and what was proved with it. No condition. -/
import Derived.Test.YtpimmmnkcgnjjaaGreatP24
import Derived.Test.YtpimmmnkcgnjjaaGreatP19
set_option linter.all false
set_option linter.deprecated false
section
namespace Go.Ai
open Go.Proofs
set_option maxRecDepth 10000
set_option maxHeartbeats 40000000
theorem TabRes.seven {I:Nat} {O:Int} {er:Int} {S E:List (List Int)} {T:List (List (Int×Int))} {g:Nat→Option Blk} {n:Nat} {rv:AV} (h:TabRes I O er S E T g n rv) : ∃ a0 a1 a2 a3 a4 a5 a6,rv=.agg [a0,a1,a2,a3,a4,a5,a6]∧allOne [a0,a1,a2,a3,a4,a5,a6]=true∧((er≠0∧a2=.lit (.slice none 0 0))∨(er=0∧a0=.lit (.int .i64 I)∧a1=.lit (.int .i64 O)∧a4=.lit (.int .i64 I)∧a5=.lit (.int .i64 O)∧TabV g n S E T a2 a3 a6∧TightV S.length a2∧TightV E.length a3)):=by
 rcases h with ⟨h1,rfl⟩ | ⟨h1,sv,ev,tv,rfl,h2,h3,h4⟩
 ·exact ⟨_,_,_,_,_,_,_,rfl,rfl,.inl ⟨h1,rfl⟩⟩
 ·exact ⟨_,_,_,_,_,_,_,rfl,by simp [h2.s.one,h2.e.one,h2.t.choose_spec.1.one],.inr ⟨h1,rfl,rfl,rfl,rfl,h2,h3,h4⟩⟩
theorem TightV.len {l:Nat} {rv:AV} (h:TightV l rv) : ∀ {H:Mem} {ev:Ev} {o:Oper} {c:Call} {e:TypeId},lenS Tryz.prog H ev o c (some (.slice e)) (some [rv])=.val (.lit (.int .i64 l)) H:=by
 intro H ev o c e
 rcases h with ⟨rfl,rfl⟩ | ⟨a,o',rfl⟩
 ·exact lenS_nil
 ·exact lenS_sl
theorem TightV.capS {l:Nat} {rv:AV} (h:TightV l rv) {H:Mem} {ev:Ev} {o:Oper} {e:TypeId} : Go.Ai.capS Tryz.prog H ev o (some (.slice e)) (some rv)=.val (.lit (.int .i64 l)) H:=by
 rcases h with ⟨rfl,rfl⟩ | ⟨a,o',rfl⟩
 ·exact capS_nil
 ·exact capS_sl
theorem elT22:elSz Tryz.prog 22=some (none,1):=by kernel_rfl
theorem TightV.lenA {l:Nat} {rv:AV} (h:TightV l rv) : ∀ (H:Mem) (ev:Ev) (o:Oper) (c:Call) (e:TypeId),lenS Tryz.prog H ev o c (some (.slice e)) (some [rv])=.val (.lit (.int .i64 l)) H:=fun _ _ _ _ _=>h.len
theorem TightV.capA {l:Nat} {rv:AV} (h:TightV l rv) : ∀ (H:Mem) (ev:Ev) (o:Oper) (e:TypeId),Go.Ai.capS Tryz.prog H ev o (some (.slice e)) (some rv)=.val (.lit (.int .i64 l)) H:=fun _ _ _ _=>h.capS
theorem viaC {A B D:Type} {G:Prop} (F:A→B→D→Prop) {C:A→B→D→Prop} (h2:Hide (∀ a b d,F a b d→C a b d)→G) (h1:∀ a b d,F a b d→C a b d) : G:=h2 ⟨h1⟩
theorem ListV.snocQ {g:Nat→Option Blk} {n B c:Nat} {l:List (List Int)} {svs:List AV} {w:List Int} {q:AV} (hr:RowsW g n l svs) (hq:RepW g n w q) {z:Nat} (hb:g B=some (.cells (svs++[q]) true z)) (hB:B < n) : ListV g n (l++[w]) (.slq B 0 (l.length+1) c):=by
 refine ⟨svs++[q],?_,hr.snoc hq⟩
 rw [show (l++[w]).length=l.length+1 by simp]
 exact .inr ⟨B,0,hB,.inr ⟨c,rfl⟩,svs++[q],true,z,hb,by simp,by rw [List.drop_zero,List.take_length]⟩
theorem tablesPut_w {st inp out:Nat} {part:Bool} {es:List Nat} {ev:AV} {ws:List (List Nat)} {wv:AV} (ia ib ic:Int) {sb:List Nat} {eb:List (List Nat)} {full:Bool} (g:Nat→Option Blk) (n:Nat) {sbv ebv:AV} (h:InQ g n st inp out es ev ws wv sb sbv eb ebv) {w:List Int} (xv:AV) (hx:RepW g n w xv) (hcx:CapV xv) :
  WC 0 Tryz.prog 9 [.agg [.lit (.int .u8 st),.lit (.int .u8 inp),.lit (.int .u8 out),.lit (.bool part),ev,wv,.lit (.int .u8 ia),.lit (.int .u8 ib),.lit (.int .u8 ic),sbv,ebv,.lit (.bool full)],xv] ⟨.fn g,n⟩ fun r=>r=.ret (.lit (.bool true)) ⟨.fn g,n⟩:=by
 refine WC.drop1 rfl ?_
 have h1e:=h.i.se.one
 have h1w:=h.i.sw.choose_spec.1.one
 have h1s:=h.s.one
 have h1b:=h.e.choose_spec.1.one
 have hone:allOne [.lit (.int .u8 st),.lit (.int .u8 inp),.lit (.int .u8 out),.lit (.bool part),ev,wv,.lit (.int .u8 ia),.lit (.int .u8 ib),.lit (.int .u8 ic),sbv,ebv,.lit (.bool full)]=true:=by simp [h1e,h1w,h1s,h1b]
 have hlen:=@lenV Tryz.prog _ _ _ _ _ hx
 have h1x:=hx.one
 have hcx1:=hx.cell
 have HX:=Hide.mk hx
 by_cases hw3:w.length > 300
 ·have hw3I:(300:Int) < (w.length:Int):=by omega
  clear h hx
  refine WC.enterP (noO_ok _ _) hG pl9 Tryz.func9 rfl (by decide +kernel) (Nat.le_of_ble_eq_true (by kernel_rfl)) ?_
  iterate 8 (all_goals try (first | with_reducible refine splitI (fun h=>?_) (fun h=>?_) | with_reducible refine splitBI (fun h=>?_) (fun h=>?_) | simp (config:={ maxSteps:=1000000 }) (disch:=first | assumption | omega | (simp; done) | fail) [Tryz.results9, *]))
  exact ⟨show n≤n+1 by omega,fun b (hb:b < n)=>gput_lt hb⟩
 have hw3I:¬(300:Int) < (w.length:Int):=by omega
 have HQ:=Hide.mk (fun (gX:Nat→Option Blk) (n2:Nat) (hn:n≤n2) (hX:∀ b,b < n→gX b=g b)=>QTab_w part ia ib ic full gX n2 (h.mono hn hX))
 clear h hx
 refine WC.enterP (noO_ok _ _) hG pl9 Tryz.func9 rfl (by decide +kernel) (Nat.le_of_ble_eq_true (by kernel_rfl)) ?_
 iterate 8 (all_goals try (first | with_reducible refine splitI (fun h=>?_) (fun h=>?_) | with_reducible refine splitBI (fun h=>?_) (fun h=>?_) | simp (config:={ maxSteps:=1000000 }) (disch:=first | assumption | omega | (simp; done) | fail) [Tryz.results9, *]))
 obtain ⟨I,O,M,S,E,L,hM,hMI,hMO,hS,hE,hL,hp,hq,hw⟩:=HQ.out (gput g n (some (.cells [.lit (.int .u8 st),.lit (.int .u8 inp),.lit (.int .u8 out),.lit (.bool part),ev,wv,.lit (.int .u8 ia),.lit (.int .u8 ib),.lit (.int .u8 ic),sbv,ebv,.lit (.bool full)] true 0))) (n+1) (by omega) (fun b hb=>gput_lt hb)
 have hMok:M.ok:=by rw [hM]; exact machOf_ok st inp out part es
 have hIt:M.inp.toNat=I:=by rw [hMI]; rfl
 have HGE:Hide (growP I S E w=growErr I S w):=⟨by have:=grow_eq hq (by have:=hp.i2; omega) w; rw [hIt] at this; exact this⟩
 have HWE:Hide (widenP I S E w=widenL I S E w):=⟨by have:=widen_eq hMok hq (by have:=hp.i2; omega) w; rw [hIt] at this; exact this⟩
 clear HQ hM hMI hMO hS hE hL hq hMok hIt
 generalize rowsL I L=T at *
 refine WC.mono hw ?_
 rintro _ ⟨sv,e2,tv,g1,n1,rfl,hn1,hg1,htv⟩
 have h1sv:=htv.s.one
 have h1e2:=htv.e.one
 have h1tv:=htv.t.choose_spec.1.one
 have hone2:allOne [.lit (.int .i64 I),.lit (.int .i64 O),sv,e2,.lit (.int .i64 I),.lit (.int .i64 O),tv]=true:=by simp [h1sv,h1e2,h1tv]
 have hlenS:=@lenV Tryz.prog _ _ _ _ _ htv.s.choose_spec.1
 have hlenE:=@lenV Tryz.prog _ _ _ _ _ htv.e.choose_spec.1
 have HG1:Hide (∀ b,b < n→g1 b=g b):=⟨fun b hb=>(hg1 b (by omega)).trans (gput_lt hb)⟩
 have HTV:=Hide.mk htv
 have HP:=Hide.mk hp
 have hEl:=hp.el
 have hSl:=hp.sl
 have hi1:=hp.i1
 have hi2:=hp.i2
 clear hw hg1 htv
 iterate 8 (all_goals try (first | with_reducible refine splitI (fun h=>?_) (fun h=>?_) | with_reducible refine splitBI (fun h=>?_) (fun h=>?_) | simp (config:={ maxSteps:=1000000 }) (disch:=first | assumption | omega | (simp; done) | fail) [Tryz.results9, *]))
 refine WC.mono (Grow36_w HP.out (w:=w) (by omega) _ _ sv e2 tv xv (HTV.out.mono (by omega) fun b hb=>gput_lt hb) (SliceV.mono (by omega) (fun b hb=>(gput_lt (by omega)).trans (HG1.out b hb)) HX.out) hcx) ?_
 rintro _ ⟨rv,g2,n2,rfl,hn2,hg2,hres⟩
 obtain ⟨a0,a1,a2,a3,a4,a5,a6,rfl,hone3,hra⟩:=hres.seven
 have HG2:Hide (∀ b,b < n1→g2 b=g1 b):=⟨fun b hb=>(hg2 b (by omega)).trans (gput_lt hb)⟩
 have hgt2:=(hg2 n1 (by omega)).trans gput_eq
 have HRA:=Hide.mk hra
 clear hg2 hres hra
 iterate 8 (all_goals try (first | with_reducible refine splitI (fun h=>?_) (fun h=>?_) | with_reducible refine splitBI (fun h=>?_) (fun h=>?_) | simp (config:={ maxSteps:=1000000 }) (disch:=first | assumption | omega | (simp; done) | fail) [Tryz.results9, *]))
 refine WC.mono (Widen36_w HP.out (w:=w) (by omega) _ _ sv e2 tv xv (HTV.out.mono (by omega) fun b hb=>(gput_lt (by omega)).trans (HG2.out b hb)) (SliceV.mono (by omega) (fun b hb=>(gput_lt (by omega)).trans ((HG2.out b (by omega)).trans (HG1.out b hb))) HX.out) hcx) ?_
 rintro _ ⟨rv,g3,n3,rfl,hn3,hg3,hres⟩
 obtain ⟨b0,b1,b2,b3,b4,b5,b6,rfl,hone4,hrb⟩:=hres.seven
 have HG3:Hide (∀ b,b < n2→g3 b=g2 b):=⟨fun b hb=>(hg3 b (by omega)).trans (gput_lt hb)⟩
 have hgt3:=(HG3.out n1 (by omega)).trans hgt2
 have hga3:=(hg3 n2 (by omega)).trans gput_eq
 have HRB:=Hide.mk hrb
 clear hg3 hres hrb hgt2
 obtain ⟨ge,hge⟩ : ∃ x,x=growP I S E w:=⟨_,rfl⟩
 obtain ⟨we,hwe⟩ : ∃ x,x=widenP I S E w:=⟨_,rfl⟩
 rw [← hge] at HRA HGE ⊢
 rw [← hwe] at HRB HWE ⊢
 clear hge hwe
 apply viaC (A:=Nat→Option AV) (B:=Nat→Option Blk) (D:=Nat) (fun gf gZ nZ=>n3 < nZ∧Hide (∀ b,b < n3→gZ b=g3 b)∧gZ n1=some (.cells [.lit (.int .i64 I),.lit (.int .i64 O),sv,e2,.lit (.int .i64 I),.lit (.int .i64 O),tv] true 0)∧gZ n2=some (.cells [a0,a1,a2,a3,a4,a5,a6] true 0)∧gZ n3=some (.cells [b0,b1,b2,b3,b4,b5,b6] true 0)∧gf 1=some xv∧gf 2=some (.ptr n 0)∧gf 5=some (.ptr n1 0)∧gf 6=some (.ptr n2 0)∧gf 7=some (.lit (.int .i64 ge))∧gf 8=some (.ptr n3 0)∧gf 9=some (.lit (.int .i64 we))∧gf 10=some (.lit (.int .i64 ge))∧gf 11=some (.lit (.int .i64 (if w.length≤256∧inW w I=false then 1 else if w∈E then 8 else if w.length+1+longM S > 256 then 3 else 0))))
 ·intro HC
  have hw0:w.length=0∨¬w.length=0:=by omega
  rcases hw0 with hw0 | hw0
  focus
   have hw0I:(w.length:Int)=0:=by omega
   have hge:ge=1:=by
    rw [HGE.out]; unfold growErr
    rw [if_neg (fun hk=>by
     obtain ⟨h,_⟩:=kids_iff.1 hk
     omega)]
   iterate 8 (all_goals try (first | with_reducible refine splitI (fun h=>?_) (fun h=>?_) | with_reducible refine splitBI (fun h=>?_) (fun h=>?_) | simp (config:={ maxSteps:=1000000 }) (disch:=first | assumption | omega | (simp; done) | fail) [Tryz.results9, *]))
   have HGZ:Hide (∀ b,b < n3→gput g3 n3 (some (.cells [b0,b1,b2,b3,b4,b5,b6] true 0)) b=g3 b):=⟨fun b hb=>gput_lt hb⟩
   have hgtZ:=(HGZ.out n1 (by omega)).trans hgt3
   have hgaZ:=(HGZ.out n2 (by omega)).trans hga3
   have hgbZ:gput g3 n3 (some (.cells [b0,b1,b2,b3,b4,b5,b6] true 0)) n3=_:=gput_eq
   generalize gput g3 n3 (some (.cells [b0,b1,b2,b3,b4,b5,b6] true 0))=gZ at *
   generalize hzz:n3+1=nZ at *
   have hnZ:n3+1≤nZ:=by omega
   have HGE2:=Hide.mk hge
   clear hzz
  rotate_left
  focus
   have hw0I:¬(w.length:Int)=0:=by omega
   iterate 8 (all_goals try (first | with_reducible refine splitI (fun h=>?_) (fun h=>?_) | with_reducible refine splitBI (fun h=>?_) (fun h=>?_) | simp (config:={ maxSteps:=1000000 }) (disch:=first | assumption | omega | (simp; done) | fail) [Tryz.results9, *]))
   refine WC.mono (WordsT_p (I:=I) (by omega) (by omega) HP.out.s0 (fun y hy=>(HP.out.sw y hy).1) (.lit (.int .i64 O)) e2 (.lit (.int .i64 I)) (.lit (.int .i64 O)) tv rfl h1e2 rfl rfl h1tv _ _ sv ((HTV.out.s.listV.mono (by omega) fun b hb=>?_))) ?_
   ·rw [gput_lt (by omega)]; exact (HG3.out b (by omega)).trans ((HG2.out b hb))
   rintro _ ⟨ov,g4,n4,rfl,hn4,hg4,B4,cs4,hgr4,hrw4⟩
   have HG4:Hide (∀ b,b < n3→g4 b=g3 b):=⟨fun b hb=>(hg4 b (by omega)).trans (gput_lt hb)⟩
   have hgt4:=(HG4.out n1 (by omega)).trans hgt3
   have hga4:=(HG4.out n2 (by omega)).trans hga3
   have hgb4:=(hg4 n3 (by omega)).trans gput_eq
   have hWl:(wordsM I S).length=S.length+S.length * I:=by unfold wordsM; rw [List.length_append,kids_len]
   have hSI:0 < S.length * I:=Nat.mul_pos HP.out.s0 (by omega)
   have hsv4:SliceV g4 n4 ov (wordsM I S).length cs4:=SliceV.ext (Nat.le_refl _) (fun a z _ hz=>by
    split at hz
    ·exact hz
    ·cases hz) hgr4.slice
   obtain ⟨kv,hkv,hcut⟩:=SliceV.lo elT22 hsv4 (capV_grow hgr4) (k:=S.length) (by omega) (by rw [hrw4.1,Nat.mul_one])
   have HKV:Hide (ListV g4 n4 (kidsM I S) kv):=⟨⟨cs4.drop S.length,by
    have e1:(wordsM I S).length - S.length=(kidsM I S).length:=by rw [hWl,kids_len]; omega
    have e2:cs4.drop (S.length * 1)=cs4.drop S.length:=by rw [Nat.mul_one]
    rw [e1,e2] at hkv; exact hkv,by
    refine ⟨by rw [List.length_drop,hrw4.1,hWl,kids_len]; omega,fun k hk=>?_⟩
    obtain ⟨q,q1,q2⟩:=hrw4.2 (S.length+k) (by rw [hWl]; rw [kids_len] at hk; omega)
    refine ⟨q,by rw [List.getElem?_drop]; exact q1,?_⟩
    have e3:(wordsM I S)[S.length+k]'(by rw [hWl]; rw [kids_len] at hk; omega)=(kidsM I S)[k]:=by
     unfold wordsM
     rw [List.getElem_append_right (by omega)]
     congr 1; omega
    rw [e3] at q2; exact q2⟩⟩
   have hKl:(kidsM I S).length≤60:=by
    rw [kids_len]
    have:S.length * I≤20 * 3:=Nat.mul_le_mul (by omega) (by omega)
    omega
   have HLK:=Hide.mk (lhas_w (l:=kidsM I S) (by omega) (w:=w) (by omega) (fun y hy=>by
    obtain ⟨s,hs,h2⟩:=List.mem_flatMap.1 hy
    obtain ⟨i,hi,rfl⟩:=List.mem_map.1 h2
    have:=(HP.out.sw s hs).1
    simp; omega) g4 n4 kv xv HKV.out (SliceV.mono (by omega) (fun b hb=>(HG4.out b (by omega)).trans ((HG3.out b (by omega)).trans ((HG2.out b (by omega)).trans (HG1.out b hb)))) HX.out))
   have HLS:=Hide.mk (lhas_w (l:=S) (by omega) (w:=w) (by omega) (fun y hy=>by have:=(HP.out.sw y hy).1; omega) g4 n4 sv xv (HTV.out.s.listV.mono (by omega) fun b hb=>(HG4.out b (by omega)).trans ((HG3.out b (by omega)).trans (HG2.out b hb))) (SliceV.mono (by omega) (fun b hb=>(HG4.out b (by omega)).trans ((HG3.out b (by omega)).trans ((HG2.out b (by omega)).trans (HG1.out b hb)))) HX.out))
   clear hg4 hgr4 hrw4 hsv4 hkv
   by_cases hk:w∈kidsM I S
   rotate_left
   focus
    have hge:ge=1:=by rw [HGE.out]; unfold growErr; rw [if_neg hk]
    simp only [hk,decide_false] at HLK
    clear hk
    iterate 8 (all_goals try (first | with_reducible refine splitI (fun h=>?_) (fun h=>?_) | with_reducible refine splitBI (fun h=>?_) (fun h=>?_) | simp (config:={ maxSteps:=1000000 }) (disch:=first | assumption | omega | (simp; done) | fail) [Tryz.results9, *]))
    refine WC.mono HLK.out ?_
    rintro _ rfl
    iterate 8 (all_goals try (first | with_reducible refine splitI (fun h=>?_) (fun h=>?_) | with_reducible refine splitBI (fun h=>?_) (fun h=>?_) | simp (config:={ maxSteps:=1000000 }) (disch:=first | assumption | omega | (simp; done) | fail) [Tryz.results9, *]))
    have HGZ:=HG4
    have hgtZ:=hgt4
    have hgaZ:=hga4
    have hgbZ:=hgb4
    have hnZ:n3+1≤n4:=hn4
    clear HG4 hgt4 hga4 hgb4 hn4 HLK HLS HKV hcut
    generalize g4=gZ at *
    generalize n4=nZ at *
   rotate_left
   focus
    by_cases hs:w∈S
    focus
     have hge:ge=8:=by rw [HGE.out]; unfold growErr; rw [if_pos hk,if_pos hs]
     simp only [hk,decide_true] at HLK
     simp only [hs,decide_true] at HLS
     clear hk hs
     iterate 8 (all_goals try (first | with_reducible refine splitI (fun h=>?_) (fun h=>?_) | with_reducible refine splitBI (fun h=>?_) (fun h=>?_) | simp (config:={ maxSteps:=1000000 }) (disch:=first | assumption | omega | (simp; done) | fail) [Tryz.results9, *]))
     refine WC.mono HLK.out ?_
     rintro _ rfl
     iterate 8 (all_goals try (first | with_reducible refine splitI (fun h=>?_) (fun h=>?_) | with_reducible refine splitBI (fun h=>?_) (fun h=>?_) | simp (config:={ maxSteps:=1000000 }) (disch:=first | assumption | omega | (simp; done) | fail) [Tryz.results9, *]))
     refine WC.mono HLS.out ?_
     rintro _ rfl
     iterate 8 (all_goals try (first | with_reducible refine splitI (fun h=>?_) (fun h=>?_) | with_reducible refine splitBI (fun h=>?_) (fun h=>?_) | simp (config:={ maxSteps:=1000000 }) (disch:=first | assumption | omega | (simp; done) | fail) [Tryz.results9, *]))
     have HGZ:=HG4
     have hgtZ:=hgt4
     have hgaZ:=hga4
     have hgbZ:=hgb4
     have hnZ:n3+1≤n4:=hn4
     clear HG4 hgt4 hga4 hgb4 hn4 HLK HLS HKV hcut
     generalize g4=gZ at *
     generalize n4=nZ at *
    rotate_left
    focus
     have hge:ge=0:=by rw [HGE.out]; unfold growErr; rw [if_pos hk,if_neg hs]
     simp only [hk,decide_true] at HLK
     simp only [hs,decide_false] at HLS
     clear hk hs
     iterate 8 (all_goals try (first | with_reducible refine splitI (fun h=>?_) (fun h=>?_) | with_reducible refine splitBI (fun h=>?_) (fun h=>?_) | simp (config:={ maxSteps:=1000000 }) (disch:=first | assumption | omega | (simp; done) | fail) [Tryz.results9, *]))
     refine WC.mono HLK.out ?_
     rintro _ rfl
     iterate 8 (all_goals try (first | with_reducible refine splitI (fun h=>?_) (fun h=>?_) | with_reducible refine splitBI (fun h=>?_) (fun h=>?_) | simp (config:={ maxSteps:=1000000 }) (disch:=first | assumption | omega | (simp; done) | fail) [Tryz.results9, *]))
     refine WC.mono HLS.out ?_
     rintro _ rfl
     iterate 8 (all_goals try (first | with_reducible refine splitI (fun h=>?_) (fun h=>?_) | with_reducible refine splitBI (fun h=>?_) (fun h=>?_) | simp (config:={ maxSteps:=1000000 }) (disch:=first | assumption | omega | (simp; done) | fail) [Tryz.results9, *]))
     have HGZ:=HG4
     have hgtZ:=hgt4
     have hgaZ:=hga4
     have hgbZ:=hgb4
     have hnZ:n3+1≤n4:=hn4
     clear HG4 hgt4 hga4 hgb4 hn4 HLK HLS HKV hcut
     generalize g4=gZ at *
     generalize n4=nZ at *
  all_goals
   have HXZ:Hide (RepW gZ nZ w xv):=⟨SliceV.mono (by omega) (fun b hb=>(HGZ.out b (by omega)).trans ((HG3.out b (by omega)).trans ((HG2.out b (by omega)).trans (HG1.out b hb)))) HX.out⟩
   have HTZ:Hide (TabV gZ nZ S E T sv e2 tv):=⟨HTV.out.mono (by omega) fun b hb=>(HGZ.out b (by omega)).trans ((HG3.out b (by omega)).trans (HG2.out b (by omega)))⟩
   have HLE:=Hide.mk (lhas_w (l:=E) (by omega) (w:=w) (by omega) (fun y hy=>by have:=(HP.out.ew y hy).2.1; omega) gZ nZ e2 xv HTZ.out.e.listV HXZ.out)
   refine LX.cut (K:=exitK 0 fun gf gN nc=>gZ=gN∧nZ=nc∧gf 1=some xv∧gf 2=some (.ptr n 0)∧gf 5=some (.ptr n1 0)∧gf 6=some (.ptr n2 0)∧gf 7=some (.lit (.int .i64 ge))∧gf 8=some (.ptr n3 0)∧gf 9=some (.lit (.int .i64 we))∧gf 10=some (.lit (.int .i64 ge))∧gf 11=some (.lit (.int .i64 0))∧gf 12=some (.lit (.int .i64 (longM S:Nat)))) ?_ ?_
   rotate_left
   ·clear hge hw0I hw0
    rintro _ ⟨gf,_,_,rfl,rfl,rfl,w1,w2,w5,w6,w7,w8,w9,w10,w11,w12⟩
    have hlS:longM S≤300:=longM_leT fun e he=>(HP.out.sw e he).1
    have hc3:(w∈E∧∃ w0:Int,w0=8)∨(w ∉ E∧(256:Int) < (w.length:Int)+1+(longM S:Int))∨(w ∉ E∧¬(256:Int) < (w.length:Int)+1+(longM S:Int)):=by
     by_cases h1:w∈E
     ·exact .inl ⟨h1,8,rfl⟩
     ·by_cases h2:(256:Int) < (w.length:Int)+1+(longM S:Int)
      ·exact .inr (.inl ⟨h1,h2⟩)
      ·exact .inr (.inr ⟨h1,h2⟩)
    obtain ⟨w0,hw0v⟩ : ∃ w0:Int,w0=if w∈E then 8 else if w.length+1+longM S > 256 then 3 else 0:=⟨_,rfl⟩
    have HW0:=Hide.mk hw0v
    clear hw0v
    iterate 8 (all_goals try (first | with_reducible refine splitI (fun h=>?_) (fun h=>?_) | with_reducible refine splitBI (fun h=>?_) (fun h=>?_) | simp (config:={ maxSteps:=1000000 }) (disch:=first | assumption | omega | (simp; done) | fail) [Tryz.results9, *]))
    refine WC.mono HLE.out ?_
    rintro _ rfl
    rcases hc3 with ⟨h1,_⟩ | ⟨h1,h2⟩ | ⟨h1,h2⟩
    rotate_left
    rotate_left
    focus
     have hwv:w0=0:=by rw [HW0.out,if_neg h1,if_neg (by omega)]
     simp only [h1,decide_false]
     clear h1
     iterate 8 (all_goals try (first | with_reducible refine splitI (fun h=>?_) (fun h=>?_) | with_reducible refine splitBI (fun h=>?_) (fun h=>?_) | simp (config:={ maxSteps:=1000000 }) (disch:=first | assumption | omega | (simp; done) | fail) [Tryz.results9, *]))
    rotate_left
    focus
     have hwv:w0=8:=by rw [HW0.out,if_pos h1]
     simp only [h1,decide_true]
     clear h1
     iterate 8 (all_goals try (first | with_reducible refine splitI (fun h=>?_) (fun h=>?_) | with_reducible refine splitBI (fun h=>?_) (fun h=>?_) | simp (config:={ maxSteps:=1000000 }) (disch:=first | assumption | omega | (simp; done) | fail) [Tryz.results9, *]))
    rotate_left
    focus
     have hwv:w0=3:=by rw [HW0.out,if_neg h1,if_pos (by omega)]
     simp only [h1,decide_false]
     clear h1
     iterate 8 (all_goals try (first | with_reducible refine splitI (fun h=>?_) (fun h=>?_) | with_reducible refine splitBI (fun h=>?_) (fun h=>?_) | simp (config:={ maxSteps:=1000000 }) (disch:=first | assumption | omega | (simp; done) | fail) [Tryz.results9, *]))
    all_goals
     refine LX.cut (K:=exitK 2 fun gf gN nc=>gZ=gN∧nZ=nc∧gf 1=some xv∧gf 2=some (.ptr n 0)∧gf 5=some (.ptr n1 0)∧gf 6=some (.ptr n2 0)∧gf 7=some (.lit (.int .i64 ge))∧gf 8=some (.ptr n3 0)∧gf 9=some (.lit (.int .i64 we))∧gf 10=some (.lit (.int .i64 ge))∧gf 11=some (.lit (.int .i64 (if w.length≤256∧inW w I=false then 1 else w0)))) ?_ ?_
     rotate_left
     ·clear hwv
      rintro _ ⟨gf,_,_,rfl,rfl,rfl,w1,w2,w5,w6,w7,w8,w9,w10,w11⟩
      refine HC.out gf gZ nZ ⟨hnZ,HGZ,hgtZ,hgaZ,hgbZ,w1,w2,w5,w6,w7,w8,w9,w10,?_⟩
      rw [w11,HW0.out]
     refine LX.ind (fun m gf H'=>∃ k:Nat,k≤w.length∧m=w.length - k∧H'=⟨.fn gZ,nZ⟩∧gf 1=some xv∧gf 2=some (.ptr n 0)∧gf 5=some (.ptr n1 0)∧gf 6=some (.ptr n2 0)∧gf 7=some (.lit (.int .i64 ge))∧gf 8=some (.ptr n3 0)∧gf 9=some (.lit (.int .i64 we))∧gf 10=some (.lit (.int .i64 ge))∧gf 11=some (.lit (.int .i64 (if inW (w.take k) I=false then 1 else w0)))∧gf 14=some (.lit (.int .i64 k))∧Hide (w.length≤256∨k=0)) (m0:=w.length) ?_ ?_
     ·exact ⟨0,Nat.zero_le _,rfl,rfl,by simp [*],by simp [*],by simp [*],by simp [*],by simp [*],by simp [*],by simp [*],by simp [*],by simp [inW,hwv, *],by simp,⟨.inr rfl⟩⟩
     clear w1 w2 w5 w6 w7 w8 w9 w10 w11 w12
     rintro m gf H' ⟨k,hk,rfl,rfl,w1,w2,w5,w6,w7,w8,w9,w10,w11,w14,HK0⟩ ih
     refine LX.roundP (noO_ok _ _) hG pl9 (by decide +kernel) ?_
     by_cases hlt:k < w.length
     ·have hltI:(k:Int) < (w.length:Int):=by omega
      by_cases hl6:w.length≤256
      ·have hl6I:(w.length:Int)≤256:=by omega
       obtain ⟨aw,ow,haw,hiaw,hcw⟩:=RepW.at HXZ.out hlt
       have HTK:Hide (inW (w.take (k+1)) I=(inW (w.take k) I && decide (0≤w[k]∧w[k] < (I:Int)))):=⟨by unfold inW; rw [take_snoc hlt,List.all_append]; simp⟩
       generalize w[k]=x at *
       by_cases hx0:x < 0
       ·have HB:Hide (inW (w.take (k+1)) I=false):=⟨by rw [HTK.out,decide_eq_false (by omega),Bool.and_false]⟩
        iterate 8 (all_goals try (first | with_reducible refine splitI (fun h=>?_) (fun h=>?_) | with_reducible refine splitBI (fun h=>?_) (fun h=>?_) | simp (config:={ maxSteps:=1000000 }) (disch:=first | assumption | omega | (simp; done) | fail) [Tryz.results9, *]))
        exact ih.out (w.length - (k+1)) _ _ (by omega) ⟨k+1,by omega,rfl,rfl,by simp [*],by simp [*],by simp [*],by simp [*],by simp [*],by simp [*],by simp [*],by simp [*],by rw [if_pos HB.out]; simp,by simp,⟨.inl hl6⟩⟩
       ·by_cases hx1:(I:Int)≤x
        ·have HB:Hide (inW (w.take (k+1)) I=false):=⟨by rw [HTK.out,decide_eq_false (by omega),Bool.and_false]⟩
         iterate 8 (all_goals try (first | with_reducible refine splitI (fun h=>?_) (fun h=>?_) | with_reducible refine splitBI (fun h=>?_) (fun h=>?_) | simp (config:={ maxSteps:=1000000 }) (disch:=first | assumption | omega | (simp; done) | fail) [Tryz.results9, *]))
         exact ih.out (w.length - (k+1)) _ _ (by omega) ⟨k+1,by omega,rfl,rfl,by simp [*],by simp [*],by simp [*],by simp [*],by simp [*],by simp [*],by simp [*],by simp [*],by rw [if_pos HB.out]; simp,by simp,⟨.inl hl6⟩⟩
        ·have HB:Hide (inW (w.take (k+1)) I=inW (w.take k) I):=⟨by rw [HTK.out,decide_eq_true (by omega),Bool.and_true]⟩
         iterate 8 (all_goals try (first | with_reducible refine splitI (fun h=>?_) (fun h=>?_) | with_reducible refine splitBI (fun h=>?_) (fun h=>?_) | simp (config:={ maxSteps:=1000000 }) (disch:=first | assumption | omega | (simp; done) | fail) [Tryz.results9, *]))
         exact ih.out (w.length - (k+1)) _ _ (by omega) ⟨k+1,by omega,rfl,rfl,by simp [*],by simp [*],by simp [*],by simp [*],by simp [*],by simp [*],by simp [*],by simp [*],by rw [HB.out]; simp [*],by simp,⟨.inl hl6⟩⟩
      ·have hl6I:¬(w.length:Int)≤256:=by omega
       have HE:Hide ((if inW (w.take k) I=false then 1 else w0)=(if w.length≤256∧inW w I=false then 1 else w0)):=⟨by
        have hk0:k=0:=HK0.out.resolve_left hl6
        rw [hk0,if_neg (by simp [inW]),if_neg (by omega)]⟩
       rw [HE.out] at w11
       iterate 8 (all_goals try (first | with_reducible refine splitI (fun h=>?_) (fun h=>?_) | with_reducible refine splitBI (fun h=>?_) (fun h=>?_) | simp (config:={ maxSteps:=1000000 }) (disch:=first | assumption | omega | (simp; done) | fail) [Tryz.results9, *]))
     ·have hltI:¬(k:Int) < (w.length:Int):=by omega
      have HE:Hide ((if inW (w.take k) I=false then 1 else w0)=(if w.length≤256∧inW w I=false then 1 else w0)):=⟨by
       have hl6:w.length≤256:=by rcases HK0.out with h | h <;> omega
       rw [List.take_of_length_le (by omega)]
       simp [hl6]⟩
      rw [HE.out] at w11
      iterate 8 (all_goals try (first | with_reducible refine splitI (fun h=>?_) (fun h=>?_) | with_reducible refine splitBI (fun h=>?_) (fun h=>?_) | simp (config:={ maxSteps:=1000000 }) (disch:=first | assumption | omega | (simp; done) | fail) [Tryz.results9, *]))
   refine LX.ind (fun m gf H'=>∃ k:Nat,k≤S.length∧m=S.length - k∧H'=⟨.fn gZ,nZ⟩∧gf 1=some xv∧gf 2=some (.ptr n 0)∧gf 5=some (.ptr n1 0)∧gf 6=some (.ptr n2 0)∧gf 7=some (.lit (.int .i64 ge))∧gf 8=some (.ptr n3 0)∧gf 9=some (.lit (.int .i64 we))∧gf 10=some (.lit (.int .i64 ge))∧gf 11=some (.lit (.int .i64 0))∧gf 12=some (.lit (.int .i64 (longM (S.take k) : Nat)))∧gf 13=some (.lit (.int .i64 k))) (m0:=S.length) ?_ ?_
   ·exact ⟨0,Nat.zero_le _,rfl,rfl,by simp [*],by simp [*],by simp [*],by simp [*],by simp [*],by simp [*],by simp [*],by simp [*],by simp,by simp [longM],by simp⟩
   clear hge
   rintro m gf H' ⟨k,hk,rfl,rfl,w1,w2,w5,w6,w7,w8,w9,w10,w11,w12,w13⟩ ih
   refine LX.roundP (noO_ok _ _) hG pl9 (by decide +kernel) ?_
   by_cases hlt:k < S.length
   ·have hltI:(k:Int) < (S.length:Int):=by omega
    obtain ⟨aS,oS,qs,haS,hiaS,hcS,hqs⟩:=HTZ.out.s.listV.at hlt
    have hlenq:=@lenV Tryz.prog _ _ _ _ _ hqs
    have HLM:Hide (longM (S.take (k+1))=max (longM (S.take k)) (S[k]).length):=⟨by rw [take_snoc hlt,longM_snoc]⟩
    have hel:=(HP.out.sw _ (List.getElem_mem hlt)).1
    clear hqs
    generalize S[k]=e at *
    iterate 8 (all_goals try (first | with_reducible refine splitI (fun h=>?_) (fun h=>?_) | with_reducible refine splitBI (fun h=>?_) (fun h=>?_) | simp (config:={ maxSteps:=1000000 }) (disch:=first | assumption | omega | (simp; done) | fail) [Tryz.results9, *]))
    refine ih.out (S.length - (k+1)) _ _ (by omega) ⟨k+1,by omega,rfl,rfl,by simp [*],by simp [*],by simp [*],by simp [*],by simp [*],by simp [*],by simp [*],by simp [*],by simp [*],?_,by simp⟩
    rw [HLM.out]
    by_cases hm:longM (S.take k) < e.length
    ·rw [Nat.max_eq_right (by omega)]; simp [hm]
    ·rw [Nat.max_eq_left (by omega)]; simp [hm]
   ·have hltI:¬(k:Int) < (S.length:Int):=by omega
    rw [List.take_of_length_le (by omega)] at w12
    iterate 8 (all_goals try (first | with_reducible refine splitI (fun h=>?_) (fun h=>?_) | with_reducible refine splitBI (fun h=>?_) (fun h=>?_) | simp (config:={ maxSteps:=1000000 }) (disch:=first | assumption | omega | (simp; done) | fail) [Tryz.results9, *]))
 ·rintro gf gZ nZ ⟨hnZ,HGZ,hgtZ,hgaZ,hgbZ,w1,w2,w5,w6,w7,w8,w9,w10,w11⟩
  have HXZ:Hide (RepW gZ nZ w xv):=⟨SliceV.mono (by omega) (fun b hb=>(HGZ.out b (by omega)).trans ((HG3.out b (by omega)).trans ((HG2.out b (by omega)).trans (HG1.out b hb)))) HX.out⟩
  have HTZ:Hide (TabV gZ nZ S E T sv e2 tv):=⟨HTV.out.mono (by omega) fun b hb=>(HGZ.out b (by omega)).trans ((HG3.out b (by omega)).trans (HG2.out b (by omega)))⟩
  clear hgt3 hga3
  have hs0:=HP.out.s0
  have hax:allOne [xv]=true:=by simp [h1x]
  have he0:=HP.out.e0
  obtain ⟨cs,hsv,hrs⟩:=HTZ.out.s.listV
  obtain ⟨ce,hev,hre⟩:=HTZ.out.e.listV
  obtain ⟨aS,blks,haS,hgaS,hapS⟩:=SliceV.ap0 (P:=Tryz.prog) (sz:=1) hsv hs0 (by omega) (by rw [hrs.1,Nat.mul_one])
  obtain ⟨aE,blkE,haE,hgaE,hapE⟩:=SliceV.ap0 (P:=Tryz.prog) (sz:=1) hev he0 (by omega) (by rw [hre.1,Nat.mul_one])
  have hcsl:=hrs.1
  have hcel:=hre.1
  have hals:=hrs.allOne
  have hale:=hre.allOne
  have HRS:=Hide.mk hrs
  have HRE:=Hide.mk hre
  clear hsv hev hrs hre
  by_cases hw0:w.length=0
  ·have hw0I:(w.length:Int)=0:=by omega
   have hge:ge=1:=by
    rw [HGE.out]; unfold growErr
    rw [if_neg (fun hk=>by
     obtain ⟨h,_⟩:=kids_iff.1 hk
     omega)]
   have hwe:we=1:=by rw [HWE.out]; unfold widenL; rw [if_pos hw0]
   subst hge hwe
   rcases HRA.out with ⟨_,rfl⟩ | ⟨hx,_⟩
   rotate_left
   ·exact absurd hx (by decide)
   rcases HRB.out with ⟨_,rfl⟩ | ⟨hx,_⟩
   rotate_left
   ·exact absurd hx (by decide)
   clear HRA HRB
   iterate 8 (all_goals try (first | with_reducible refine splitI (fun h=>?_) (fun h=>?_) | with_reducible refine splitBI (fun h=>?_) (fun h=>?_) | simp (config:={ maxSteps:=1000000 }) (disch:=first | assumption | omega | (simp; done) | fail) [Tryz.results9, *]))
   refine WC.mono (lives_w _) ?_
   rintro _ rfl
   iterate 8 (all_goals try (first | with_reducible refine splitI (fun h=>?_) (fun h=>?_) | with_reducible refine splitBI (fun h=>?_) (fun h=>?_) | simp (config:={ maxSteps:=1000000 }) (disch:=first | assumption | omega | (simp; done) | fail) [Tryz.results9, *]))
   exact ⟨by show n≤_; dsimp only; omega,fun b (hb:b < n)=>by show gput _ _ _ b=g b; simp (disch:=omega) only [gput_lt]; exact (HGZ.out b (by omega)).trans ((HG3.out b (by omega)).trans ((HG2.out b (by omega)).trans (HG1.out b hb)))⟩
  have hw0I:¬(w.length:Int)=0:=by omega
  have hv:(if w.length≤256∧inW w I=false then (1:Int) else if w∈E then 8 else if w.length+1+longM S > 256 then 3 else 0)=we:=by rw [HWE.out]; unfold widenL; rw [if_neg hw0]
  rw [hv] at w11
  clear hv
  have hSw:∀ w∈S,w.length≤300:=fun y hy=>(HP.out.sw y hy).1
  have hEw:∀ w∈E,w.length≤300:=fun y hy=>(HP.out.ew y hy).2.1
  have HSw:=Hide.mk hSw
  have HEw:=Hide.mk hEw
  clear hSw hEw
  by_cases hge:ge=0
  ·subst hge
   rcases HRA.out with ⟨hx,_⟩ | ⟨_,rfl,rfl,rfl,rfl,hra1,hra2,hra3⟩
   ·exact absurd rfl hx
   have hlA2:=hra2.lenA
   have hcA2:=hra2.capA
   have HTA:=Hide.mk (show TabV gZ nZ (S++[w]) E T a2 a3 a6 from hra1.mono (by omega) fun b hb=>(HGZ.out b (by omega)).trans (HG3.out b (by omega)))
   clear hra1 hra2 hra3 HRA
   by_cases hwe:we=0
   ·subst hwe
    rcases HRB.out with ⟨hx,_⟩ | ⟨_,rfl,rfl,rfl,rfl,hrb1,hrb2,hrb3⟩
    ·exact absurd rfl hx
    have hlB3:=hrb3.lenA
    have hcB3:=hrb3.capA
    have HTB:=Hide.mk (show TabV gZ nZ S (E++[w]) T b2 b3 b6 from hrb1.mono (by omega) fun b hb=>HGZ.out b (by omega))
    clear hrb1 hrb2 hrb3 HRB
    have HSA:=Hide.mk fun (gX:Nat→Option Blk) (N:Nat) (hN:nZ+1+1+1+1+1+1+1+1+1+1≤N) (hX:∀ b,b < nZ→gX b=gZ b) (hb:gX (nZ+1+1+1+1+1)=some (.cells (cs++[xv]) true 1))=>TSame36_w (I:=I) (O:=O) (S:=S++[w]) (E:=E) (T:=T) (by rw [List.length_append,List.length_singleton]; omega) (fun y hy=>by rcases List.mem_append.1 hy with h | h; exact Nat.le_trans (HSw.out y h) (by omega); rw [List.mem_singleton.1 h]; omega) (by omega) (fun y hy=>Nat.le_trans (HEw.out y hy) (by omega)) (by have:=HP.out.tl; omega) (fun r hr=>by have:=(HP.out.ok r hr).1; omega) gX N a2 (.slq (nZ+1+1+1+1+1) 0 (S.length+1) 0) a3 e2 a6 tv (HTA.out.s.listV.mono (by omega) hX) (ListV.snocQ (RowsW.ext HRS.out (by omega) (fun a x ha hx=>(hX a ha).trans hx)) (SliceV.mono (by omega) hX HXZ.out) hb (by omega)) (HTA.out.e.listV.mono (by omega) hX) (HTZ.out.e.listV.mono (by omega) hX) (HTA.out.t.mono (by omega) hX) (HTZ.out.t.mono (by omega) hX)
    have HEB:=Hide.mk fun (gX:Nat→Option Blk) (N:Nat) (hN:nZ+1+1+1+1+1+1+1+1+1+1≤N) (hX:∀ b,b < nZ→gX b=gZ b) (hb:gX (nZ+1+1+1+1+1+1+1+1+1)=some (.cells (ce++[xv]) true 1))=>TSame36_w (I:=I) (O:=O) (S:=S) (E:=E++[w]) (T:=T) (by omega) (fun y hy=>Nat.le_trans (HSw.out y hy) (by omega)) (by rw [List.length_append,List.length_singleton]; omega) (fun y hy=>by rcases List.mem_append.1 hy with h | h; exact Nat.le_trans (HEw.out y h) (by omega); rw [List.mem_singleton.1 h]; omega) (by have:=HP.out.tl; omega) (fun r hr=>by have:=(HP.out.ok r hr).1; omega) gX N b2 sv b3 (.slq (nZ+1+1+1+1+1+1+1+1+1) 0 (E.length+1) 0) b6 tv (HTB.out.s.listV.mono (by omega) hX) (HTZ.out.s.listV.mono (by omega) hX) (HTB.out.e.listV.mono (by omega) hX) (ListV.snocQ (RowsW.ext HRE.out (by omega) (fun a x ha hx=>(hX a ha).trans hx)) (SliceV.mono (by omega) hX HXZ.out) hb (by omega)) (HTB.out.t.mono (by omega) hX) (HTZ.out.t.mono (by omega) hX)
    iterate 8 (all_goals try (first | with_reducible refine splitI (fun h=>?_) (fun h=>?_) | with_reducible refine splitBI (fun h=>?_) (fun h=>?_) | simp (config:={ maxSteps:=1000000 }) (disch:=first | assumption | omega | (simp; done) | fail) [Tryz.results9, *]))
    refine WC.mono (HSA.out _ _ (by omega) (fun b hb=>by simp (disch:=omega) only [gput_lt]) (by simp (disch:=omega))) ?_
    rintro _ ⟨g4,n4,rfl,hn4,hg4⟩
    have HG4:Hide (∀ b,b < nZ→g4 b=gZ b):=⟨fun b hb=>(hg4 b (by omega)).trans (by simp (disch:=omega) only [gput_lt])⟩
    have hgaY:g4 n2=_:=(HG4.out n2 (by omega)).trans hgaZ
    have hgbY:g4 n3=_:=(HG4.out n3 (by omega)).trans hgbZ
    have hguY:g4 (nZ+1)=some (.cells [.lit (.int .i64 I),.lit (.int .i64 O),sv,.slq (nZ+1+1+1+1+1+1+1+1+1) 0 (E.length+1) 0,.lit (.int .i64 I),.lit (.int .i64 O),tv] true 0):=(hg4 _ (by omega)).trans gput_eq
    have hgeY:g4 (nZ+1+1+1+1+1+1+1+1+1)=some (.cells (ce++[xv]) true 1):=(hg4 _ (by omega)).trans (by simp (disch:=omega))
    clear hg4
    iterate 8 (all_goals try (first | with_reducible refine splitI (fun h=>?_) (fun h=>?_) | with_reducible refine splitBI (fun h=>?_) (fun h=>?_) | simp (config:={ maxSteps:=1000000 }) (disch:=first | assumption | omega | (simp; done) | fail) [Tryz.results9, *]))
    refine WC.mono (HEB.out _ _ (by omega) HG4.out hgeY) ?_
    rintro _ ⟨g5,n5,rfl,hn5,hg5⟩
    have HG5:Hide (∀ b,b < nZ→g5 b=gZ b):=⟨fun b hb=>(hg5 b (by omega)).trans (HG4.out b hb)⟩
    have hgbX:g5 n3=_:=(HG5.out n3 (by omega)).trans hgbZ
    clear hg5
    iterate 8 (all_goals try (first | with_reducible refine splitI (fun h=>?_) (fun h=>?_) | with_reducible refine splitBI (fun h=>?_) (fun h=>?_) | simp (config:={ maxSteps:=1000000 }) (disch:=first | assumption | omega | (simp; done) | fail) [Tryz.results9, *]))
    refine WC.mono (lives_w _) ?_
    rintro _ rfl
    iterate 8 (all_goals try (first | with_reducible refine splitI (fun h=>?_) (fun h=>?_) | with_reducible refine splitBI (fun h=>?_) (fun h=>?_) | simp (config:={ maxSteps:=1000000 }) (disch:=first | assumption | omega | (simp; done) | fail) [Tryz.results9, *]))
    exact ⟨by show n≤_; dsimp only; omega,fun b (hb:b < n)=>(HG5.out b (by omega)).trans ((HGZ.out b (by omega)).trans ((HG3.out b (by omega)).trans ((HG2.out b (by omega)).trans (HG1.out b hb))))⟩
   ·rcases HRB.out with ⟨_,rfl⟩ | ⟨hx,_⟩
    rotate_left
    ·exact absurd hx hwe
    clear HRB
    have HSA:=Hide.mk fun (gX:Nat→Option Blk) (N:Nat) (hN:nZ+1+1+1+1+1+1+1+1+1+1≤N) (hX:∀ b,b < nZ→gX b=gZ b) (hb:gX (nZ+1+1+1+1+1)=some (.cells (cs++[xv]) true 1))=>TSame36_w (I:=I) (O:=O) (S:=S++[w]) (E:=E) (T:=T) (by rw [List.length_append,List.length_singleton]; omega) (fun y hy=>by rcases List.mem_append.1 hy with h | h; exact Nat.le_trans (HSw.out y h) (by omega); rw [List.mem_singleton.1 h]; omega) (by omega) (fun y hy=>Nat.le_trans (HEw.out y hy) (by omega)) (by have:=HP.out.tl; omega) (fun r hr=>by have:=(HP.out.ok r hr).1; omega) gX N a2 (.slq (nZ+1+1+1+1+1) 0 (S.length+1) 0) a3 e2 a6 tv (HTA.out.s.listV.mono (by omega) hX) (ListV.snocQ (RowsW.ext HRS.out (by omega) (fun a x ha hx=>(hX a ha).trans hx)) (SliceV.mono (by omega) hX HXZ.out) hb (by omega)) (HTA.out.e.listV.mono (by omega) hX) (HTZ.out.e.listV.mono (by omega) hX) (HTA.out.t.mono (by omega) hX) (HTZ.out.t.mono (by omega) hX)
    iterate 8 (all_goals try (first | with_reducible refine splitI (fun h=>?_) (fun h=>?_) | with_reducible refine splitBI (fun h=>?_) (fun h=>?_) | simp (config:={ maxSteps:=1000000 }) (disch:=first | assumption | omega | (simp; done) | fail) [Tryz.results9, *]))
    refine WC.mono (HSA.out _ _ (by omega) (fun b hb=>by simp (disch:=omega) only [gput_lt]) (by simp (disch:=omega))) ?_
    rintro _ ⟨g4,n4,rfl,hn4,hg4⟩
    have HG4:Hide (∀ b,b < nZ→g4 b=gZ b):=⟨fun b hb=>(hg4 b (by omega)).trans (by simp (disch:=omega) only [gput_lt])⟩
    have hgaY:g4 n2=_:=(HG4.out n2 (by omega)).trans hgaZ
    have hgbY:g4 n3=_:=(HG4.out n3 (by omega)).trans hgbZ
    have hguY:g4 (nZ+1)=some (.cells [.lit (.int .i64 I),.lit (.int .i64 O),sv,.slq (nZ+1+1+1+1+1+1+1+1+1) 0 (E.length+1) 0,.lit (.int .i64 I),.lit (.int .i64 O),tv] true 0):=(hg4 _ (by omega)).trans gput_eq
    have hgeY:g4 (nZ+1+1+1+1+1+1+1+1+1)=some (.cells (ce++[xv]) true 1):=(hg4 _ (by omega)).trans (by simp (disch:=omega))
    clear hg4
    iterate 8 (all_goals try (first | with_reducible refine splitI (fun h=>?_) (fun h=>?_) | with_reducible refine splitBI (fun h=>?_) (fun h=>?_) | simp (config:={ maxSteps:=1000000 }) (disch:=first | assumption | omega | (simp; done) | fail) [Tryz.results9, *]))
    refine WC.mono (lives_w _) ?_
    rintro _ rfl
    iterate 8 (all_goals try (first | with_reducible refine splitI (fun h=>?_) (fun h=>?_) | with_reducible refine splitBI (fun h=>?_) (fun h=>?_) | simp (config:={ maxSteps:=1000000 }) (disch:=first | assumption | omega | (simp; done) | fail) [Tryz.results9, *]))
    exact ⟨by show n≤_; dsimp only; omega,fun b (hb:b < n)=>(HG4.out b (by omega)).trans ((HGZ.out b (by omega)).trans ((HG3.out b (by omega)).trans ((HG2.out b (by omega)).trans (HG1.out b hb))))⟩
  ·rcases HRA.out with ⟨_,rfl⟩ | ⟨hx,_⟩
   rotate_left
   ·exact absurd hx hge
   clear HRA
   by_cases hwe:we=0
   ·subst hwe
    rcases HRB.out with ⟨hx,_⟩ | ⟨_,rfl,rfl,rfl,rfl,hrb1,hrb2,hrb3⟩
    ·exact absurd rfl hx
    have hlB3:=hrb3.lenA
    have hcB3:=hrb3.capA
    have HTB:=Hide.mk (show TabV gZ nZ S (E++[w]) T b2 b3 b6 from hrb1.mono (by omega) fun b hb=>HGZ.out b (by omega))
    clear hrb1 hrb2 hrb3 HRB
    have HEB:=Hide.mk fun (gX:Nat→Option Blk) (N:Nat) (hN:nZ+1+1+1+1+1+1+1+1+1+1≤N) (hX:∀ b,b < nZ→gX b=gZ b) (hb:gX (nZ+1+1+1+1+1+1+1+1+1)=some (.cells (ce++[xv]) true 1))=>TSame36_w (I:=I) (O:=O) (S:=S) (E:=E++[w]) (T:=T) (by omega) (fun y hy=>Nat.le_trans (HSw.out y hy) (by omega)) (by rw [List.length_append,List.length_singleton]; omega) (fun y hy=>by rcases List.mem_append.1 hy with h | h; exact Nat.le_trans (HEw.out y h) (by omega); rw [List.mem_singleton.1 h]; omega) (by have:=HP.out.tl; omega) (fun r hr=>by have:=(HP.out.ok r hr).1; omega) gX N b2 sv b3 (.slq (nZ+1+1+1+1+1+1+1+1+1) 0 (E.length+1) 0) b6 tv (HTB.out.s.listV.mono (by omega) hX) (HTZ.out.s.listV.mono (by omega) hX) (HTB.out.e.listV.mono (by omega) hX) (ListV.snocQ (RowsW.ext HRE.out (by omega) (fun a x ha hx=>(hX a ha).trans hx)) (SliceV.mono (by omega) hX HXZ.out) hb (by omega)) (HTB.out.t.mono (by omega) hX) (HTZ.out.t.mono (by omega) hX)
    iterate 8 (all_goals try (first | with_reducible refine splitI (fun h=>?_) (fun h=>?_) | with_reducible refine splitBI (fun h=>?_) (fun h=>?_) | simp (config:={ maxSteps:=1000000 }) (disch:=first | assumption | omega | (simp; done) | fail) [Tryz.results9, *]))
    refine WC.mono (HEB.out _ _ (by omega) (fun b hb=>by simp (disch:=omega) only [gput_lt]) (by simp (disch:=omega))) ?_
    rintro _ ⟨g5,n5,rfl,hn5,hg5⟩
    have HG5:Hide (∀ b,b < nZ→g5 b=gZ b):=⟨fun b hb=>(hg5 b (by omega)).trans (by simp (disch:=omega) only [gput_lt])⟩
    have hgbX:g5 n3=_:=(HG5.out n3 (by omega)).trans hgbZ
    clear hg5
    iterate 8 (all_goals try (first | with_reducible refine splitI (fun h=>?_) (fun h=>?_) | with_reducible refine splitBI (fun h=>?_) (fun h=>?_) | simp (config:={ maxSteps:=1000000 }) (disch:=first | assumption | omega | (simp; done) | fail) [Tryz.results9, *]))
    refine WC.mono (lives_w _) ?_
    rintro _ rfl
    iterate 8 (all_goals try (first | with_reducible refine splitI (fun h=>?_) (fun h=>?_) | with_reducible refine splitBI (fun h=>?_) (fun h=>?_) | simp (config:={ maxSteps:=1000000 }) (disch:=first | assumption | omega | (simp; done) | fail) [Tryz.results9, *]))
    exact ⟨by show n≤_; dsimp only; omega,fun b (hb:b < n)=>(HG5.out b (by omega)).trans ((HGZ.out b (by omega)).trans ((HG3.out b (by omega)).trans ((HG2.out b (by omega)).trans (HG1.out b hb))))⟩
   ·rcases HRB.out with ⟨_,rfl⟩ | ⟨hx,_⟩
    rotate_left
    ·exact absurd hx hwe
    clear HRB
    iterate 8 (all_goals try (first | with_reducible refine splitI (fun h=>?_) (fun h=>?_) | with_reducible refine splitBI (fun h=>?_) (fun h=>?_) | simp (config:={ maxSteps:=1000000 }) (disch:=first | assumption | omega | (simp; done) | fail) [Tryz.results9, *]))
    refine WC.mono (lives_w _) ?_
    rintro _ rfl
    iterate 8 (all_goals try (first | with_reducible refine splitI (fun h=>?_) (fun h=>?_) | with_reducible refine splitBI (fun h=>?_) (fun h=>?_) | simp (config:={ maxSteps:=1000000 }) (disch:=first | assumption | omega | (simp; done) | fail) [Tryz.results9, *]))
    exact ⟨by show n≤_; dsimp only; omega,fun b (hb:b < n)=>by show gput _ _ _ b=g b; simp (disch:=omega) only [gput_lt]; exact (HGZ.out b (by omega)).trans ((HG3.out b (by omega)).trans ((HG2.out b (by omega)).trans (HG1.out b hb)))⟩
end Go.Ai
end
