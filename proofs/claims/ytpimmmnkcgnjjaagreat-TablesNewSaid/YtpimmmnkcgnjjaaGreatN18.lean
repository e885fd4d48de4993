/- A small verified interpreter over names, its proofs, and what was proved with it. No condition. -/
import Derived.Test.YtpimmmnkcgnjjaaGreatN17
import Derived.Test.YtpimmmnkcgnjjaaGreatN09
import Derived.Test.YtpimmmnkcgnjjaaGreatN05
import Derived.Test.YtpimmmnkcgnjjaaGreatN14
import Derived.Test.YtpimmmnkcgnjjaaGreatN10
set_option linter.all false
set_option linter.deprecated false
section
namespace Go.Ai
open Go.Proofs
theorem H0_none (a:Nat) : H0.get a=none:=get4_e4 a
theorem lives_w (H:Mem) : WC 0 Tryz.prog 13 [] H fun r=>r=.ret (.lit (.bool true)) H:=by
 refine WC.local (H0:=H0) (O:=Otop) Otop_ok top_run rfl rfl (Nat.le_refl 0) (fun a=>?_) (fun a x hx=>?_) fun a x hx=>?_
 ·rw [H0_none]; rfl
 ·rw [H0_none] at hx; cases hx
 ·rw [H0_none] at hx; cases hx
end Go.Ai
end
section
namespace Go.Ai
open Go.Proofs
set_option maxRecDepth 10000
set_option maxHeartbeats 40000000
theorem sortNil_w (H:Mem) : WC 0 Tryz.prog 109 [.lit (.slice none 0 0),.lit (.func (.func 110) #[] #[])] H fun r=>r=.ret (.tup []) H:=by
 refine WC.local (H0:=H0) (O:=callG Tryz.prog noO 1000) (callG_ok (noO_ok _ _) hG0 1000) (by kernel_rfl) rfl rfl (Nat.le_refl 0) (fun a=>?_) (fun a x hx=>?_) fun a x hx=>?_
 ·rw [H0_none]; rfl
 ·rw [H0_none] at hx; cases hx
 ·rw [H0_none] at hx; cases hx
theorem CompactNil_w (H:Mem) : WC 0 Tryz.prog 111 [.lit (.slice none 0 0),.lit (.func (.func 112) #[] #[])] H fun r=>r=.ret (.lit (.slice none 0 0)) H:=by
 refine WC.local (H0:=H0) (O:=callG Tryz.prog noO 1000) (callG_ok (noO_ok _ _) hG0 1000) (by kernel_rfl) rfl rfl (Nat.le_refl 0) (fun a=>?_) (fun a x hx=>?_) fun a x hx=>?_
 ·rw [H0_none]; rfl
 ·rw [H0_none] at hx; cases hx
 ·rw [H0_none] at hx; cases hx
theorem tasks_w {I:Nat} (hI1:1≤I) (hI:I≤16) {S E:List (List Int)} {T:List (List (Int×Int))} (hSl:S.length≤20) (hSw:∀ w∈S,w.length≤300∧inW w I=true) (hEl:E.length≤20) (hE:∀ e∈E,0 < e.length∧e.length≤300∧inW e I=true) (h0:0 < T.length) (hok:∀ r∈T,r.length=I∧∀ e∈r,e.1 = -1∨(0≤e.1∧e.1 < T.length))
  (c1 c4 c5:AV) (hc:allOne [c1,c4,c5]=true) (g:Nat→Option Blk) (n:Nat) (sv ev tv:AV) (hS:ListV g n S sv) (hEV:ListV g n E ev) (hT:TreeV g n T tv) (hnd:(unksU T E (wordsM I S)).Nodup) :
  WC 0 Tryz.prog 51 [.agg [.lit (.int .i64 I),c1,sv,ev,c4,c5,tv]] ⟨.fn g,n⟩ fun r=>∃ l' ov g' n',r=.ret ov ⟨.fn g',n'⟩∧n≤n'∧(∀ b,b < n→g' b=g b)∧l'.Perm (unksU T E (wordsM I S))∧(∀ (i j:Nat) (_:i < j) (hj:j < l'.length),0≤cmpM l'[j] (l'[i]'(by omega)))∧OutL (fun _=>True) g' n n' l' ov:=by
 have h1s:=hS.choose_spec.1.one
 have h1e:=hEV.choose_spec.1.one
 have h1t:=hT.choose_spec.1.one
 have hone:allOne [.lit (.int .i64 I),c1,sv,ev,c4,c5,tv]=true:=by
  simp only [allOne_cons,Bool.and_eq_true] at hc ⊢
  simp [hc,h1s,h1e,h1t]
 have hc3:allOne [.lit (.int .i64 I),c1,sv,ev,c4,c5]=true:=by
  simp only [allOne_cons,Bool.and_eq_true] at hc ⊢
  simp [hc,h1s,h1e]
 have hlenE:=@lenV Tryz.prog _ _ _ _ _ hEV.choose_spec.1
 refine WC.enterR (noO_ok _ _) hG [] Tryz.func51 rfl (by decide +kernel) (Nat.le_of_ble_eq_true (by kernel_rfl)) ?_
 iterate 8 all_goals try first|with_reducible refine splitI (fun h=>?_) fun h=>?_|with_reducible refine splitBI (fun h=>?_) fun h=>?_|simp (maxSteps:=999999) (disch:=first|assumption|omega|(simp;done)|fail) [Tryz.results51, *]
 refine WC.mono (tall_w _ _ _ _ _ _ _ hone _ _) ?_
 rintro _ rfl
 iterate 8 all_goals try first|with_reducible refine splitI (fun h=>?_) fun h=>?_|with_reducible refine splitBI (fun h=>?_) fun h=>?_|simp (maxSteps:=999999) (disch:=first|assumption|omega|(simp;done)|fail) [Tryz.results51, *]
 refine all_RG hI (by omega) (fun w hw=>(hSw w hw).1) c1 ev c4 c5 tv g n (n+2) sv hS (by simp) (by decide +kernel) (fun k gL n2=>AskM (fun _=>True) g n [.lit (.int .i64 I),c1,sv,ev,c4,c5,tv] (unksU T E ((wordsM I S).take k)) gL n2) (fun _ _=>False) ?_ ?_ ?_ ?_ ?_
 ·rintro k gL n2 ⟨h1,h2,h3,h4,h5⟩
  exact ⟨h1,by omega,by omega,h4⟩
 ·intro k w gP nP gL n2 gk wv K' hk HI hn2 hgP hgk hrw HK1 HK2
  refine YB.enter rfl ?_
  have HK:=Hide.mk HK1
  have HL0:Hide (∀ x,AskM (fun _=>True) g n [.lit (.int .i64 I),c1,sv,ev,c4,c5,tv] x=AskM (fun _=>True) g n [.lit (.int .i64 I),c1,sv,ev,c4,c5,tv] x):=⟨fun _=>rfl⟩
  have HSTP:=Hide.mk (unksU_step (T:=T) (E:=E) hk)
  have hll:(unksU T E ((wordsM I S).take k)).length≤6800:=by
   have h1:=unksU_len (T:=T) (E:=E) (ws:=(wordsM I S).take k)
   have h2:((wordsM I S).take k).length≤340:=by
    rw [List.length_take,words_len]
    have:=Nat.mul_le_mul hSl hI
    omega
   have:=Nat.mul_le_mul h2 hEl
   omega
  obtain ⟨hwl,hwi⟩:=words_mem hSw hk
  have HA:Hide (AskM (fun B=>gk B=none) g n [.lit (.int .i64 I),c1,sv,ev,c4,c5,tv] (unksU T E ((wordsM I S).take k)) gL n2):=⟨HI.keep (fun b hb1 hb2 _=>by
   cases hz:gk b with
   | none=>rfl
   | some z=>have:=(hgk b z hz).2; omega) hn2 hgP⟩
  have HGK:Hide (∀ a z,gk a=some z→gL a=some z∧a < n2∧a≠n+1):=⟨fun a z hz=>by
   have h1:=hgk a z hz
   have h2:=HI.2.1
   exact ⟨h1.1,by omega,by omega⟩⟩
  have HRW:=Hide.mk hrw
  have hgn:=HA.out.2.2.1
  clear HK1 HK2 HL0 hk HI hgP hgk hrw hn2
  generalize unksU T E ((wordsM I S).take k)=L0 at *
  have HEV:=Hide.mk hEV
  have HE:=Hide.mk hE
  have HG0:=Hide.mk HA.out.1
  iterate 8 all_goals try first|with_reducible refine splitI (fun h=>?_) fun h=>?_|with_reducible refine splitBI (fun h=>?_) fun h=>?_|simp (maxSteps:=999999) (disch:=first|assumption|omega|(simp;done)|fail) [Tryz.results51, *]
  clear hgn
  refine LXR.ind (fun m gf H'=>∃ (j n3:Nat) (g3:Nat→Option Blk),j≤E.length∧m=E.length - j∧H'=⟨.fn g3,n3⟩∧n2≤n3∧Hide (AskM (fun B=>gk B=none) g n [.lit (.int .i64 I),c1,sv,ev,c4,c5,tv] (L0++unkU T (E.take j) w) g3 n3)∧Hide (∀ a z,gk a=some z→g3 a=some z∧a < n2∧a≠n+1) ∧
   gf 1=some (.ptr n 0)∧gf 3=some (.ptr (n+1) 0)∧gf 4=some wv∧gf 14=some ev∧gf 15=some (.lit (.int .i64 E.length))∧gf 16=some (.lit (.int .i64 j))) (m0:=E.length) ?_ ?_
  ·exact ⟨0,n2,gL,Nat.zero_le _,rfl,rfl,Nat.le_refl _,⟨by rw [List.take_zero]; simpa [unkU] using HA.out⟩,HGK,by simp,by simp,by simp,by simp,by simp,by simp⟩
  clear HA HGK
  rintro m gf H' ⟨j,n3,g3,hj,rfl,rfl,hn3,HA,HGK,w1,w3,w4,w14,w15,w16⟩ ih
  refine LXR.round (noO_ok _ _) hG [] [] (by decide +kernel) ?_
  have HG3:=Hide.mk HA.out.1
  have hgn:=HA.out.2.2.1
  have hn33:=HA.out.2.1
  by_cases hlt:j < E.length
  ·have hltI:(j:Int) < (E.length:Int):=by omega
   obtain ⟨a2,o2,qv,ha2,hia2,hc2,hq⟩:=HEV.out.at hlt
   rw [← HG3.out a2 ha2] at hc2
   obtain ⟨he1,he2,he3⟩:=HE.out _ (List.getElem_mem hlt)
   have HST:=Hide.mk (unkU_step (T:=T) (w:=w) hlt)
   have HB:=Hide.mk (tbehind_w (a:=w) (b:=E[j]) (by omega) (by omega) he1 g3 n3 wv qv (SliceV.ext (by omega) (fun a x _ hx=>(HGK.out a x hx).1) HRW.out) (SliceV.mono (by omega) HG3.out hq))
   clear hq
   generalize E[j]=e at *
   iterate 8 all_goals try first|with_reducible refine splitI (fun h=>?_) fun h=>?_|with_reducible refine splitBI (fun h=>?_) fun h=>?_|simp (maxSteps:=999999) (disch:=first|assumption|omega|(simp;done)|fail) [Tryz.results51, *]
   refine WC.mono HB.out ?_
   rintro _ ⟨uv,g4,n4,rfl,hn4,hg4,hfu,hcu⟩
   have HG4:=Hide.mk hg4
   have hgn4:=(hg4 n (by omega)).trans hgn
   have HKW:=Hide.mk (tknown_w h0 hok (w:=w++e) (by rw [List.length_append]; omega) (inW_app hwi he3) (.lit (.int .i64 I)) c1 sv ev c4 c5 hc3 g4 n4 tv uv (hT.mono (by omega) fun b hb=>(hg4 b (by omega)).trans (HG3.out b hb)) hfu.rep)
   have HFU:=Hide.mk hfu
   have h1u:=hfu.rep.one
   have hcu1:=hfu.rep.cell
   have HCU:=Hide.mk hcu
   clear HB hg4 hfu hcu
   iterate 8 all_goals try first|with_reducible refine splitI (fun h=>?_) fun h=>?_|with_reducible refine splitBI (fun h=>?_) fun h=>?_|simp (maxSteps:=999999) (disch:=first|assumption|omega|(simp;done)|fail) [Tryz.results51, *]
   refine WC.mono HKW.out ?_
   rintro _ ⟨kv,g5,n5,rfl,hn5,hg5,_⟩
   have HG5:Hide (∀ b,b < n3→g5 b=g3 b):=⟨fun b hb=>(hg5 b (by omega)).trans (HG4.out b hb)⟩
   have HFV:Hide (FreshW g5 n3 n5 (w++e) uv):=⟨HFU.out.keep (Nat.le_refl _) hn5 fun a _ h=>hg5 a h⟩
   clear HKW HG4 HFU hg5
   cases hA:ansM T 0 (w++e) with
   | some u =>
    have HL:Hide (AskM (fun B=>gk B=none) g n [.lit (.int .i64 I),c1,sv,ev,c4,c5,tv] (L0++unkU T (E.take (j+1)) w) g5 n5):=⟨by
     rw [HST.out,hA]
     simpa using HA.out.keep (fun _ _ _ h=>h) (by omega) HG5.out⟩
    simp only [Option.isSome_some]
    clear HA HST hA
    iterate 8 all_goals try first|with_reducible refine splitI (fun h=>?_) fun h=>?_|with_reducible refine splitBI (fun h=>?_) fun h=>?_|simp (maxSteps:=999999) (disch:=first|assumption|omega|(simp;done)|fail) [Tryz.results51, *]
    exact ih.out (E.length - (j+1)) _ _ (by omega) ⟨j+1,n5,g5,by omega,rfl,rfl,by omega,HL,⟨fun a z hz=>by have:=HGK.out a z hz; exact ⟨(HG5.out a (by omega)).trans this.1,this.2⟩⟩,by simp [*],by simp [*],by simp [*],by simp [*],by simp [*],by simp⟩
   | none =>
    have HL:Hide (L0++unkU T (E.take (j+1)) w=(L0++unkU T (E.take j) w)++[w++e]):=⟨by rw [HST.out,hA]; simp⟩
    have hl2:(L0++unkU T (E.take j) w).length≤7000:=by
     have:=unkU_len (T:=T) (E:=E.take j) (w:=w)
     rw [List.length_take] at this
     rw [List.length_append]; omega
    simp only [Option.isSome_none]
    obtain ⟨hA1,hA2,hA3,hA4,ov,hA5,hA6⟩:=HA.out
    have hm1:∀ b,b < n3→g5 b=g3 b:=HG5.out
    have hb1:=(hm1 (n+1) (by omega)).trans hA5
    have HA1:=Hide.mk hA1
    have HA34:=Hide.mk (And.intro hA3 hA4)
    have HL2:=Hide.mk hl2
    clear HA HST hA hm1 hA1 hA3 hA4 hA5
    generalize L0++unkU T (E.take j) w=L1 at *
    have h2u:allOne [uv]=true:=by simp [h1u]
    rcases hA6 with ⟨rfl,rfl⟩ | ⟨hl0,B,cs,rfl,hB1,hB2,hB3,hB4,hcl,hrows,hcap⟩
    ·iterate 8 all_goals try first|with_reducible refine splitI (fun h=>?_) fun h=>?_|with_reducible refine splitBI (fun h=>?_) fun h=>?_|simp (maxSteps:=999999) (disch:=first|assumption|omega|(simp;done)|fail) [Tryz.results51, *]
     refine ih.out (E.length - (j+1)) _ _ (by omega) ⟨j+1,n5+1+1,_,by omega,rfl,rfl,by omega,⟨?_,by omega,?_,?_,_,gput_eq,?_⟩,⟨fun a z hz=>?_⟩,by simp [*],by simp [*],by simp [*],by simp [*],by simp [*],by simp⟩
     ·intro b hb; simp (disch:=omega) only [gput_lt,gput_ne]; exact (HG5.out b (by omega)).trans (HA1.out b hb)
     ·simp (disch:=omega) only [gput_lt,gput_ne]; exact (HG5.out n (by omega)).trans HA34.out.1
     ·simp (disch:=omega) only [gput_gt,gput_lt,gput_ne]; exact (HG5.out (n+2) (by omega)).trans HA34.out.2
     ·rw [HL.out]
      refine OutL.push (gL:=g3) (n2:=n3) (l:=[]) (cs:=[]) 0 ⟨rfl,fun k h=>(by cases h)⟩ (by simp) (by omega) (by omega) (fun b h1 h2 _=>?_) (HFV.out.keep (Nat.le_refl _) (Nat.le_refl _) fun a h1 h2=>?_) HCU.out ?_ ?_
      ·simp (disch:=omega) only [gput_gt,gput_lt,gput_ne]; exact HG5.out b h2
      ·simp (disch:=omega) only [gput_gt,gput_lt,gput_ne]
      ·simp (disch:=omega) only [gput_gt,gput_eq,gput_ne]; rfl
      ·cases hz:gk (n5+1) with
       | none=>rfl
       | some z=>have:=HGK.out _ z hz; omega
     ·have:=HGK.out a z hz
      simp (disch:=omega) only [gput_lt,gput_ne]
      exact ⟨(HG5.out a (by omega)).trans this.1,this.2⟩
    ·have hgB:=(HG5.out B (by omega)).trans hB4
     have hl7:=HL2.out
     have hcl1:cs.length=L1.length * 1:=by omega
     iterate 8 all_goals try first|with_reducible refine splitI (fun h=>?_) fun h=>?_|with_reducible refine splitBI (fun h=>?_) fun h=>?_|simp (maxSteps:=999999) (disch:=first|assumption|omega|(simp;done)|fail) [Tryz.results51, *]
     refine ih.out (E.length - (j+1)) _ _ (by omega) ⟨j+1,n5+1+1,_,by omega,rfl,rfl,by omega,⟨?_,by omega,?_,?_,_,gput_eq,?_⟩,⟨fun a z hz=>?_⟩,by simp [*],by simp [*],by simp [*],by simp [*],by simp [*],by simp⟩
     ·intro b hb; simp (disch:=omega) only [gput_lt,gput_ne]; exact (HG5.out b (by omega)).trans (HA1.out b hb)
     ·simp (disch:=omega) only [gput_lt,gput_ne]; exact (HG5.out n (by omega)).trans HA34.out.1
     ·simp (disch:=omega) only [gput_gt,gput_lt,gput_ne]; exact (HG5.out (n+2) (by omega)).trans HA34.out.2
     ·rw [HL.out]
      refine OutL.push (gL:=g3) (n2:=n3) B hrows hcap (by omega) (by omega) (fun b h1 h2 h3=>?_) (HFV.out.keep (Nat.le_refl _) (Nat.le_refl _) fun a h1 h2=>?_) HCU.out ?_ ?_
      ·simp (disch:=omega) only [gput_gt,gput_lt,gput_ne]; exact HG5.out b h2
      ·simp (disch:=omega) only [gput_gt,gput_lt,gput_ne]
      ·simp (disch:=omega) only [gput_gt,gput_eq,gput_ne]
      ·cases hz:gk (n5+1) with
       | none=>rfl
       | some z=>have:=HGK.out _ z hz; omega
     ·have:=HGK.out a z hz
      have hab:a≠B:=by rintro rfl; rw [hz] at hB3; cases hB3
      simp (disch:=omega) only [gput_lt,gput_ne]
      exact ⟨(HG5.out a (by omega)).trans this.1,this.2⟩
  ·have hltI:¬(j:Int) < (E.length:Int):=by omega
   have HL:Hide (AskM (fun _=>True) g n [.lit (.int .i64 I),c1,sv,ev,c4,c5,tv] (unksU T E ((wordsM I S).take (k+1))) g3 n3):=⟨by
    rw [HSTP.out]
    have:=HA.out.keep (Y:=fun _=>True) (fun _ _ _ _=>trivial) (Nat.le_refl _) (fun _ _=>rfl)
    rwa [List.take_of_length_le (by omega)] at this⟩
   clear HA HSTP
   iterate 8 all_goals try first|with_reducible refine splitI (fun h=>?_) fun h=>?_|with_reducible refine splitBI (fun h=>?_) fun h=>?_|simp (maxSteps:=999999) (disch:=first|assumption|omega|(simp;done)|fail) [Tryz.results51, *]
   exact HK.out _ _ HL.out
 ·refine ⟨fun b hb=>?_,by omega,?_,gput_eq,_,?_,.inl ⟨by simp [unksU],rfl⟩⟩
  ·simp (disch:=omega) only [gput_lt]
  ·simp (disch:=omega) only [gput_lt,gput_eq]
  ·simp (disch:=omega) only [gput_lt,gput_eq]
 ·intro gL n2 HI
  rw [List.take_of_length_le (Nat.le_refl _)] at HI
  obtain ⟨hA1,hA2,hA3,hA4,ov,hA5,hA6⟩:=HI
  have HA1:=Hide.mk hA1
  have HA6:=Hide.mk hA6
  clear hA1 hA6
  iterate 8 all_goals try first|with_reducible refine splitI (fun h=>?_) fun h=>?_|with_reducible refine splitBI (fun h=>?_) fun h=>?_|simp (maxSteps:=999999) (disch:=first|assumption|omega|(simp;done)|fail) [Tryz.results51, *]
  rcases HA6.out with ⟨hl0,rfl⟩ | ⟨hl0,B,cs,rfl,hB1,hB2,_,hB3,hcl,hrows,hcap⟩
  ·refine WC.mono (sortNil_w _) ?_
   rintro _ rfl
   iterate 8 all_goals try first|with_reducible refine splitI (fun h=>?_) fun h=>?_|with_reducible refine splitBI (fun h=>?_) fun h=>?_|simp (maxSteps:=999999) (disch:=first|assumption|omega|(simp;done)|fail) [Tryz.results51, *]
   refine WC.mono (CompactNil_w _) ?_
   rintro _ rfl
   iterate 8 all_goals try first|with_reducible refine splitI (fun h=>?_) fun h=>?_|with_reducible refine splitBI (fun h=>?_) fun h=>?_|simp (maxSteps:=999999) (disch:=first|assumption|omega|(simp;done)|fail) [Tryz.results51, *]
   exact ⟨[],_,_,_,⟨rfl,rfl,rfl⟩,by omega,HA1.out,(by first | rfl | simp [hl0]),fun i j _ hj=>(by cases hj),.inl ⟨rfl,rfl⟩⟩
  ·have hll:(unksU T E (wordsM I S)).length≤100000:=by
    have h1:=unksU_len (T:=T) (E:=E) (ws:=wordsM I S)
    have h2:(wordsM I S).length≤340:=by
     rw [words_len]
     have:=Nat.mul_le_mul hSl hI
     omega
    have:=Nat.mul_le_mul h2 hEl
    omega
   have hww:∀ w∈unksU T E (wordsM I S),w.length≤100000:=fun w hw=>by
    obtain ⟨u,hu,hw⟩:=List.mem_flatMap.1 hw
    obtain ⟨e,he,rfl⟩:=List.mem_map.1 (List.mem_filter.1 hw).1
    obtain ⟨k,hk⟩:=List.getElem?_of_mem hu
    have h1:=words_mem hSw hk
    have h2:=hE e he
    rw [List.length_append]; omega
   have HND:=Hide.mk hnd
   clear hnd HA6
   generalize unksU T E (wordsM I S)=U at *
   refine WC.mono (sortW_w hrows hB3 hl0 hll fun w hw=>by have:=hww w hw; omega) ?_
   rintro _ ⟨l',cs',hp,hs,rfl,hr2,hm2⟩
   have hll2:l'.length=U.length:=hp.length_eq
   have HP:=Hide.mk hp
   have HS:=Hide.mk hs
   have HR2:=Hide.mk hr2
   have HM2:=Hide.mk hm2
   have hb5:(gput gL B (some (.cells cs' true 1))) (n+1)=some (.cells [.slq B 0 U.length 0] true 0):=by simp (disch:=omega) only [gput_lt,gput_ne]; exact hA5
   have HC:=Hide.mk (CompactS_w (l:=l') hr2 gput_eq (by omega) (by omega) (fun w hw=>hww w (hp.mem_iff.1 hw)) fun k hk he=>by
    exact (List.pairwise_iff_getElem.1 (hp.nodup_iff.2 HND.out)) k (k+1) _ _ (by omega) he.symm)
   rw [hll2] at HC
   have HG9:Hide (∀ b,b < n→gput gL B (some (.cells cs' true 1)) b=g b):=⟨fun b hb=>by simp (disch:=omega) only [gput_lt,gput_ne]; exact HA1.out b hb⟩
   have hgB9:gput gL B (some (.cells cs' true 1)) B=some (.cells cs' true 1):=gput_eq
   clear hp hs hr2 hm2 hrows hB3 hA3 hA4 hA5
   generalize gput gL B (some (.cells cs' true 1))=g9 at *
   iterate 8 all_goals try first|with_reducible refine splitI (fun h=>?_) fun h=>?_|with_reducible refine splitBI (fun h=>?_) fun h=>?_|simp (maxSteps:=999999) (disch:=first|assumption|omega|(simp;done)|fail) [Tryz.results51, *]
   refine WC.mono HC.out ?_
   rintro _ rfl
   iterate 8 all_goals try first|with_reducible refine splitI (fun h=>?_) fun h=>?_|with_reducible refine splitBI (fun h=>?_) fun h=>?_|simp (maxSteps:=999999) (disch:=first|assumption|omega|(simp;done)|fail) [Tryz.results51, *]
   refine ⟨l',_,_,_,⟨rfl,rfl,rfl⟩,by omega,HG9.out,HP.out,(fun i j h hj=>by have:=HS.out i j h hj; omega),.inr ⟨by omega,B,cs',by rw [hll2],by omega,hB2,trivial,hgB9,by rw [HR2.out.1],?_,fun q hq=>hcap q (HM2.out q hq)⟩⟩
   exact HR2.out.ext (Nat.le_refl _) fun a z _ hz=>by
    obtain ⟨e1,e2,e3⟩:=outG_some hz
    rw [outG_at (by omega) e2]; exact e3
 ·intro _ _ h; exact h.elim
theorem slT22:sliceT Tryz.prog 22=true:=by kernel_rfl
attribute [simp] slT22
theorem WsClone_n {len:Nat} {cs:List AV} (h0:0 < len) (hl:len≤100000) (hcs:cs.length=len * 1) (g:Nat→Option Blk) (n:Nat) (sv:AV) (hv:SliceV g n sv len cs) :
  WC 0 Tryz.prog 54 [sv] ⟨.fn g,n⟩ fun r=>∃ g',r=.ret (.slq (n+1) 0 len 0) ⟨.fn g',n+1+1⟩∧(∀ x,x < n→g' x=g x)∧g' (n+1)=some (.cells cs true 1):=by
 obtain ⟨a2,blk,ha2,hga2,hap⟩:=SliceV.ap0 (P:=Tryz.prog) (sz:=1) hv h0 (by omega) hcs
 rcases hv with ⟨h1,_⟩ | ⟨a,off,ha,⟨c,rfl⟩ | ⟨c,rfl⟩,hrow⟩
 ·omega
 all_goals
  clear hrow
  refine WC.enterP (noO_ok _ _) hG [] Tryz.func54 rfl (by decide +kernel) (Nat.le_of_ble_eq_true (by kernel_rfl)) ?_
  iterate 8 all_goals try first|with_reducible refine splitI (fun h=>?_) fun h=>?_|with_reducible refine splitBI (fun h=>?_) fun h=>?_|simp (maxSteps:=999999) (disch:=first|assumption|omega|(simp;done)|fail) [Tryz.results54, *]
  intro x hx
  simp (disch:=omega) only [gput_lt]
theorem WsClip_w {len a:Nat} (h0:0 < len) (H:Mem) : WC 0 Tryz.prog 53 [.slq a 0 len 0] H fun r=>r=.ret (.sl a 0 len len) H:=by
 refine WC.ofFn ?_
 refine WC.enterP (noO_ok _ _) hG [] Tryz.func53 rfl (by decide +kernel) (Nat.le_of_ble_eq_true (by kernel_rfl)) ?_
 iterate 8 all_goals try first|with_reducible refine splitI (fun h=>?_) fun h=>?_|with_reducible refine splitBI (fun h=>?_) fun h=>?_|simp (maxSteps:=999999) (disch:=first|assumption|omega|(simp;done)|fail) [Tryz.results53, *]
structure CpK {β:Type} (R:(Nat→Option Blk)→Nat→β→AV→Prop) (g:Nat→Option Blk) (lo n:Nat) (l:List β) (k:Nat) (cs svs:List AV) : Prop where
 len:cs.length=l.length
 new:∀ (j:Nat) (h:j < l.length),j < k→∃ q,cs[j]?=some q∧R (fromG lo g) n l[j] q
 old:∀ j,k≤j→cs[j]?=svs[j]?
theorem CpK.step {β:Type} {R:(Nat→Option Blk)→Nat→β→AV→Prop} (hm:∀ {g g' : Nat→Option Blk} {n n' : Nat} {x:β} {q:AV},R g n x q→n≤n'→(∀ a z,a < n→g a=some z→g' a=some z)→R g' n' x q)
  {g g' : Nat→Option Blk} {lo n n' : Nat} {l:List β} {k:Nat} {cs svs:List AV} (h:CpK R g lo n l k cs svs) (hn:n≤n') (hg:∀ a,lo≤a→a < n→g' a=g a) (hk:k < l.length) {q:AV} (hq:R (fromG lo g') n' l[k] q) : CpK R g' lo n' l (k+1) (cs.set k q) svs:=by
 have hl:=h.len
 refine ⟨by rw [List.length_set]; exact hl,fun j hj hjk=>?_,fun j hj=>?_⟩
 ·by_cases e:j=k
  ·subst e
   exact ⟨q,by rw [List.getElem?_set_self (by omega)],hq⟩
  ·obtain ⟨q',e1,e2⟩:=h.new j hj (by omega)
   refine ⟨q',by rw [List.getElem?_set_ne (by omega)]; exact e1,hm e2 hn fun a z ha hz=>?_⟩
   obtain ⟨h1,h2⟩:=fromG_in hz
   rw [fromG_ne h1,hg a h1 ha]; exact h2
 ·rw [List.getElem?_set_ne (by omega)]; exact h.old j (by omega)
theorem CpK.keep {β:Type} {R:(Nat→Option Blk)→Nat→β→AV→Prop} (hm:∀ {g g' : Nat→Option Blk} {n n' : Nat} {x:β} {q:AV},R g n x q→n≤n'→(∀ a z,a < n→g a=some z→g' a=some z)→R g' n' x q)
  {g g' : Nat→Option Blk} {lo n n' : Nat} {l:List β} {k:Nat} {cs svs:List AV} (h:CpK R g lo n l k cs svs) (hn:n≤n') (hg:∀ a,lo≤a→a < n→g' a=g a) : CpK R g' lo n' l k cs svs :=
 ⟨h.len,fun j hj hjk=>let ⟨q,e1,e2⟩:=h.new j hj hjk; ⟨q,e1,hm e2 hn fun a z ha hz=>by
  obtain ⟨h1,h2⟩:=fromG_in hz
  rw [fromG_ne h1,hg a h1 ha]; exact h2⟩,h.old⟩
theorem TightV.cap {len:Nat} {rv:AV} (h:TightV len rv) : CapV rv:=by
 intro a o n c e
 rcases h with ⟨_,rfl⟩ | ⟨a',o',rfl⟩
 ·cases e
 ·cases e; exact Nat.le_refl _
end Go.Ai
end
