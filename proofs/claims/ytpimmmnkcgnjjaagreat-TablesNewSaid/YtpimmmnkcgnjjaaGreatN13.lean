/- A small verified interpreter over names, its proofs, and what was proved with it. No condition. -/
import Derived.Test.YtpimmmnkcgnjjaaGreatN12
import Derived.Test.YtpimmmnkcgnjjaaGreatN07
set_option linter.all false
set_option linter.deprecated false
section
namespace Go.Ai
open Go.Proofs
set_option maxRecDepth 10000
set_option maxHeartbeats 40000000
theorem words_at1 {q:Nat} {S:List (List Int)} {k:Nat} (h:k < S.length) : (wordsM q S)[k]?=some S[k]:=by
 unfold wordsM
 rw [List.getElem?_append_left h,List.getElem?_eq_getElem h]
theorem kids_at {q:Nat} {i:Nat} (hi:i < q) : ∀ {S:List (List Int)} {k:Nat} (h:k < S.length),(kidsM q S)[k * q+i]?=some (S[k]++[(i:Int)])
 | s :: S,0,h=>by
  unfold kidsM
  rw [List.flatMap_cons,List.getElem?_append_left (by simp; omega)]
  simp [hi]
 | s :: S,k+1,h=>by
  have:=kids_at hi (S:=S) (k:=k) (by simpa using h)
  unfold kidsM at this ⊢
  rw [List.flatMap_cons,List.getElem?_append_right (by simp [Nat.add_mul]; omega)]
  simp only [List.length_map,List.length_range]
  rw [show (k+1) * q+i - q=k * q+i by rw [Nat.add_mul]; omega,this]
  simp
theorem words_at2 {q:Nat} {i:Nat} (hi:i < q) {S:List (List Int)} {k:Nat} (h:k < S.length) : (wordsM q S)[S.length+(k * q+i)]?=some (S[k]++[(i:Int)]):=by
 unfold wordsM
 rw [List.getElem?_append_right (Nat.le_add_right _ _),Nat.add_sub_cancel_left,kids_at hi h]
theorem words_len {q:Nat} {S:List (List Int)} : (wordsM q S).length=S.length+S.length * q:=by
 unfold wordsM
 rw [List.length_append,kids_len]
abbrev WN:WF:=orW noO (WC 0 Tryz.prog)
theorem all_RG {I:Nat} (hI:I≤16) {S:List (List Int)} (hSl:S.length≤100) (hwl:∀ w∈S,w.length≤300) (c1 c3 c4 c5 c6:AV) (g:Nat→Option Blk) (n nb:Nat) (sv:AV) (hS:ListV g n S sv)
  {fr:Fr} {o:Operand} {ps:Array Tmp} {asg body:Code} {m:Nat} {plan:List (Nat×List It)} {Q:QR} (hev:fr.ev o=some (.func (.func 136) [] [.ptr nb 0])) (h0:(ps.toList.all (fun t=>Nat.blt t m) && (dstsOk m asg && dstsOk m body && (codeOkR Tryz.prog plan asg && codeOkR Tryz.prog plan body)))=true)
  (Inv:Nat→(Nat→Option Blk)→Nat→Prop) (Stop:(Nat→Option Blk)→Nat→Prop)
  (hmem:∀ k gL n2,Inv k gL n2→(∀ b,b < n→gL b=g b)∧n≤n2∧nb < n2∧gL nb=some (.cells [.lit (.int .i64 I),c1,sv,c3,c4,c5,c6] true 0))
  (hstep:∀ k w gP nP gL n2 gk wv K,(wordsM I S)[k]?=some w→Inv k gP nP→nP≤n2→(∀ b,b < nP→gL b=gP b)→(∀ a z,gk a=some z→gL a=some z∧(a < n∨(nP≤a∧a < n2)))→RepW gk n2 w wv→(∀ g' n',Inv (k+1) g' n'→K true none ⟨.fn g',n'⟩)→(∀ g' n',Stop g' n'→K false (some none) ⟨.fn g',n'⟩)→YB 0 Tryz.prog WN m plan ps asg body fr [wv] ⟨.fn gL,n2⟩ K)
  {gL:Nat→Option Blk} {n2:Nat} (h:Inv 0 gL n2) (hQ:∀ g' n',Inv (wordsM I S).length g' n'→Q none (.norm fr ⟨.fn g',n'⟩)) (hQs:∀ g' n',Stop g' n'→Q none (.ret fr ⟨.fn g',n'⟩)) :
  RG 0 Tryz.prog WN m plan o ps asg body fr ⟨.fn gL,n2⟩ Q:=by
 refine RG.enter 136 _ _ _ [3,11] [] h0 hev Tryz.func136 rfl (by kernel_rfl) (by decide +kernel) (Nat.le_of_ble_eq_true (by kernel_rfl)) ?_
 intro l
 have hlen:=@lenV Tryz.prog _ _ _ _ _ hS.choose_spec.1
 have HS:=Hide.mk hS
 have HM:=Hide.mk hmem
 have HQ:=Hide.mk hQ
 have HQS:=Hide.mk hQs
 have HI:=Hide.mk h
 have HWL:=Hide.mk hwl
 obtain ⟨_,hn0,hnb0,hgnb0⟩:=hmem _ _ _ h
 have h1s:=hS.choose_spec.1.one
 clear hmem hQ hQs h hS h0 hev hwl
 generalize YB 0 Tryz.prog WN m plan ps asg body fr=Y at hstep ⊢
 have HST:=Hide.mk hstep
 clear hstep
 have HQ2:Hide ((∀ g' n' gf,Inv (wordsM I S).length g' n'→itQ Tryz.prog Tryz.f136 (fun p H'=>jumpW Q fr H' p) none (.norm (.f gf []) ⟨.fn g',n'⟩))∧(∀ g' n' gf,Stop g' n'→itQ Tryz.prog Tryz.f136 (fun p H'=>jumpW Q fr H' p) (some none) (.ret (.f gf []) ⟨.fn g',n'⟩))):=by
  refine ⟨fun g' n' gf hi=>?_,fun g' n' gf hs=>?_⟩
  ·simp [Tryz.results136]
   exact HQ.out _ _ hi
  ·simp [Tryz.results136]
   exact HQS.out _ _ hs
 clear HQ HQS
 generalize itQ Tryz.prog Tryz.f136 (fun p H'=>jumpW Q fr H' p)=Q2 at HQ2 ⊢
 iterate 8 all_goals try first|with_reducible refine splitI (fun h=>?_) fun h=>?_|with_reducible refine splitBI (fun h=>?_) fun h=>?_|simp (maxSteps:=999999) (disch:=first|assumption|omega|(simp;done)|fail) [Tryz.results136, *]
 refine LXR.ind (fun m gf H'=>∃ (k n2:Nat) (gL:Nat→Option Blk),k≤S.length∧m=S.length - k∧H'=⟨.fn gL,n2⟩∧Hide (Inv k gL n2) ∧
  gf 0=some (.lit (.func (.yield l) #[] #[]))∧gf 1=some (.ptr nb 0)∧gf 9=some sv∧gf 10=some (.lit (.int .i64 S.length))∧gf 11=some (.lit (.int .i64 k))) (m0:=S.length) ?_ ?_
 ·exact ⟨0,_,_,Nat.zero_le _,rfl,rfl,HI,by simp,by simp,by simp,by simp,by simp⟩
 clear HI hgnb0 hn0 hnb0
 rintro m gf H' ⟨k,n2,gL,hk,rfl,rfl,HI,w0,w1,w9,w10,w11⟩ ih
 refine LXR.round (noO_ok _ _) hG [3,11] [] (by decide +kernel) ?_
 obtain ⟨hG1,hn0,hnb0,hgnb0⟩:=HM.out _ _ _ HI.out
 have HG:=Hide.mk hG1
 clear hG1
 by_cases hlt:k < S.length
 ·have hltI:(k:Int) < (S.length:Int):=by omega
  obtain ⟨a2,o2,qv,ha2,hia2,hc2,hq⟩:=HS.out.at hlt
  rw [← HG.out a2 ha2] at hc2
  have HY:=Hide.mk fun K=>HST.out k S[k] gL n2 gL n2 (fun a=>if a < n then g a else none) qv K (words_at1 hlt) HI.out (Nat.le_refl _) (fun _ _=>rfl) (fun a z hz=>by
   by_cases h:a < n
   ·rw [if_pos h] at hz; exact ⟨(HG.out a h).trans hz,.inl h⟩
   ·rw [if_neg h] at hz; cases hz) (SliceV.ext hn0 (fun a x ha hx=>by rw [if_pos ha]; exact hx) hq)
  clear hq
  iterate 8 all_goals try first|with_reducible refine splitI (fun h=>?_) fun h=>?_|with_reducible refine splitBI (fun h=>?_) fun h=>?_|simp (maxSteps:=999999) (disch:=first|assumption|omega|(simp;done)|fail) [Tryz.results136, *]
  refine HY.out _ (fun g3 n3 hi3=>?_) (fun g3 n3 hs=>?_)
  ·have HI3:=Hide.mk hi3
   clear hi3
   simp only [splitB_true]
   iterate 8 all_goals try first|with_reducible refine splitI (fun h=>?_) fun h=>?_|with_reducible refine splitBI (fun h=>?_) fun h=>?_|simp (maxSteps:=999999) (disch:=first|assumption|omega|(simp;done)|fail) [Tryz.results136, *]
   exact ih.out (S.length - (k+1)) _ _ (by omega) ⟨k+1,n3,g3,by omega,rfl,rfl,HI3,by simp [*],by simp [*],by simp [*],by simp [*],by simp⟩
  ·have HS3:=Hide.mk hs
   clear hs
   simp only [splitB_false]
   iterate 8 all_goals try first|with_reducible refine splitI (fun h=>?_) fun h=>?_|with_reducible refine splitBI (fun h=>?_) fun h=>?_|simp (maxSteps:=999999) (disch:=first|assumption|omega|(simp;done)|fail) [Tryz.results136, *]
   exact HQ2.out.2 _ _ _ HS3.out
 ·have hltI:¬(k:Int) < (S.length:Int):=by omega
  have hke:k=S.length:=by omega
  subst hke
  have HI0:Hide (Inv (S.length+0 * I) gL n2):=⟨by simpa using HI.out⟩
  clear ih HI
  iterate 8 all_goals try first|with_reducible refine splitI (fun h=>?_) fun h=>?_|with_reducible refine splitBI (fun h=>?_) fun h=>?_|simp (maxSteps:=999999) (disch:=first|assumption|omega|(simp;done)|fail) [Tryz.results136, *]
  refine LXR.ind (fun m gf H'=>∃ (k n2:Nat) (gL:Nat→Option Blk),k≤S.length∧m=S.length - k∧H'=⟨.fn gL,n2⟩∧Hide (Inv (S.length+k * I) gL n2) ∧
   gf 0=some (.lit (.func (.yield l) #[] #[]))∧gf 1=some (.ptr nb 0)∧gf 21=some sv∧gf 22=some (.lit (.int .i64 S.length))∧gf 23=some (.lit (.int .i64 k))) (m0:=S.length) ?_ ?_
  ·exact ⟨0,_,_,Nat.zero_le _,rfl,rfl,HI0,by simp [*],by simp [*],by simp,by simp,by simp⟩
  clear HI0 hgnb0 hn0 hnb0 HG w0 w1 w9 w10 w11 hk hlt hltI
  rintro m gf H' ⟨k,n2,gL,hk,rfl,rfl,HI,w0,w1,w21,w22,w23⟩ ih
  refine LXR.round (noO_ok _ _) hG [3,11] [] (by decide +kernel) ?_
  obtain ⟨hG1,hn0,hnb0,hgnb0⟩:=HM.out _ _ _ HI.out
  have HG:=Hide.mk hG1
  clear hG1
  by_cases hlt:k < S.length
  ·have hltI:(k:Int) < (S.length:Int):=by omega
   obtain ⟨a2,o2,qv,ha2,hia2,hc2,hq⟩:=HS.out.at hlt
   rw [← HG.out a2 ha2] at hc2
   have HQV:=Hide.mk hq
   have HWK:=Hide.mk fun (i:Nat) (hi:i < I)=>words_at2 (q:=I) (i:=i) hi hlt
   have HSL:=Hide.mk (HWL.out _ (List.getElem_mem hlt))
   have HKI:Hide (Inv (S.length+(k * I+0)) gL n2):=⟨by simpa using HI.out⟩
   clear hq HI
   generalize S[k]=s at *
   iterate 8 all_goals try first|with_reducible refine splitI (fun h=>?_) fun h=>?_|with_reducible refine splitBI (fun h=>?_) fun h=>?_|simp (maxSteps:=999999) (disch:=first|assumption|omega|(simp;done)|fail) [Tryz.results136, *]
   refine LXR.ind (fun m gf H'=>∃ (i n2:Nat) (gL:Nat→Option Blk),i≤I∧m=I - i∧H'=⟨.fn gL,n2⟩∧Hide (Inv (S.length+(k * I+i)) gL n2) ∧
    gf 0=some (.lit (.func (.yield l) #[] #[]))∧gf 1=some (.ptr nb 0)∧gf 6=some qv∧gf 21=some sv∧gf 22=some (.lit (.int .i64 S.length))∧gf 23=some (.lit (.int .i64 k))∧gf 28=some (.lit (.int .i64 I))∧gf 29=some (.lit (.int .i64 i))) (m0:=I) ?_ ?_
   ·exact ⟨0,_,_,Nat.zero_le _,rfl,rfl,HKI,by simp [*],by simp [*],by simp,by simp [*],by simp [*],by simp [*],by simp,by simp⟩
   clear HKI hgnb0 hn0 hnb0 HG w0 w1 w21 w22 w23 hc2
   rintro m2 gf2 H2 ⟨i,n3,g3,hi,rfl,rfl,HI,w0,w1,w6,w21,w22,w23,w28,w29⟩ ih2
   refine LXR.round (noO_ok _ _) hG [3,11] [] (by decide +kernel) ?_
   obtain ⟨hG1,hn0,hnb0,hgnb0⟩:=HM.out _ _ _ HI.out
   have HG:=Hide.mk hG1
   clear hG1
   by_cases hii:i < I
   ·have hiiI:(i:Int) < (I:Int):=by omega
    have h1q:=HQV.out.one
    iterate 8 all_goals try first|with_reducible refine splitI (fun h=>?_) fun h=>?_|with_reducible refine splitBI (fun h=>?_) fun h=>?_|simp (maxSteps:=999999) (disch:=first|assumption|omega|(simp;done)|fail) [Tryz.results136, *]
    refine WC.mono (tbehind_w (a:=s) (b:=[(i:Int)]) (by have:=HSL.out; omega) (by simp) (by simp) _ _ _ _ (SliceV.mono (by omega) (fun b hb=>?_) HQV.out) (RepW.of (own:=true) (z:=0) gput_eq (by omega))) ?_
    ·simp (disch:=omega) only [gput_lt]; exact HG.out b hb
    rintro _ ⟨uv,g4,n4,rfl,hn4,hg4,hfu,hcu⟩
    have hG4:∀ b,b < n3→g4 b=g3 b:=fun b hb=>by rw [hg4 b (by omega)]; simp (disch:=omega) only [gput_lt]
    have h1u:=hfu.rep.one
    obtain ⟨gk,hk1,hk2⟩:=hfu
    have HY:=Hide.mk fun K=>HST.out _ (s++[(i:Int)]) g3 n3 g4 n4 gk uv K (HWK.out i hii) HI.out (by omega) hG4 (fun a z hz=>by
     obtain ⟨e1,e2,e3⟩:=hk1 a z hz
     exact ⟨e1,.inr ⟨by omega,e3⟩⟩) hk2
    clear hg4 hG4 hk1 hk2 hcu
    iterate 8 all_goals try first|with_reducible refine splitI (fun h=>?_) fun h=>?_|with_reducible refine splitBI (fun h=>?_) fun h=>?_|simp (maxSteps:=999999) (disch:=first|assumption|omega|(simp;done)|fail) [Tryz.results136, *]
    refine HY.out _ (fun g5 n5 hi5=>?_) (fun g5 n5 hs=>?_)
    ·have HI5:Hide (Inv (S.length+(k * I+(i+1))) g5 n5):=⟨hi5⟩
     clear hi5 HY
     simp only [splitB_true]
     iterate 8 all_goals try first|with_reducible refine splitI (fun h=>?_) fun h=>?_|with_reducible refine splitBI (fun h=>?_) fun h=>?_|simp (maxSteps:=999999) (disch:=first|assumption|omega|(simp;done)|fail) [Tryz.results136, *]
     exact ih2.out (I - (i+1)) _ _ (by omega) ⟨i+1,n5,g5,by omega,rfl,rfl,HI5,by simp [*],by simp [*],by simp [*],by simp [*],by simp [*],by simp [*],by simp [*],by simp⟩
    ·have HS3:=Hide.mk hs
     clear hs HY
     simp only [splitB_false]
     iterate 8 all_goals try first|with_reducible refine splitI (fun h=>?_) fun h=>?_|with_reducible refine splitBI (fun h=>?_) fun h=>?_|simp (maxSteps:=999999) (disch:=first|assumption|omega|(simp;done)|fail) [Tryz.results136, *]
     exact HQ2.out.2 _ _ _ HS3.out
   ·have hiiI:¬(i:Int) < (I:Int):=by omega
    have hie:i=I:=by omega
    subst hie
    have HI5:Hide (Inv (S.length+(k+1) * i) g3 n3):=⟨by rw [Nat.add_mul,Nat.one_mul]; exact HI.out⟩
    clear HI ih2
    iterate 8 all_goals try first|with_reducible refine splitI (fun h=>?_) fun h=>?_|with_reducible refine splitBI (fun h=>?_) fun h=>?_|simp (maxSteps:=999999) (disch:=first|assumption|omega|(simp;done)|fail) [Tryz.results136, *]
    exact ih.out (S.length - (k+1)) _ _ (by omega) ⟨k+1,n3,g3,by omega,rfl,rfl,HI5,by simp [*],by simp [*],by simp [*],by simp [*],by simp⟩
  ·have hltI:¬(k:Int) < (S.length:Int):=by omega
   have hke:k=S.length:=by omega
   subst hke
   have HI5:Hide (Inv (wordsM I S).length gL n2):=⟨by rw [words_len]; exact HI.out⟩
   clear HI ih
   iterate 8 all_goals try first|with_reducible refine splitI (fun h=>?_) fun h=>?_|with_reducible refine splitBI (fun h=>?_) fun h=>?_|simp (maxSteps:=999999) (disch:=first|assumption|omega|(simp;done)|fail) [Tryz.results136, *]
   exact HQ2.out.1 _ _ _ HI5.out
end Go.Ai
end
