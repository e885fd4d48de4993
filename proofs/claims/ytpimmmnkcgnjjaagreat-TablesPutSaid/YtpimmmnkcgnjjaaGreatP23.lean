/- A small verified interpreter over names, its proofs, and what was proved with it. No condition. -/
import Derived.Test.YtpimmmnkcgnjjaaGreatP22
set_option linter.all false
set_option linter.deprecated false
section
namespace Go.Ai
open Go.Proofs
set_option maxRecDepth 10000
set_option maxHeartbeats 40000000
theorem Widen36_w {I:Nat} {O:Int} {S E:List (List Int)} {T:List (List (Int×Int))} (hp:TabP I O S E T) {w:List Int} (hwl:w.length≤300) (g:Nat→Option Blk) (n:Nat) (sv ev tv wv:AV) (hT:TabV g n S E T sv ev tv) (hw:RepW g n w wv) (hcw:CapV wv) :
  WC 0 Tryz.prog 39 [.agg [.lit (.int .i64 I),.lit (.int .i64 O),sv,ev,.lit (.int .i64 I),.lit (.int .i64 O),tv],wv] ⟨.fn g,n⟩ fun r=>∃ rv g' n',r=.ret (.tup [rv,.lit (.int .i64 (widenP I S E w))]) ⟨.fn g',n'⟩∧n≤n'∧(∀ b,b < n→g' b=g b)∧TabRes I O (widenP I S E w) S (E++[w]) T g' n' rv:=by
 have h1s:=hT.s.one
 have h1e:=hT.e.one
 have h1t:=hT.t.choose_spec.1.one
 have hone:allOne [.lit (.int .i64 I),.lit (.int .i64 O),sv,ev,.lit (.int .i64 I),.lit (.int .i64 O),tv]=true:=by simp [h1s,h1e,h1t]
 have hlen:=@lenV Tryz.prog _ _ _ _ _ hw
 have hi1:=hp.i1
 have hi2:=hp.i2
 have HCK:=Hide.mk fun (gX:Nat→Option Blk) (n2:Nat) (hn:n≤n2) (hX:∀ b,b < n→gX b=g b)=>hp.check (hT.mono hn hX)
 have HHS:=Hide.mk fun (x:List Int) (hx:x.length≤300) (xv:AV) (hxr:RepW g n x xv) (gX:Nat→Option Blk) (n2:Nat) (hn:n≤n2) (hX:∀ b,b < n→gX b=g b)=>thas_w (l:=E) (by have:=hp.el; omega) (w:=x) (by omega) (fun y hy=>by have:=(hp.ew y hy).2.1; omega) gX n2 ev xv (hT.mono hn hX).e.listV (SliceV.mono hn hX hxr)
 have HCO:=Hide.mk fun (gX:Nat→Option Blk) (n2:Nat) (hn:n≤n2) (hX:∀ b,b < n→gX b=g b)=>copied_w (I:=I) hi1 (by omega) hp.s0 (by have:=hp.sl; omega) (fun y hy=>by have:=(hp.sw y hy).1; omega) (E:=E) (T:=T) hp.e0 (by have:=hp.el; omega) (fun y hy=>by have:=(hp.ew y hy).2.1; omega) hp.t0 (by have:=hp.tl; omega) (fun r hr=>(hp.ok r hr).1) (.lit (.int .i64 I)) (.lit (.int .i64 O)) (.lit (.int .i64 I)) (.lit (.int .i64 O)) (by simp) gX n2 sv ev tv (hT.mono hn hX)
 have HW:=Hide.mk hw
 have HP:=Hide.mk hp
 obtain ⟨er,her⟩ : ∃ x,x=widenP I S E w:=⟨_,rfl⟩
 rw [← her]
 have HER:=Hide.mk her
 clear her
 have HWE:=Hide.mk fun (gX:Nat→Option Blk) (n2:Nat) (hn:n≤n2) (hX:∀ b,b < n→gX b=g b)=>wCheck_w w (by omega) I gX n2 wv (SliceV.mono hn hX hw)
 have HHW:=Hide.mk (HHS.out w hwl wv hw)
 clear HHS hw hcw hp
 unfold widenP at HER
 by_cases hwe:wErr w I=0
 rotate_left
 ·have he:er=wErr w I:=by rw [HER.out,if_pos hwe]
  have HWN:=Hide.mk hwe
  have HEN:Hide (er≠0):=⟨by rw [he]; exact hwe⟩
  rw [← he] at HWE hwe
  clear hT he
  refine WC.enterP (noO_ok _ _) hG pl39 Tryz.func39 rfl (by decide +kernel) (Nat.le_of_ble_eq_true (by kernel_rfl)) ?_
  iterate 8 (all_goals try (first | with_reducible refine splitI (fun h=>?_) (fun h=>?_) | with_reducible refine splitBI (fun h=>?_) (fun h=>?_) | simp (config:={ maxSteps:=1000000 }) (disch:=first | assumption | omega | (simp; done) | fail) [Tryz.results39, *]))
  refine WC.mono (HCK.out _ _ (by omega) fun b hb=>?_) ?_
  ·simp (disch:=omega) only [gput_lt]
  rintro _ rfl
  iterate 8 (all_goals try (first | with_reducible refine splitI (fun h=>?_) (fun h=>?_) | with_reducible refine splitBI (fun h=>?_) (fun h=>?_) | simp (config:={ maxSteps:=1000000 }) (disch:=first | assumption | omega | (simp; done) | fail) [Tryz.results39, *]))
  refine WC.mono (HWE.out _ _ (by omega) fun b hb=>?_) ?_
  ·simp (disch:=omega) only [gput_lt]
  rintro _ rfl
  iterate 8 (all_goals try (first | with_reducible refine splitI (fun h=>?_) (fun h=>?_) | with_reducible refine splitBI (fun h=>?_) (fun h=>?_) | simp (config:={ maxSteps:=1000000 }) (disch:=first | assumption | omega | (simp; done) | fail) [Tryz.results39, *]))
  exact ⟨_,_,_,⟨rfl,rfl,rfl⟩,by omega,fun b hb=>by simp (disch:=omega) only [gput_lt],.inl ⟨HEN.out,rfl⟩⟩
 rw [if_neg (show ¬wErr w I≠0 from fun h=>h hwe)] at HER
 rw [hwe] at HWE
 clear hwe
 by_cases hw0:w.length=0
 ·have he:er=1:=by rw [HER.out,if_pos hw0]
  subst he
  clear hT
  refine WC.enterP (noO_ok _ _) hG pl39 Tryz.func39 rfl (by decide +kernel) (Nat.le_of_ble_eq_true (by kernel_rfl)) ?_
  iterate 8 (all_goals try (first | with_reducible refine splitI (fun h=>?_) (fun h=>?_) | with_reducible refine splitBI (fun h=>?_) (fun h=>?_) | simp (config:={ maxSteps:=1000000 }) (disch:=first | assumption | omega | (simp; done) | fail) [Tryz.results39, *]))
  refine WC.mono (HCK.out _ _ (by omega) fun b hb=>?_) ?_
  ·simp (disch:=omega) only [gput_lt]
  rintro _ rfl
  iterate 8 (all_goals try (first | with_reducible refine splitI (fun h=>?_) (fun h=>?_) | with_reducible refine splitBI (fun h=>?_) (fun h=>?_) | simp (config:={ maxSteps:=1000000 }) (disch:=first | assumption | omega | (simp; done) | fail) [Tryz.results39, *]))
  refine WC.mono (HWE.out _ _ (by omega) fun b hb=>?_) ?_
  ·simp (disch:=omega) only [gput_lt]
  rintro _ rfl
  iterate 8 (all_goals try (first | with_reducible refine splitI (fun h=>?_) (fun h=>?_) | with_reducible refine splitBI (fun h=>?_) (fun h=>?_) | simp (config:={ maxSteps:=1000000 }) (disch:=first | assumption | omega | (simp; done) | fail) [Tryz.results39, *]))
  exact ⟨_,_,_,⟨rfl,rfl,rfl⟩,by omega,fun b hb=>by simp (disch:=omega) only [gput_lt],.inl ⟨by decide,rfl⟩⟩
 rw [if_neg hw0] at HER
 have hw0I:¬((w.length:Int)=0):=by omega
 by_cases his:w∈E
 ·have he:er=8:=by rw [HER.out,if_pos his]
  subst he
  clear hT
  simp only [his,decide_true] at HHW
  refine WC.enterP (noO_ok _ _) hG pl39 Tryz.func39 rfl (by decide +kernel) (Nat.le_of_ble_eq_true (by kernel_rfl)) ?_
  iterate 8 (all_goals try (first | with_reducible refine splitI (fun h=>?_) (fun h=>?_) | with_reducible refine splitBI (fun h=>?_) (fun h=>?_) | simp (config:={ maxSteps:=1000000 }) (disch:=first | assumption | omega | (simp; done) | fail) [Tryz.results39, *]))
  refine WC.mono (HCK.out _ _ (by omega) fun b hb=>?_) ?_
  ·simp (disch:=omega) only [gput_lt]
  rintro _ rfl
  iterate 8 (all_goals try (first | with_reducible refine splitI (fun h=>?_) (fun h=>?_) | with_reducible refine splitBI (fun h=>?_) (fun h=>?_) | simp (config:={ maxSteps:=1000000 }) (disch:=first | assumption | omega | (simp; done) | fail) [Tryz.results39, *]))
  refine WC.mono (HWE.out _ _ (by omega) fun b hb=>?_) ?_
  ·simp (disch:=omega) only [gput_lt]
  rintro _ rfl
  iterate 8 (all_goals try (first | with_reducible refine splitI (fun h=>?_) (fun h=>?_) | with_reducible refine splitBI (fun h=>?_) (fun h=>?_) | simp (config:={ maxSteps:=1000000 }) (disch:=first | assumption | omega | (simp; done) | fail) [Tryz.results39, *]))
  refine WC.mono (HHW.out _ _ (by omega) fun b hb=>?_) ?_
  ·simp (disch:=omega) only [gput_lt]
  rintro _ rfl
  iterate 8 (all_goals try (first | with_reducible refine splitI (fun h=>?_) (fun h=>?_) | with_reducible refine splitBI (fun h=>?_) (fun h=>?_) | simp (config:={ maxSteps:=1000000 }) (disch:=first | assumption | omega | (simp; done) | fail) [Tryz.results39, *]))
  exact ⟨_,_,_,⟨rfl,rfl,rfl⟩,by omega,fun b hb=>by simp (disch:=omega) only [gput_lt],.inl ⟨by decide,rfl⟩⟩
 rw [if_neg his] at HER
 simp only [his,decide_false] at HHW
 have HE1:Hide (er=limErr S (E++[w])):=HER
 clear his HER
 refine WC.enterP (noO_ok _ _) hG pl39 Tryz.func39 rfl (by decide +kernel) (Nat.le_of_ble_eq_true (by kernel_rfl)) ?_
 iterate 8 (all_goals try (first | with_reducible refine splitI (fun h=>?_) (fun h=>?_) | with_reducible refine splitBI (fun h=>?_) (fun h=>?_) | simp (config:={ maxSteps:=1000000 }) (disch:=first | assumption | omega | (simp; done) | fail) [Tryz.results39, *]))
 refine WC.mono (HCK.out _ _ (by omega) fun b hb=>?_) ?_
 ·simp (disch:=omega) only [gput_lt]
 rintro _ rfl
 iterate 8 (all_goals try (first | with_reducible refine splitI (fun h=>?_) (fun h=>?_) | with_reducible refine splitBI (fun h=>?_) (fun h=>?_) | simp (config:={ maxSteps:=1000000 }) (disch:=first | assumption | omega | (simp; done) | fail) [Tryz.results39, *]))
 refine WC.mono (HWE.out _ _ (by omega) fun b hb=>?_) ?_
 ·simp (disch:=omega) only [gput_lt]
 rintro _ rfl
 iterate 8 (all_goals try (first | with_reducible refine splitI (fun h=>?_) (fun h=>?_) | with_reducible refine splitBI (fun h=>?_) (fun h=>?_) | simp (config:={ maxSteps:=1000000 }) (disch:=first | assumption | omega | (simp; done) | fail) [Tryz.results39, *]))
 refine WC.mono (HHW.out _ _ (by omega) fun b hb=>?_) ?_
 ·simp (disch:=omega) only [gput_lt]
 rintro _ rfl
 iterate 8 (all_goals try (first | with_reducible refine splitI (fun h=>?_) (fun h=>?_) | with_reducible refine splitBI (fun h=>?_) (fun h=>?_) | simp (config:={ maxSteps:=1000000 }) (disch:=first | assumption | omega | (simp; done) | fail) [Tryz.results39, *]))
 refine WC.mono (HCO.out _ _ (by omega) fun b hb=>?_) ?_
 ·simp (disch:=omega) only [gput_lt]
 rintro _ ⟨b1,b2,b3,g5,n5,rfl,hn5,hg5,htv⟩
 obtain ⟨svs,hs1,hs2,hs3⟩:=htv.e
 have HE5:=Hide.mk htv.s
 have HT5:=Hide.mk htv.t
 have HS2:=Hide.mk hs2
 have HS3:=Hide.mk hs3
 have hsl:svs.length=E.length:=hs2.1
 obtain ⟨l0,ow,z0,hb1,hle1,htk1⟩ : ∃ l0 ow z0,g5 b2=some (.cells l0 ow z0)∧E.length≤l0.length∧l0.take E.length=svs:=by
  rcases hs1 with ⟨h1,_⟩ | ⟨a,off,ha,⟨c,e⟩ | ⟨c,e⟩,l0,ow,z0,h1,h2,h3⟩
  ·have:=HP.out.e0; omega
  ·cases e
   refine ⟨l0,ow,z0,(fromG_in h1).2,by omega,?_⟩
   rw [hsl] at h3; simpa using h3
  ·cases e
 have hb1n:n+1+1≤b2∧b2 < n5:=by
  rcases hs1 with ⟨h1,_⟩ | ⟨a,off,ha,⟨c,e⟩ | ⟨c,e⟩,l0,ow,z0,h1,h2,h3⟩
  ·have:=HP.out.e0; omega
  ·cases e
   exact ⟨(fromG_in h1).1,ha⟩
  ·cases e
 have HTK:=Hide.mk htk1
 have HG5:=Hide.mk hg5
 have HZ5:Hide (g5 (n+1)=some (.cells [.lit (.int .i64 0),.lit (.int .i64 0),.lit (.slice none 0 0),.lit (.slice none 0 0),.lit (.int .i64 0),.lit (.int .i64 0),.lit (.slice none 0 0)] true 0)):=⟨(hg5 (n+1) (by omega)).trans gput_eq⟩
 have HGN:Hide (∀ b,b < n→g5 b=g b):=⟨fun b hb=>(hg5 b (by omega)).trans (by simp (disch:=omega) only [gput_lt])⟩
 have hone7:allOne [.lit (.int .i64 I),.lit (.int .i64 O),.sl b1 0 S.length S.length,.sl b2 0 E.length E.length,.lit (.int .i64 I),.lit (.int .i64 O),.sl b3 0 T.length T.length]=true:=by simp
 obtain ⟨ks,hks⟩ : ∃ ks,E.length=ks+1:=⟨E.length - 1,by have:=HP.out.e0; omega⟩
 have HKS:=Hide.mk hks
 have hks2:ks≤300:=by have:=HP.out.el; omega
 have hle2:0+(ks+1) * 1≤l0.length:=by omega
 clear hs1 hs2 hs3 htk1 hg5 htv hsl hT hle1
 iterate 8 (all_goals try (first | with_reducible refine splitI (fun h=>?_) (fun h=>?_) | with_reducible refine splitBI (fun h=>?_) (fun h=>?_) | simp (config:={ maxSteps:=1000000 }) (disch:=first | assumption | omega | (simp; done) | fail) [Tryz.results39, *]))
 refine WC.mono (Clone_w w (by omega) _ _ wv (SliceV.mono (by omega) (fun b hb=>?_) HW.out)) ?_
 ·simp (disch:=omega) only [gput_lt]; exact HGN.out b hb
 rintro _ ⟨sv1,g6,n6,rfl,hn6,hg6,hcl⟩
 have hb16:=(hg6 b2 (by omega)).trans ((gput_lt hb1n.2).trans hb1)
 have HG6:Hide (∀ b,b < n5→g6 b=g5 b):=⟨fun b hb=>(hg6 b (by omega)).trans (by simp (disch:=omega) only [gput_lt])⟩
 have h76:=hg6 n5 (by omega)
 simp (disch:=omega) only [gput_eq] at h76
 have HC6:=Hide.mk hcl
 clear hg6 hcl
 iterate 8 (all_goals try (first | with_reducible refine splitI (fun h=>?_) (fun h=>?_) | with_reducible refine splitBI (fun h=>?_) (fun h=>?_) | simp (config:={ maxSteps:=1000000 }) (disch:=first | assumption | omega | (simp; done) | fail) [Tryz.results39, *]))
 refine WC.mono (Clip_t w g6 _ n6 sv1 HC6.out) ?_
 rintro _ ⟨sv3,rfl,hf3,ht3⟩
 have h1z:=hf3.rep.one
 have h2z:allOne [sv3]=true:=by simp [h1z]
 have hcz:=hf3.rep.cell
 have HF3:=Hide.mk hf3
 have HT3:=Hide.mk ht3
 clear hf3 ht3
 iterate 8 (all_goals try (first | with_reducible refine splitI (fun h=>?_) (fun h=>?_) | with_reducible refine splitBI (fun h=>?_) (fun h=>?_) | simp (config:={ maxSteps:=1000000 }) (disch:=first | assumption | omega | (simp; done) | fail) [Tryz.results39, *]))
 refine WC.mono (WsClip_w (by omega) _) ?_
 rintro _ rfl
 obtain ⟨gF,hgF⟩ : ∃ gF,gF=gput (gput (gput g6 n6 (some (.cells [sv3] true 0))) (n6+1) (some (.cells (l0.take (ks+1)++[sv3]) true 1))) n5 (some (.cells [.lit (.int .i64 I),.lit (.int .i64 O),.sl b1 0 S.length S.length,.sl (n6+1) 0 (ks+1+1) (ks+1+1),.lit (.int .i64 I),.lit (.int .i64 O),.sl b3 0 T.length T.length] true 0)):=⟨_,rfl⟩
 have HK5:Hide (∀ a z,a < n5→fromG (n+1+1) g5 a=some z→fromG (n+1+1) gF a=some z):=⟨fun a z ha hz=>by
  obtain ⟨e1,e2⟩:=fromG_in hz
  rw [fromG_ne e1,hgF,gput_ne (by omega),gput_lt (by omega),gput_lt (by omega),HG6.out a ha]; exact e2⟩
 have HLC:Hide (ListC (fromG (n+1+1) gF) (n6+1+1) (E++[w]) (.sl (n6+1) 0 (ks+1+1) (ks+1+1))):=⟨by
  refine ListC.snocF (z:=1) (HS2.out.ext (by omega) fun a z ha hz=>HK5.out a z ha hz) HS3.out (w:=w) (q:=sv3) ?_ HT3.out.cap ?_ (by omega) (by rw [HKS.out])
  ·obtain ⟨gk,q1,q2⟩:=HF3.out
   refine SliceV.ext (by omega) (fun a z _ hz=>?_) q2
   obtain ⟨e1,e2,e3⟩:=q1 a z hz
   rw [fromG_ne (by omega),hgF,gput_ne (by omega),gput_lt (by omega),gput_lt (by omega)]; exact e1
  ·rw [fromG_ne (by omega),hgF,gput_ne (by omega),gput_eq,← HKS.out,HTK.out]⟩
 have HEC:Hide (ListC (fromG (n+1+1) gF) (n6+1+1) S (.sl b1 0 S.length S.length)):=⟨HE5.out.ext (by omega) fun a z ha hz=>HK5.out a z ha hz⟩
 have HTC:Hide (TreeV (fromG (n+1+1) gF) (n6+1+1) T (.sl b3 0 T.length T.length)):=⟨by
  obtain ⟨ts,q1,q2⟩:=HT5.out
  exact ⟨ts,SliceV.ext (by omega) (fun a z ha hz=>HK5.out a z ha hz) q1,q2.ext (by omega) fun a z ha hz=>HK5.out a z ha hz⟩⟩
 have HZF:Hide (gF (n+1)=some (.cells [.lit (.int .i64 0),.lit (.int .i64 0),.lit (.slice none 0 0),.lit (.slice none 0 0),.lit (.int .i64 0),.lit (.int .i64 0),.lit (.slice none 0 0)] true 0)):=⟨by
  rw [hgF,gput_ne (by omega),gput_lt (by omega),gput_lt (by omega),HG6.out _ (by omega)]; exact HZ5.out⟩
 have HNF:Hide (∀ b,b < n→gF b=g b):=⟨fun b hb=>by
  rw [hgF,gput_ne (by omega),gput_lt (by omega),gput_lt (by omega),HG6.out _ (by omega)]; exact HGN.out b hb⟩
 have HLM:=Hide.mk (limits_w I O I O (.sl b3 0 T.length T.length) rfl S (E++[w]) (by have:=HP.out.sl; omega) (fun x hx=>by have:=(HP.out.sw x hx).1; omega) (by rw [List.length_append,HKS.out,List.length_singleton]; omega) (fun x hx=>by
   rcases List.mem_append.1 hx with h | h
   ·have:=(HP.out.ew x h).2.1; omega
   ·rw [List.mem_singleton.1 h]; omega) gF (n6+1+1) (.sl b1 0 S.length S.length) (.sl (n6+1) 0 (ks+1+1) (ks+1+1)) _ _ (SliceV.ext (Nat.le_refl _) (fun a z _ hz=>(fromG_in hz).2) HEC.out.choose_spec.1) (HEC.out.choose_spec.2.1.ext (Nat.le_refl _) fun a z _ hz=>(fromG_in hz).2) (SliceV.ext (Nat.le_refl _) (fun a z _ hz=>(fromG_in hz).2) HLC.out.choose_spec.1) (HLC.out.choose_spec.2.1.ext (Nat.le_refl _) fun a z _ hz=>(fromG_in hz).2))
 rw [← HE1.out] at HLM
 have hone8:allOne [.lit (.int .i64 I),.lit (.int .i64 O),.sl b1 0 S.length S.length,.sl (n6+1) 0 (ks+1+1) (ks+1+1),.lit (.int .i64 I),.lit (.int .i64 O),.sl b3 0 T.length T.length]=true:=by simp
 have hF5:gF n5=some (.cells [.lit (.int .i64 I),.lit (.int .i64 O),.sl b1 0 S.length S.length,.sl (n6+1) 0 (ks+1+1) (ks+1+1),.lit (.int .i64 I),.lit (.int .i64 O),.sl b3 0 T.length T.length] true 0):=by rw [hgF,gput_eq]
 have HGF:=Hide.mk hgF
 clear hgF
 iterate 8 (all_goals try (first | with_reducible refine splitI (fun h=>?_) (fun h=>?_) | with_reducible refine splitBI (fun h=>?_) (fun h=>?_) | simp (config:={ maxSteps:=1000000 }) (disch:=first | assumption | omega | (simp; done) | fail) [Tryz.results39, *]))
 rw [← HGF.out]
 refine WC.mono HLM.out ?_
 rintro _ rfl
 have hz:=HZF.out
 clear HZF
 by_cases he:er=0
 ·subst he
  have HK6:Hide (∀ (B:Option Blk) (a:Nat) (z:Blk),fromG (n+1+1) gF a=some z→gput gF (n+1) B a=some z):=⟨fun B a z hz=>by
   obtain ⟨e1,e2⟩:=fromG_in hz
   rw [gput_ne (by omega)]; exact e2⟩
  iterate 8 (all_goals try (first | with_reducible refine splitI (fun h=>?_) (fun h=>?_) | with_reducible refine splitBI (fun h=>?_) (fun h=>?_) | simp (config:={ maxSteps:=1000000 }) (disch:=first | assumption | omega | (simp; done) | fail) [Tryz.results39, *]))
  refine ⟨_,_,_,⟨rfl,rfl,rfl⟩,by omega,fun b hb=>?_,.inr ⟨rfl,_,_,_,rfl,⟨HEC.out.ext (Nat.le_refl _) fun a z _ hz=>HK6.out _ a z hz,HLC.out.ext (Nat.le_refl _) fun a z _ hz=>HK6.out _ a z hz,?_⟩,.inr ⟨_,_,rfl⟩,?_⟩⟩
  ·rw [gput_ne (by omega)]; exact HNF.out b hb
  ·obtain ⟨ts,q1,q2⟩:=HTC.out
   exact ⟨ts,SliceV.ext (Nat.le_refl _) (fun a z _ hz=>HK6.out _ a z hz) q1,q2.ext (Nat.le_refl _) fun a z _ hz=>HK6.out _ a z hz⟩
  ·refine .inr ⟨n6+1,0,?_⟩
   rw [List.length_append,HKS.out]; rfl
 ·have HEZ:=Hide.mk he
  iterate 8 (all_goals try (first | with_reducible refine splitI (fun h=>?_) (fun h=>?_) | with_reducible refine splitBI (fun h=>?_) (fun h=>?_) | simp (config:={ maxSteps:=1000000 }) (disch:=first | assumption | omega | (simp; done) | fail) [Tryz.results39, *]))
  refine ⟨_,_,_,⟨rfl,rfl,rfl⟩,by omega,fun b hb=>?_,.inl ⟨HEZ.out,rfl⟩⟩
  first | exact HNF.out b hb | (rw [gput_ne (by omega)]; exact HNF.out b hb)
end Go.Ai
end
