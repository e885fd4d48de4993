/- A small verified interpreter over names, its proofs, and what was proved with it. No condition. -/
import Derived.Test.YtpimmmnkcgnjjaaGreatN18
import Derived.Test.YtpimmmnkcgnjjaaGreatN08
set_option linter.all false
set_option linter.deprecated false
section
namespace Go.Ai
open Go.Proofs
set_option maxRecDepth 10000
set_option maxHeartbeats 40000000
def sym16 (w:List Int) : Prop:=∀ i∈w,0≤i∧i < 16
theorem sym16_take {w:List Int} (h:sym16 w) (k:Nat) : sym16 (w.take k):=fun i hi=>h i (List.mem_of_mem_take hi)
def frontM (l:List (List Int)) (w:List Int) : Bool:=l.any fun v=>decide (w.length < v.length∧v.take w.length=w)
def leafM (l:List (List Int)) : List (List Int):=l.filter fun w=>!frontM l w
def inFr (l:List (List Int)) (s:ByteArray) : Prop:=∃ v∈l,∃ j,j < v.length∧keyS (v.take j)=s
theorem inFr_iff {l:List (List Int)} {w:List Int} (hl:∀ v∈l,sym16 v) (hw:sym16 w) : inFr l (keyS w)↔frontM l w=true:=by
 unfold inFr frontM
 rw [List.any_eq_true]
 constructor
 ·rintro ⟨v,hv,j,hj,h⟩
  have:=keyS_inj (sym16_take (hl v hv) j) hw h
  subst this
  refine ⟨v,hv,decide_eq_true ⟨?_,?_⟩⟩
  ·rw [List.length_take]; omega
  ·rw [List.length_take,Nat.min_eq_left (by omega)]
 ·rintro ⟨v,hv,h⟩
  have h:=of_decide_eq_true h
  exact ⟨v,hv,w.length,h.1,by rw [h.2]⟩
theorem sset_snoc (L:List ByteArray) (s:ByteArray) : sset ((L++[s]).zipIdx)=sset (L.zipIdx++[(s,L.length)]):=by
 rw [List.zipIdx_append]; simp
def ListF (g:Nat→Option Blk) (lo n:Nat) (l:List (List Int)) (lv:AV) : Prop:=∃ svs,SliceV g n lv l.length svs∧RowsW (fromG lo g) n l svs∧∀ q∈svs,CapV q
theorem OutL.listF {X:Nat→Prop} {g:Nat→Option Blk} {lo n:Nat} {l:List (List Int)} {ov:AV} (h:OutL X g lo n l ov) : ListF g lo n l ov:=by
 rcases h with ⟨rfl,rfl⟩ | ⟨h0,B,cs,rfl,h1,h2,h3,h4,h5,h6,h7⟩
 ·exact ⟨[],.inl ⟨rfl,rfl,.inl rfl⟩,⟨rfl,fun k h=>by cases h⟩,fun q h=>by cases h⟩
 ·refine ⟨cs,.inr ⟨B,0,h2,.inr ⟨0,rfl⟩,⟨cs,true,1,h4,by simp,by simp⟩⟩,h6.ext (Nat.le_refl _) fun a z _ hz=>?_,h7⟩
  obtain ⟨e1,_,e3⟩:=outG_some hz
  rw [fromG_ne e1]; exact e3
theorem ListF.at {g:Nat→Option Blk} {lo n:Nat} {l:List (List Int)} {lv:AV} (h:ListF g lo n l lv) {k:Nat} (hk:k < l.length) : ∃ a off q,a < n∧(∀ {H:Mem} {ev:Ev} {o:Oper} {t:TypeId},iaS Tryz.prog H ev o t (some (none,1)) (some lv) (some (.lit (.int .i64 (k:Int))))=.val (.ptr a (off+k)) H)∧loadB (some (false,1)) (g a) (off+k)=some q∧RepW (fromG lo g) n l[k] q∧CapV q:=by
 obtain ⟨svs,h1,h2,h3⟩:=h
 obtain ⟨q,e1,e2⟩:=h2.2 k hk
 obtain ⟨a,off,ha,hrow,hia⟩:=h1.ia (P:=Tryz.prog) hk 1
 simp only [Nat.mul_one] at hia
 have hkl:k < svs.length:=(List.getElem?_eq_some_iff.1 e1).1
 have hcell:=hrow.one (k:=k) (s:=1) hkl
 rw [(List.getElem?_eq_some_iff.1 e1).2] at hcell
 exact ⟨a,off,q,ha,hia,hcell,e2,h3 q (List.mem_of_getElem? e1)⟩
theorem mkIW:mkI Tryz.prog 22=some (.lit (.slice none 0 0)):=by kernel_rfl
theorem mkW22 {H:Mem} {a b:Int} (h0:0≤a) (h1:a≤b) (h2:b≤1048576) : mksS Tryz.prog H 22 (some (.lit (.slice none 0 0))) (some (.lit (.int .i64 a))) (some (.lit (.int .i64 b)))=.val (.sl H.next 0 a.toNat b.toNat) (H.add (.cells (rep [.lit (.slice none 0 0)] b.toNat) true 0)):=by
 have hx:oMakeSlice Tryz.prog H 22 (some (.lit (.int .i64 a))) (some (.lit (.int .i64 b)))=_:=oMakeSlice_ok (e:=65) (size:=1) (bytes:=24) (z:=[.lit (.slice none 0 0)]) (by kernel_rfl) (by decide) (by decide) (by kernel_rfl) h0 h1 h2
 unfold mksS
 dsimp only
 split
 ·rename_i h
  obtain ⟨rfl,h3,h4⟩:=h
  rw [rep_one]
 ·exact hx
attribute [simp] mkIW mkW22
theorem WsClone_0 (g:Nat→Option Blk) (n a c:Nat) (sv:AV) (hs:sv=.sl a 0 0 c) (l:List AV) (own:Bool) (z:Nat) (hg:g a=some (.cells l own z)) (ha:a < n) : WC 0 Tryz.prog 54 [sv] ⟨.fn g,n⟩ fun r=>r=.ret (.sl n 0 0 0) ⟨.fn (gput g n (some (.cells [] true 0))),n+1⟩:=by
 have hv:SliceV g n sv 0 []:=.inr ⟨a,0,ha,.inl ⟨c,hs⟩,⟨l,own,z,hg,by simp,by simp⟩⟩
 have hap:=@SliceV.ap00 Tryz.prog _ _ _ _ hv
 subst hs
 clear hv
 refine WC.enterP (noO_ok _ _) hG [] Tryz.func54 rfl (by decide +kernel) (Nat.le_of_ble_eq_true (by kernel_rfl)) ?_
 iterate 8 all_goals try first|with_reducible refine splitI (fun h=>?_) fun h=>?_|with_reducible refine splitBI (fun h=>?_) fun h=>?_|simp (maxSteps:=999999) (disch:=first|assumption|omega|(simp;done)|fail) [Tryz.results54, *]
theorem WsClip_0 (H:Mem) (a:Nat) : WC 0 Tryz.prog 53 [.sl a 0 0 0] H fun r=>r=.ret (.sl a 0 0 0) H:=by
 refine WC.ofFn ?_
 refine WC.enterP (noO_ok _ _) hG [] Tryz.func53 rfl (by decide +kernel) (Nat.le_of_ble_eq_true (by kernel_rfl)) ?_
 iterate 8 all_goals try first|with_reducible refine splitI (fun h=>?_) fun h=>?_|with_reducible refine splitBI (fun h=>?_) fun h=>?_|simp (maxSteps:=999999) (disch:=first|assumption|omega|(simp;done)|fail) [Tryz.results53, *]
def LeafR (g:Nat→Option Blk) (lo n:Nat) (l:List (List Int)) (rv:AV) : Prop:=∃ B cs,rv=.sl B 0 l.length l.length∧lo≤B∧B < n∧(0 < l.length→g B=some (.cells cs true 1))∧RowsW (fromG lo g) n l cs∧∀ q∈cs,CapV q
theorem TAsks_w (c0 c1 c2 c3 c4 c5 c6:AV) (hone:allOne [c0,c1,c2,c3,c4,c5,c6]=true) (P:List (List Int)→Prop) (hP:∀ l,P l→l.length≤10000∧∀ w∈l,w.length≤300∧sym16 w) (g:Nat→Option Blk) (n:Nat)
  (hck:∀ (gX:Nat→Option Blk) (n2:Nat),n≤n2→(∀ b,b < n→gX b=g b)→WC 0 Tryz.prog 37 [.agg [c0,c1,c2,c3,c4,c5,c6]] ⟨.fn gX,n2⟩ fun r=>r=.ret (.lit (.int .i64 0)) ⟨.fn gX,n2⟩)
  (has:∀ (gX:Nat→Option Blk) (n2:Nat),n≤n2→(∀ b,b < n→gX b=g b)→WC 0 Tryz.prog 51 [.agg [c0,c1,c2,c3,c4,c5,c6]] ⟨.fn gX,n2⟩ fun r=>∃ l ov g' n',r=.ret ov ⟨.fn g',n'⟩∧P l∧n2≤n'∧(∀ b,b < n2→g' b=gX b)∧OutL (fun _=>True) g' n2 n' l ov) :
  WC 0 Tryz.prog 14 [.agg [c0,c1,c2,c3,c4,c5,c6]] ⟨.fn g,n⟩ fun r=>∃ l rv g' n',r=.ret (.tup [rv,.lit (.int .i64 0)]) ⟨.fn g',n'⟩∧P l∧n≤n'∧(∀ b,b < n→g' b=g b)∧LeafR g' n n' (leafM l) rv:=by
 have HCK:=Hide.mk (hck (gput g n (some (.cells [c0,c1,c2,c3,c4,c5,c6] true 0))) (n+1) (by omega) fun b hb=>gput_lt hb)
 have HAS:=Hide.mk (has (gput g n (some (.cells [c0,c1,c2,c3,c4,c5,c6] true 0))) (n+1) (by omega) fun b hb=>gput_lt hb)
 have HPP:=Hide.mk hP
 clear hck has hP
 refine WC.enterP (noO_ok _ _) hG [] Tryz.func14 rfl (by decide +kernel) (Nat.le_of_ble_eq_true (by kernel_rfl)) ?_
 iterate 8 all_goals try first|with_reducible refine splitI (fun h=>?_) fun h=>?_|with_reducible refine splitBI (fun h=>?_) fun h=>?_|simp (maxSteps:=999999) (disch:=first|assumption|omega|(simp;done)|fail) [Tryz.results14, *]
 refine WC.mono HCK.out ?_
 rintro _ rfl
 iterate 8 all_goals try first|with_reducible refine splitI (fun h=>?_) fun h=>?_|with_reducible refine splitBI (fun h=>?_) fun h=>?_|simp (maxSteps:=999999) (disch:=first|assumption|omega|(simp;done)|fail) [Tryz.results14, *]
 refine WC.mono HAS.out ?_
 rintro _ ⟨l,ov,g1,n1,rfl,hpl,hn1,hg1,hov⟩
 obtain ⟨hll,hlw⟩:=HPP.out l hpl
 have HLW:=Hide.mk hlw
 have HPL:=Hide.mk hpl
 clear hlw hpl HPP
 have HG1:=Hide.mk hg1
 have HC:=Hide.mk hov.listF
 have hlen:=@lenV Tryz.prog _ _ _ _ _ hov.listF.choose_spec.1
 have h1o:=hov.listF.choose_spec.1.one
 clear hg1 hov HCK HAS
 iterate 8 all_goals try first|with_reducible refine splitI (fun h=>?_) fun h=>?_|with_reducible refine splitBI (fun h=>?_) fun h=>?_|simp (maxSteps:=999999) (disch:=first|assumption|omega|(simp;done)|fail) [Tryz.results14, *]
 refine LX.ind (fun m gf H'=>∃ (k:Nat) (gL:Nat→Option Blk) (L:List ByteArray),k≤l.length∧m=l.length - k∧H'=⟨.fn gL,n1+1⟩∧Hide (∀ b,b < n1→gL b=g1 b)∧gL n1=some (.map (sset L.zipIdx) L.length)∧Hide (∀ s,s∈L↔inFr (l.take k) s) ∧
  gf 5=some ov∧gf 6=some (.map n1)∧gf 21=some ov∧gf 22=some (.lit (.int .i64 l.length))∧gf 23=some (.lit (.int .i64 k))) (m0:=l.length) ?_ ?_
 ·exact ⟨0,_,[],Nat.zero_le _,rfl,rfl,⟨fun b hb=>gput_lt hb⟩,gput_eq,⟨fun s=>by simp [inFr]⟩,by simp,by simp,by simp,by simp,by simp⟩
 rintro m gf H' ⟨k,gL,L,hk,rfl,rfl,HG,hgm,HM,w5,w6,w21,w22,w23⟩ ih
 refine LX.roundP (noO_ok _ _) hG [] (by decide +kernel) ?_
 by_cases hlt:k < l.length
 ·have hltI:(k:Int) < (l.length:Int):=by omega
  obtain ⟨a2,o2,qv,ha2,hia2,hc2,hqf,hqc⟩:=HC.out.at hlt
  have hq:RepW g1 n1 l[k] qv:=SliceV.ext (Nat.le_refl _) (fun a z _ hz=>(fromG_in hz).2) hqf
  clear hqf
  rw [← HG.out a2 ha2] at hc2
  have hlq:=@lenV Tryz.prog _ _ _ _ _ hq
  obtain ⟨hwl,hws⟩:=HLW.out _ (List.getElem_mem hlt)
  have HTK:Hide (∀ s,inFr (l.take (k+1)) s↔inFr (l.take k) s∨∃ j,j < l[k].length∧keyS (l[k].take j)=s):=⟨fun s=>by
   rw [List.take_succ_eq_append_getElem hlt]
   simp only [inFr,List.mem_append,List.mem_singleton]
   constructor
   ·rintro ⟨v,hv | rfl,h⟩
    ·exact .inl ⟨v,hv,h⟩
    ·exact .inr h
   ·rintro (⟨v,hv,h⟩ | h)
    ·exact ⟨v,.inl hv,h⟩
    ·exact ⟨_,.inr rfl,h⟩⟩
  have HQ:=Hide.mk hq
  have HQC:=Hide.mk hqc
  have HWS:=Hide.mk hws
  clear hq hqc hws
  generalize l[k]=w at *
  iterate 8 all_goals try first|with_reducible refine splitI (fun h=>?_) fun h=>?_|with_reducible refine splitBI (fun h=>?_) fun h=>?_|simp (maxSteps:=999999) (disch:=first|assumption|omega|(simp;done)|fail) [Tryz.results14, *]
  refine LX.ind (fun m gf H'=>∃ (j:Nat) (g3:Nat→Option Blk) (L:List ByteArray),j≤w.length∧m=w.length - j∧H'=⟨.fn g3,n1+1⟩∧Hide (∀ b,b < n1→g3 b=g1 b)∧g3 n1=some (.map (sset L.zipIdx) L.length)∧Hide (∀ s,s∈L↔inFr (l.take k) s∨∃ j',j' < j∧keyS (w.take j')=s) ∧
   gf 5=some ov∧gf 6=some (.map n1)∧gf 8=some qv∧gf 21=some ov∧gf 22=some (.lit (.int .i64 l.length))∧gf 23=some (.lit (.int .i64 k))∧gf 28=some (.lit (.int .i64 w.length))∧gf 29=some (.lit (.int .i64 j))) (m0:=w.length) ?_ ?_
  ·exact ⟨0,gL,L,Nat.zero_le _,rfl,rfl,HG,hgm,⟨fun s=>by rw [HM.out]; simp⟩,by simp [*],by simp [*],by simp,by simp [*],by simp [*],by simp [*],by simp,by simp⟩
  clear HG hgm HM w5 w6 w21 w22 w23 hc2
  rintro m2 gf2 H2 ⟨j,g3,L,hj,rfl,rfl,HG,hgm,HM,w5,w6,w8,w21,w22,w23,w28,w29⟩ ih2
  refine LX.roundP (noO_ok _ _) hG [] (by decide +kernel) ?_
  by_cases hjj:j < w.length
  ·have hjI:(j:Int) < (w.length:Int):=by omega
   obtain ⟨pv,hcut,hpr,hpc⟩:=SliceV.cutP (P:=Tryz.prog) (SliceV.mono (show n1≤n1+1 by omega) HG.out HQ.out) HQC.out (t:=65) (by kernel_rfl) (k:=j) (sz:=1) (by omega)
   have hrp:RepW g3 (n1+1) (w.take j) pv:=by
    have h1:(w.take j).length=j:=by rw [List.length_take]; omega
    unfold RepW
    rw [h1]
    simpa [wdC,List.map_take] using hpr
   have HKY:=Hide.mk (key_w (w.take j) (by rw [List.length_take]; omega) (sym16_take HWS.out j) g3 (n1+1) pv hrp)
   have h1p:=hpr.one
   have HZ:=Hide.mk (inSet_zip (keyS (w.take j)) L 0)
   have hz0:L.zipIdx 0=L.zipIdx:=rfl
   clear hpr hpc hrp
   iterate 8 all_goals try first|with_reducible refine splitI (fun h=>?_) fun h=>?_|with_reducible refine splitBI (fun h=>?_) fun h=>?_|simp (maxSteps:=999999) (disch:=first|assumption|omega|(simp;done)|fail) [Tryz.results14, *]
   refine WC.mono HKY.out ?_
   rintro _ rfl
   by_cases hin:keyS (w.take j)∈L
   ·have hin2:inSet (keyS (w.take j)) (L.zipIdx)=true:=by haveI:=ba_lawful; rw [HZ.out]; simpa using hin
    have HM2:Hide (∀ s,s∈L↔inFr (l.take k) s∨∃ j',j' < j+1∧keyS (w.take j')=s):=⟨fun s=>by
     rw [HM.out]
     constructor
     ·rintro (h | ⟨j',h1,h2⟩)
      ·exact .inl h
      ·exact .inr ⟨j',by omega,h2⟩
     ·rintro (h | ⟨j',h1,h2⟩)
      ·exact .inl h
      ·by_cases e:j'=j
       ·subst e; rw [h2] at hin; exact (HM.out s).1 hin
       ·exact .inr ⟨j',by omega,h2⟩⟩
    clear hin HM
    iterate 8 all_goals try first|with_reducible refine splitI (fun h=>?_) fun h=>?_|with_reducible refine splitBI (fun h=>?_) fun h=>?_|simp (maxSteps:=999999) (disch:=first|assumption|omega|(simp;done)|fail) [Tryz.results14, *]
    exact ih2.out (w.length - (j+1)) _ _ (by omega) ⟨j+1,_,L,by omega,rfl,rfl,⟨fun b hb=>by rw [gput_ne (by omega)]; exact HG.out b hb⟩,gput_eq,HM2,by simp [*],by simp [*],by simp [*],by simp [*],by simp [*],by simp [*],by simp [*],by simp⟩
   ·have hin2:inSet (keyS (w.take j)) (L.zipIdx)=false:=by haveI:=ba_lawful; rw [HZ.out]; simpa using hin
    have HM2:Hide (∀ s,s∈L++[keyS (w.take j)]↔inFr (l.take k) s∨∃ j',j' < j+1∧keyS (w.take j')=s):=⟨fun s=>by
     rw [List.mem_append,HM.out,List.mem_singleton]
     constructor
     ·rintro ((h | ⟨j',h1,h2⟩) | h)
      ·exact .inl h
      ·exact .inr ⟨j',by omega,h2⟩
      ·exact .inr ⟨j,by omega,h.symm⟩
     ·rintro (h | ⟨j',h1,h2⟩)
      ·exact .inl (.inl h)
      ·by_cases e:j'=j
       ·subst e; exact .inr h2.symm
       ·exact .inl (.inr ⟨j',by omega,h2⟩)⟩
    clear hin HM
    iterate 8 all_goals try first|with_reducible refine splitI (fun h=>?_) fun h=>?_|with_reducible refine splitBI (fun h=>?_) fun h=>?_|simp (maxSteps:=999999) (disch:=first|assumption|omega|(simp;done)|fail) [Tryz.results14, *]
    exact ih2.out (w.length - (j+1)) _ _ (by omega) ⟨j+1,_,L++[keyS (w.take j)],by omega,rfl,rfl,⟨fun b hb=>by rw [gput_ne (by omega)]; exact HG.out b hb⟩,by rw [sset_snoc,List.length_append]; exact gput_eq,HM2,by simp [*],by simp [*],by simp [*],by simp [*],by simp [*],by simp [*],by simp [*],by simp⟩
  ·have hjI:¬(j:Int) < (w.length:Int):=by omega
   have hje:j=w.length:=by omega
   subst hje
   have HM2:Hide (∀ s,s∈L↔inFr (l.take (k+1)) s):=⟨fun s=>by rw [HM.out,HTK.out]⟩
   clear HM
   iterate 8 all_goals try first|with_reducible refine splitI (fun h=>?_) fun h=>?_|with_reducible refine splitBI (fun h=>?_) fun h=>?_|simp (maxSteps:=999999) (disch:=first|assumption|omega|(simp;done)|fail) [Tryz.results14, *]
   exact ih.out (l.length - (k+1)) _ _ (by omega) ⟨k+1,g3,L,by omega,rfl,rfl,HG,hgm,HM2,by simp [*],by simp [*],by simp [*],by simp [*],by simp⟩
 ·have hltI:¬(k:Int) < (l.length:Int):=by omega
  have HM2:Hide (∀ s,s∈L↔inFr l s):=⟨fun s=>by rw [HM.out,List.take_of_length_le (by omega)]⟩
  clear HM ih
  have hllI:(l.length:Int)≤1048576:=by omega
  have HPI:=Hide.mk fun (w:List Int) (hw:w∈l)=>(inSet_zip (keyS w) L 0).trans (show L.contains (keyS w)=frontM l w from by
   haveI:=ba_lawful
   have h1:=inFr_iff (l:=l) (fun v hv=>(HLW.out v hv).2) (HLW.out w hw).2
   cases h2:frontM l w with
   | true=>simpa using (HM2.out _).2 (h1.2 h2)
   | false =>
    have h3:¬keyS w∈L:=fun h=>by have:=h1.1 ((HM2.out _).1 h); rw [h2] at this; cases this
    simpa using h3)
  have hz0:L.zipIdx 0=L.zipIdx:=rfl
  rw [hz0] at HPI
  clear HM2 hz0
  have hgm2:gL n1=some (.map (sset L.zipIdx) L.length):=hgm
  have HGL:Hide (∀ b,b < n1→gL b=g1 b):=HG
  have hke:k=l.length:=by omega
  iterate 8 all_goals try first|with_reducible refine splitI (fun h=>?_) fun h=>?_|with_reducible refine splitBI (fun h=>?_) fun h=>?_|simp (maxSteps:=999999) (disch:=first|assumption|omega|(simp;done)|fail) [Tryz.results14, *]
  refine LX.ind (fun m gf H'=>∃ (k n3:Nat) (g3:Nat→Option Blk) (Lo:List AV) (out:List (List Int)),k≤l.length∧m=l.length - k∧H'=⟨.fn g3,n3⟩∧n1+1+1≤n3∧Hide (∀ b,b < n1→g3 b=g1 b)∧g3 n1=some (.map (sset L.zipIdx) L.length)∧g3 (n1+1)=some (.cells Lo true 0)∧Lo.length=l.length∧out.length≤k∧Hide (out=(l.take k).filter fun w=>!frontM l w)∧Hide (RowsW (fromG (n+1) g1) n1 out (Lo.take out.length)∧∀ q∈Lo.take out.length,CapV q) ∧
   gf 6=some (.map n1)∧gf 10=some (.sl (n1+1) 0 out.length l.length)∧gf 42=some ov∧gf 43=some (.lit (.int .i64 l.length))∧gf 44=some (.lit (.int .i64 k))) (m0:=l.length) ?_ ?_
  ·refine ⟨0,_,_,_,[],Nat.zero_le _,rfl,rfl,Nat.le_refl _,⟨fun b hb=>?_⟩,?_,gput_eq,?_,Nat.le_refl _,⟨by simp⟩,⟨⟨by simp,fun k h=>by cases h⟩,by simp⟩,by simp [*],by simp,by simp [*],by simp,by simp⟩
   ·simp (disch:=omega) only [gput_lt]; exact HGL.out b hb
   ·simp (disch:=omega) only [gput_lt]; exact hgm2
   ·rw [rep_len]; simp
  clear hgm2 HGL w5 w6 w21 w22 w23 hgm HG
  rintro m gf H' ⟨k,n3,g3,Lo,out,hk2,rfl,rfl,hn3,HG,hgm,hgo,hLo,hok,HO,HR,w6,w10,w42,w43,w44⟩ ih
  refine LX.roundP (noO_ok _ _) hG [] (by decide +kernel) ?_
  by_cases hkl:k < l.length
  ·have hklI:(k:Int) < (l.length:Int):=by omega
   obtain ⟨a2,o2,qv,ha2,hia2,hc2,hqf,hqc⟩:=HC.out.at hkl
   have hq:RepW g1 n1 l[k] qv:=SliceV.ext (Nat.le_refl _) (fun a z _ hz=>(fromG_in hz).2) hqf
   rw [← HG.out a2 ha2] at hc2
   obtain ⟨hwl,hws⟩:=HLW.out _ (List.getElem_mem hkl)
   have HP:=Hide.mk (HPI.out _ (List.getElem_mem hkl))
   have HQ:=Hide.mk hqf
   have HQC:=Hide.mk hqc
   have HKY:=Hide.mk (key_w l[k] (by omega) hws g3 n3 qv (SliceV.mono (by omega) HG.out hq))
   have HTK:Hide ((l.take (k+1)).filter (fun w=>!frontM l w)=(l.take k).filter (fun w=>!frontM l w)++(if frontM l l[k]=true then [] else [l[k]])):=⟨by
    rw [List.take_succ_eq_append_getElem hkl,List.filter_append]
    cases h:frontM l l[k] <;> simp [h]⟩
   have h1q:=hq.one
   have h2q:allOne [qv]=true:=by simp [h1q]
   have hcq:=hq.cell
   clear hq hqf hqc hws
   generalize l[k]=w at *
   iterate 8 all_goals try first|with_reducible refine splitI (fun h=>?_) fun h=>?_|with_reducible refine splitBI (fun h=>?_) fun h=>?_|simp (maxSteps:=999999) (disch:=first|assumption|omega|(simp;done)|fail) [Tryz.results14, *]
   refine WC.mono HKY.out ?_
   rintro _ rfl
   have hin:=HP.out
   cases hf:frontM l w with
   | true =>
    rw [hf] at hin HTK
    have HO2:Hide (out=(l.take (k+1)).filter fun w=>!frontM l w):=⟨by rw [HTK.out,HO.out]; simp⟩
    clear HO HTK HP hf
    iterate 8 all_goals try first|with_reducible refine splitI (fun h=>?_) fun h=>?_|with_reducible refine splitBI (fun h=>?_) fun h=>?_|simp (maxSteps:=999999) (disch:=first|assumption|omega|(simp;done)|fail) [Tryz.results14, *]
    exact ih.out (l.length - (k+1)) _ _ (by omega) ⟨k+1,n3,g3,Lo,out,by omega,rfl,rfl,hn3,HG,hgm,hgo,hLo,by omega,HO2,HR,by simp [*],by simp [*],by simp [*],by simp [*],by simp⟩
   | false =>
    rw [hf] at hin HTK
    have HO2:Hide (out++[w]=(l.take (k+1)).filter fun w=>!frontM l w):=⟨by rw [HTK.out,HO.out]; simp⟩
    have hroom:0+out.length * 1+1≤Lo.length:=by omega
    have hroom2:out.length < l.length:=by omega
    clear HO HTK HP hf
    iterate 8 all_goals try first|with_reducible refine splitI (fun h=>?_) fun h=>?_|with_reducible refine splitBI (fun h=>?_) fun h=>?_|simp (maxSteps:=999999) (disch:=first|assumption|omega|(simp;done)|fail) [Tryz.results14, *]
    refine ih.out (l.length - (k+1)) _ _ (by omega) ⟨k+1,_,_,putR Lo out.length [qv],out++[w],by omega,rfl,rfl,?_,⟨fun b hb=>?_⟩,?_,gput_eq,?_,by simp; omega,HO2,⟨?_,?_⟩,by simp [*],by simp [*],by simp [*],by simp [*],by simp⟩
    ·omega
    ·simp (disch:=omega) only [gput_lt,gput_ne]; exact HG.out b hb
    ·simp (disch:=omega) only [gput_lt,gput_ne]; exact hgm
    ·rw [putR_len (by simp; omega)]; exact hLo
    all_goals
     have h9:(putR Lo out.length [qv]).take (out++[w]).length=Lo.take out.length++[qv]:=by
      have:=putR_take (l:=Lo) (new:=[qv]) (off:=out.length) (by simp; omega)
      simpa using this
     rw [h9]
    ·exact HR.out.1.snoc HQ.out
    ·intro q hq
     rcases List.mem_append.1 hq with h | h
     ·exact HR.out.2 q h
     ·rw [List.mem_singleton.1 h]; exact HQC.out
  ·have hklI:¬(k:Int) < (l.length:Int):=by omega
   have HL:Hide (out=leafM l):=⟨by rw [HO.out,List.take_of_length_le (by omega)]; rfl⟩
   clear HO ih
   have HLR:Hide (∀ (g9:Nat→Option Blk) (n9 B:Nat) (cs:List AV),n1≤n9→(∀ b,b < n1→g9 b=g1 b)→n≤B→B < n9→(0 < out.length→g9 B=some (.cells cs true 1))→cs=Lo.take out.length→LeafR g9 n n9 (leafM l) (.sl B 0 out.length out.length)):=⟨fun g9 n9 B cs h1 h2 h3 h4 h5 h6=>by
    subst h6
    refine ⟨B,_,by rw [← HL.out],h3,h4,fun h=>h5 (by rw [HL.out]; exact h),?_,HR.out.2⟩
    rw [← HL.out]
    exact HR.out.1.ext (by omega) fun a z ha hz=>by
     obtain ⟨e1,e2⟩:=fromG_in hz
     rw [fromG_ne (by omega),h2 a ha]; exact e2⟩
   have hl9:(Lo.take out.length).length=out.length:=by rw [List.length_take]; omega
   have hv:SliceV g3 n3 (.sl (n1+1) 0 out.length l.length) out.length (Lo.take out.length):=.inr ⟨n1+1,0,by omega,.inl ⟨_,rfl⟩,⟨Lo,true,0,hgo,by rw [hl9]; omega,by rw [hl9]; simp⟩⟩
   have HV:=Hide.mk hv
   clear hv
   by_cases h0:0 < out.length
   ·iterate 8 all_goals try first|with_reducible refine splitI (fun h=>?_) fun h=>?_|with_reducible refine splitBI (fun h=>?_) fun h=>?_|simp (maxSteps:=999999) (disch:=first|assumption|omega|(simp;done)|fail) [Tryz.results14, *]
    refine WC.mono (WsClone_n h0 (by omega) (by rw [List.length_take]; omega) _ _ _ HV.out) ?_
    rintro _ ⟨g5,rfl,hg5,hb5⟩
    have HG5:=Hide.mk hg5
    have HB5:=Hide.mk hb5
    clear hg5 hb5
    iterate 8 all_goals try first|with_reducible refine splitI (fun h=>?_) fun h=>?_|with_reducible refine splitBI (fun h=>?_) fun h=>?_|simp (maxSteps:=999999) (disch:=first|assumption|omega|(simp;done)|fail) [Tryz.results14, *]
    refine WC.mono (WsClip_w h0 _) ?_
    rintro _ rfl
    iterate 8 all_goals try first|with_reducible refine splitI (fun h=>?_) fun h=>?_|with_reducible refine splitBI (fun h=>?_) fun h=>?_|simp (maxSteps:=999999) (disch:=first|assumption|omega|(simp;done)|fail) [Tryz.results14, *]
    refine ⟨l,_,_,_,⟨rfl,rfl,rfl⟩,HPL.out,by omega,fun b hb=>?_,HLR.out _ _ _ _ (by omega) (fun b hb=>(HG5.out b (by omega)).trans (HG.out b hb)) (by omega) (by omega) (fun _=>HB5.out) rfl⟩
    rw [HG5.out b (by omega),HG.out b (by omega),HG1.out b (by omega)]; exact gput_lt hb
   ·have h00:out.length=0:=by omega
    rw [h00] at w10
    have HLR0:Hide (∀ (g9:Nat→Option Blk) (n9 B:Nat) (cs:List AV),n1≤n9→(∀ b,b < n1→g9 b=g1 b)→n≤B→B < n9→cs=Lo.take out.length→LeafR g9 n n9 (leafM l) (.sl B 0 0 0)):=⟨fun g9 n9 B cs h1 h2 h3 h4 h5=>by
     have:=HLR.out g9 n9 B cs h1 h2 h3 h4 (fun h=>by omega) h5
     rwa [h00] at this⟩
    clear HV HLR
    iterate 8 all_goals try first|with_reducible refine splitI (fun h=>?_) fun h=>?_|with_reducible refine splitBI (fun h=>?_) fun h=>?_|simp (maxSteps:=999999) (disch:=first|assumption|omega|(simp;done)|fail) [Tryz.results14, *]
    refine WC.mono (WsClone_0 _ _ _ _ _ rfl _ _ _ hgo (by omega)) ?_
    rintro _ rfl
    iterate 8 all_goals try first|with_reducible refine splitI (fun h=>?_) fun h=>?_|with_reducible refine splitBI (fun h=>?_) fun h=>?_|simp (maxSteps:=999999) (disch:=first|assumption|omega|(simp;done)|fail) [Tryz.results14, *]
    refine WC.mono (WsClip_0 _ _) ?_
    rintro _ rfl
    iterate 8 all_goals try first|with_reducible refine splitI (fun h=>?_) fun h=>?_|with_reducible refine splitBI (fun h=>?_) fun h=>?_|simp (maxSteps:=999999) (disch:=first|assumption|omega|(simp;done)|fail) [Tryz.results14, *]
    refine ⟨l,_,_,_,⟨rfl,rfl,rfl⟩,HPL.out,by omega,fun b hb=>?_,HLR0.out _ _ _ _ (by omega) (fun b hb=>(gput_lt (by omega)).trans (HG.out b hb)) (by omega) (by omega) rfl⟩
    rw [gput_lt (by omega),HG.out b (by omega),HG1.out b (by omega)]; exact gput_lt hb
end Go.Ai
end
