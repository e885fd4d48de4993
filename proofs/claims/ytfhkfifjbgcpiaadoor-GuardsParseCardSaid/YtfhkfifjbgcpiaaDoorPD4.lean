/- A small verified interpreter over names, its proofs, and what was proved with it. No condition. -/
import Derived.Test.YtfhkfifjbgcpiaaDoorPD3
set_option linter.all false
set_option linter.deprecated false
section
namespace Go.Ai
open Go.Proofs
set_option maxRecDepth 10000
set_option maxHeartbeats 40000000
def TextAt (vs:List VarM) (x:NodeM) : Prop:=∀ (g:Nat→Option Blk) (n:Nat) (sv:AV) (cs:List AV),0 < n→repN g n x cs→SliceV g n sv vs.length (vs.flatMap VarM.cells)→shapedM vs.length x=true →
    WC 6 Tryd.prog 14 [sv,.agg cs] ⟨.fn g,n⟩ fun r=>r=.ret (.lit (.string (textM vs x))) ⟨.fn g,n⟩
theorem within_w (vs:List VarM) (hv:shortV vs) (x:NodeM) (hx:sizeN x≤1000000) (hT:TextAt vs x) (g:Nat→Option Blk) (n:Nat) (sv:AV) (cs:List AV) (least:Int) (hn:0 < n) (hr:repN g n x cs) (hsv:SliceV g n sv vs.length (vs.flatMap VarM.cells)) (hsh:shapedM vs.length x=true) :
    WC 6 Tryd.prog 37 [sv,.agg cs,.lit (.int .i64 least)] ⟨.fn g,n⟩ fun r=>r=.ret (.lit (.string (parM (textM vs x) (rankM x.op) least))) ⟨.fn g,n⟩:=by
  refine WC.drop1 rfl ?_
  have hts:=text_size hv x hsh
  generalize hret:parM (textM vs x) (rankM x.op) least=ret
  have HRET:=Hide.mk hret
  clear hret
  have HTX:Hide (∀ (g:Nat→Option Blk) (n:Nat) (sv:AV) (cs:List AV),0 < n→repN g n x cs→SliceV g n sv vs.length (vs.flatMap VarM.cells) →
    WC 6 Tryd.prog 14 [sv,.agg cs] ⟨.fn g,n⟩ fun r=>r=.ret (.lit (.string (textM vs x))) ⟨.fn g,n⟩):=⟨fun g n sv cs a b c=>hT g n sv cs a b c hsh⟩
  obtain ⟨k2,sv2,hcy,h1c,hop2⟩:=repN_op hr
  subst hcy
  have h1a:allOne [.lit (.int .u8 x.op),.lit (.int .i64 k2),sv2]=true:=by simp [h1c]
  have HR:=Hide.mk hr
  have HSV:=Hide.mk hsv
  clear hr hsv hT hsh
  have htl:(textM vs x).size≤64000000:=by omega
  clear hts
  generalize textM vs x=tx at HRET HTX htl
  have HRK:=Hide.mk (fun H=>rank_w x.op H)
  generalize rankM x.op=rk at HRET HRK
  have hpl:(⟨#[40]⟩ : ByteArray).size=1:=rfl
  have hpr:(⟨#[41]⟩ : ByteArray).size=1:=rfl
  have hw2:((⟨#[40]⟩ : ByteArray)++tx).size≤200000001:=by rw [ba_size_append]; omega
  refine WC.enterP (noO_ok _ _) hG6 [] Tryd.func37 rfl (by decide +kernel) (Nat.le_of_ble_eq_true (by kernel_rfl)) ?_
  iterate 12 (all_goals try (first | with_reducible refine splitI (fun h=>?_) (fun h=>?_) | with_reducible refine splitBI (fun h=>?_) (fun h=>?_) | simp (disch:=first | assumption | omega | (simp; done) | fail) [Tryd.results37, *]))
  refine WC.mono (HTX.out _ _ _ _ (by omega) (repN_mono (by omega) (fun a ha=>by simp (disch:=omega) only [gput_lt]) HR.out) (HSV.out.mono (by omega) (fun a ha=>by simp (disch:=omega) only [gput_lt]))) ?_
  rintro _ rfl
  iterate 12 (all_goals try (first | with_reducible refine splitI (fun h=>?_) (fun h=>?_) | with_reducible refine splitBI (fun h=>?_) (fun h=>?_) | simp (disch:=first | assumption | omega | (simp; done) | fail) [Tryd.results37, *]))
  refine WC.mono (HRK.out _) ?_
  rintro _ rfl
  iterate 12 (all_goals try (first | with_reducible refine splitI (fun h=>?_) (fun h=>?_) | with_reducible refine splitBI (fun h=>?_) (fun h=>?_) | simp (disch:=first | assumption | omega | (simp; done) | fail) [Tryd.results37, *]))
  all_goals
    have e:=HRET.out
    refine ⟨_,⟨?_,rfl⟩,⟨by dsimp only; omega,fun b hb=>?_⟩⟩
    · rw [← e]; unfold parM
      first | (rw [if_pos (by assumption)]) | (rw [if_neg (by omega)])
    · have hb' : b < n:=hb
      show gput _ _ _ _=_
      simp (disch:=omega) only [gput_lt]
      try rfl
theorem rtext_w (vs:List VarM) (hv:shortV vs) (hvl:vs.length≤1000000) : ∀ (m:Nat),m≤1000000→∀ (x:NodeM),sizeN x≤m→TextAt vs x:=by
  intro m
  induction m with
  | zero=>intro _ x hx; cases x; unfold sizeN at hx; omega
  | succ m ihm =>
    intro hm x hx g n sv cs hn hr hsv hsh
    have IH:=Hide.mk ihm
    clear ihm
    refine WC.drop1 rfl ?_
    cases x with
    | mk op q subs =>
      generalize hret:textM vs (.mk op q subs)=ret
      have HRET:=Hide.mk hret.symm
      clear hret
      simp only [shapedM,Bool.and_eq_true,decide_eq_true_eq] at hsh
      obtain ⟨h12,hsubs,hq0,hq1,hshl⟩:=hsh
      obtain ⟨kq,rfl⟩:=Int.eq_ofNat_of_zero_le hq0
      have h3:=most_iff.1 hq1
      obtain ⟨hop,sv1,rfl,hsv1⟩:=hr
      have h1c:oneC sv1=true:=by rcases hsv1 with ⟨_,rfl | rfl⟩ | ⟨a,off,r,_,⟨c,rfl⟩ | ⟨c,rfl⟩,_⟩ <;> rfl
      have h1a:allOne [.lit (.int .u8 op),.lit (.int .i64 kq),sv1]=true:=by simp [h1c]
      have HSV:=Hide.mk hsv
      have hsz:sizeL subs≤m:=by unfold sizeN at hx; omega
      by_cases h0:op=0
      · subst h0
        have hts:textM vs (.mk 0 kq subs)=decB kq:=by unfold textM; rw [if_pos rfl]; rfl
        rw [hts] at HRET
        have HW:Hide (∀ (H:Mem),WC 6 Tryd.prog 36 [.lit (.int .i64 kq)] H fun r=>r=.ret (.lit (.string (decB kq))) H):=⟨fun H=>number_w kq (by omega) H⟩
        generalize decB kq=dk at HRET HW
        clear hts hsubs h3 hq1 hq0 hop hsv hsv1 hshl
        refine WC.enterP (noO_ok _ _) hG6 pl14 Tryd.func14 rfl (by decide +kernel) (Nat.le_of_ble_eq_true (by kernel_rfl)) ?_
        iterate 16 (all_goals try (first | with_reducible refine splitI (fun h=>?_) (fun h=>?_) | with_reducible refine splitBI (fun h=>?_) (fun h=>?_) | simp (disch:=first | assumption | omega | (simp; done) | fail) [Tryd.results14, *]))
        refine WC.mono (HW.out _) ?_
        rintro _ rfl
        iterate 16 (all_goals try (first | with_reducible refine splitI (fun h=>?_) (fun h=>?_) | with_reducible refine splitBI (fun h=>?_) (fun h=>?_) | simp (disch:=first | assumption | omega | (simp; done) | fail) [Tryd.results14, *]))
        all_goals
            refine ⟨_,⟨?_,rfl⟩,⟨by dsimp only; omega,fun b hb=>?_⟩⟩
            · first | exact HRET.out.symm | (rw [HRET.out]; rfl) | rw [HRET.out]
            · have hb' : b < n:=hb
              show gput _ _ _ _=_
              simp (disch:=omega) only [gput_lt]
              try rfl
      by_cases h1:op=1
      · subst h1
        have hkl:kq < vs.length:=by omega
        have hts:textM vs (.mk 1 kq subs)=vs[kq].name:=by
          unfold textM
          rw [if_neg h0,if_pos rfl,Int.toNat_natCast,List.getElem?_eq_getElem hkl]
        rw [hts] at HRET
        rcases hsv with ⟨kl0,_⟩ | ⟨b,off2,hb,hsvf,hr2⟩
        · omega
        obtain ⟨r1,_,_⟩:=row_var hr2 (s:=1) hkl
        have hklI:(kq:Int) < (vs.length:Int):=by omega
        generalize vs[kq].name=nm at r1 HRET
        clear hts hsubs h3 hq1 hq0 hop hsv1 hshl hr2
        rcases hsvf with ⟨c,rfl⟩ | ⟨c,rfl⟩
        all_goals
          refine WC.enterP (noO_ok _ _) hG6 pl14 Tryd.func14 rfl (by decide +kernel) (Nat.le_of_ble_eq_true (by kernel_rfl)) ?_
          iterate 16 (all_goals try (first | with_reducible refine splitI (fun h=>?_) (fun h=>?_) | with_reducible refine splitBI (fun h=>?_) (fun h=>?_) | simp (disch:=first | assumption | omega | (simp; done) | fail) [Tryd.results14, *]))
        all_goals
            refine ⟨_,⟨?_,rfl⟩,⟨by dsimp only; omega,fun b hb=>?_⟩⟩
            · first | exact HRET.out.symm | (rw [HRET.out]; rfl) | rw [HRET.out]
            · have hb' : b < n:=hb
              show gput _ _ _ _=_
              simp (disch:=omega) only [gput_lt]
              try rfl
      have h2:2≤op:=by omega
      have HT:Hide (textM vs (.mk op kq subs)=joinM op (textL vs subs)):=⟨by rw [textM,if_neg h0,if_neg h1]⟩
      rw [HT.out] at HRET
      rcases hsv1 with ⟨hsub,_⟩ | ⟨a,off,r,han,hsl,hrow1,hrep⟩
      · exfalso
        rcases subs12 op h2 h12 with hs1 | hs1 <;> (rw [hsub,hs1] at hsubs; simp at hsubs)
      rcases subs12 op h2 h12 with hs1 | hs1
      · have hone:subs.length=1:=by omega
        have hops:=subs1 op h2 h12 hs1
        obtain ⟨y,rfl⟩:=List.length_eq_one_iff.1 hone
        obtain ⟨c1,r1,rfl,hy1,hr1⟩:=hrep
        have hr1' : r1=[]:=hr1
        subst hr1'
        obtain ⟨op2,k2,sv2,hcy,h2c⟩:=repN_one hy1
        subst hcy
        have h2a:allOne [.lit (.int .u8 op2),.lit (.int .i64 k2),sv2]=true:=by simp [h2c]
        have hrw:=hrow1.agg (k:=0) (s:=3) (by simp)
        simp only [Nat.add_zero,List.append_nil,List.drop_zero,List.take] at hrw
        have hsy:shapedM vs.length y=true:=by simp only [shapedL,Bool.and_eq_true] at hshl; exact hshl.1
        have hsy2:sizeN y≤m:=by unfold sizeL at hsz; omega
        have hty:=text_size hv y hsy
        have HY:=Hide.mk hy1
        have IHY:Hide (∀ (g' : Nat→Option Blk) (n' : Nat) (least:Int),0 < n'→repN g' n' y [.lit (.int .u8 op2),.lit (.int .i64 k2),sv2]→SliceV g' n' sv vs.length (vs.flatMap VarM.cells) →
          WC 6 Tryd.prog 37 [sv,.agg [.lit (.int .u8 op2),.lit (.int .i64 k2),sv2],.lit (.int .i64 least)] ⟨.fn g',n'⟩ fun r=>r=.ret (.lit (.string (parM (textM vs y) (rankM y.op) least))) ⟨.fn g',n'⟩) :=
          ⟨fun g' n' least q2 q3 q4=>within_w vs hv y (by omega) (IH.out (by omega) y hsy2) g' n' sv _ least q2 q3 q4 hsy⟩
        have hps:=fun l=>par_size (textM vs y) (rankM y.op) l
        have HPS:Hide (∀ l,(parM (textM vs y) (rankM y.op) l).size≤100000000):=⟨fun l=>by have:=hps l; omega⟩
        simp only [textL] at HRET
        generalize textM vs y=ty at HRET IHY HPS
        generalize rankM y.op=ry at HRET IHY HPS
        clear hsubs h3 hq1 hq0 hop hshl hrow1 hy1 hsy hr1 hsv hty hps hone hs1
        rcases hops with rfl | rfl
        · have hwl:=HPS.out 7
          have HRET2:Hide (ret=⟨#[45]⟩++parM ty ry 7):=⟨HRET.out⟩
          have IHY2:=Hide.mk (fun g' n' q1 q2 q3=>IHY.out g' n' 7 q1 q2 q3)
          generalize parM ty ry 7=wy at hwl HRET2 IHY2
          have hdz:(⟨#[45]⟩ : ByteArray).size=1:=rfl
          clear HRET
          have HRET:=HRET2
          rcases hsl with ⟨c,rfl⟩ | ⟨c,rfl⟩
          all_goals
            refine WC.enterP (noO_ok _ _) hG6 pl14 Tryd.func14 rfl (by decide +kernel) (Nat.le_of_ble_eq_true (by kernel_rfl)) ?_
            iterate 16 (all_goals try (first | with_reducible refine splitI (fun h=>?_) (fun h=>?_) | with_reducible refine splitBI (fun h=>?_) (fun h=>?_) | simp (disch:=first | assumption | omega | (simp; done) | fail) [Tryd.results14, *]))
            refine WC.mono (IHY2.out _ _ (by omega) (repN_mono (by omega) (fun a ha=>by simp (disch:=omega) only [gput_lt]) HY.out) (HSV.out.mono (by omega) (fun a ha=>by simp (disch:=omega) only [gput_lt]))) ?_
            rintro _ rfl
            iterate 16 (all_goals try (first | with_reducible refine splitI (fun h=>?_) (fun h=>?_) | with_reducible refine splitBI (fun h=>?_) (fun h=>?_) | simp (disch:=first | assumption | omega | (simp; done) | fail) [Tryd.results14, *]))
          all_goals
            refine ⟨_,⟨?_,rfl⟩,⟨by dsimp only; omega,fun b hb=>?_⟩⟩
            · first | exact HRET.out.symm | (rw [HRET.out]; rfl) | rw [HRET.out]
            · have hb' : b < n:=hb
              show gput _ _ _ _=_
              simp (disch:=omega) only [gput_lt]
              try rfl
        · have hwl:=HPS.out 3
          have HRET2:Hide (ret=⟨#[110,111,116,32]⟩++parM ty ry 3):=⟨HRET.out⟩
          have IHY2:=Hide.mk (fun g' n' q1 q2 q3=>IHY.out g' n' 3 q1 q2 q3)
          generalize parM ty ry 3=wy at hwl HRET2 IHY2
          have hdz:(⟨#[110,111,116,32]⟩ : ByteArray).size=4:=rfl
          clear HRET
          have HRET:=HRET2
          rcases hsl with ⟨c,rfl⟩ | ⟨c,rfl⟩
          all_goals
            refine WC.enterP (noO_ok _ _) hG6 pl14 Tryd.func14 rfl (by decide +kernel) (Nat.le_of_ble_eq_true (by kernel_rfl)) ?_
            iterate 16 (all_goals try (first | with_reducible refine splitI (fun h=>?_) (fun h=>?_) | with_reducible refine splitBI (fun h=>?_) (fun h=>?_) | simp (disch:=first | assumption | omega | (simp; done) | fail) [Tryd.results14, *]))
            refine WC.mono (IHY2.out _ _ (by omega) (repN_mono (by omega) (fun a ha=>by simp (disch:=omega) only [gput_lt]) HY.out) (HSV.out.mono (by omega) (fun a ha=>by simp (disch:=omega) only [gput_lt]))) ?_
            rintro _ rfl
            iterate 16 (all_goals try (first | with_reducible refine splitI (fun h=>?_) (fun h=>?_) | with_reducible refine splitBI (fun h=>?_) (fun h=>?_) | simp (disch:=first | assumption | omega | (simp; done) | fail) [Tryd.results14, *]))
          all_goals
            refine ⟨_,⟨?_,rfl⟩,⟨by dsimp only; omega,fun b hb=>?_⟩⟩
            · first | exact HRET.out.symm | (rw [HRET.out]; rfl) | rw [HRET.out]
            · have hb' : b < n:=hb
              show gput _ _ _ _=_
              simp (disch:=omega) only [gput_lt]
              try rfl
      · have htwo:subs.length=2:=by omega
        have hops:=subs2 op h2 h12 hs1
        obtain ⟨y,z,rfl⟩ : ∃ y z,subs=[y,z]:=by
          match subs,htwo with
          | [y,z],_=>exact ⟨y,z,rfl⟩
        obtain ⟨c1,r1,rfl,hy1,c2,r2,rfl,hz1,hr2⟩:=hrep
        have hr2' : r2=[]:=hr2
        subst hr2'
        obtain ⟨op2,k2,sv2,hcy,h2c⟩:=repN_one hy1
        subst hcy
        obtain ⟨op3,k3,sv3,hcz,h3c⟩:=repN_one hz1
        subst hcz
        have h2a:allOne [.lit (.int .u8 op2),.lit (.int .i64 k2),sv2]=true:=by simp [h2c]
        have h3a:allOne [.lit (.int .u8 op3),.lit (.int .i64 k3),sv3]=true:=by simp [h3c]
        have hrw1:=hrow1.agg (k:=0) (s:=3) (by simp)
        have hrw2:=hrow1.agg (k:=3) (s:=3) (by simp)
        simp only [Nat.add_zero,List.append_nil,List.drop_zero,List.take,List.cons_append,List.nil_append,List.drop_succ_cons] at hrw1 hrw2
        simp only [shapedL,Bool.and_eq_true] at hshl
        have hsy:shapedM vs.length y=true:=hshl.1
        have hsz2:shapedM vs.length z=true:=hshl.2.1
        have hty:=text_size hv y hsy
        have htz:=text_size hv z hsz2
        have hsy2:sizeN y≤m:=by unfold sizeL at hsz; omega
        have hsz3:sizeN z≤m:=by unfold sizeL sizeL at hsz; omega
        have HY:=Hide.mk hy1
        have HZ:=Hide.mk hz1
        have IHY:Hide (∀ (g' : Nat→Option Blk) (n' : Nat) (least:Int),0 < n'→repN g' n' y [.lit (.int .u8 op2),.lit (.int .i64 k2),sv2]→SliceV g' n' sv vs.length (vs.flatMap VarM.cells) →
          WC 6 Tryd.prog 37 [sv,.agg [.lit (.int .u8 op2),.lit (.int .i64 k2),sv2],.lit (.int .i64 least)] ⟨.fn g',n'⟩ fun r=>r=.ret (.lit (.string (parM (textM vs y) (rankM y.op) least))) ⟨.fn g',n'⟩) :=
          ⟨fun g' n' least q2 q3 q4=>within_w vs hv y (by omega) (IH.out (by omega) y hsy2) g' n' sv _ least q2 q3 q4 hsy⟩
        have IHZ:Hide (∀ (g' : Nat→Option Blk) (n' : Nat) (least:Int),0 < n'→repN g' n' z [.lit (.int .u8 op3),.lit (.int .i64 k3),sv3]→SliceV g' n' sv vs.length (vs.flatMap VarM.cells) →
          WC 6 Tryd.prog 37 [sv,.agg [.lit (.int .u8 op3),.lit (.int .i64 k3),sv3],.lit (.int .i64 least)] ⟨.fn g',n'⟩ fun r=>r=.ret (.lit (.string (parM (textM vs z) (rankM z.op) least))) ⟨.fn g',n'⟩) :=
          ⟨fun g' n' least q2 q3 q4=>within_w vs hv z (by omega) (IH.out (by omega) z hsz3) g' n' sv _ least q2 q3 q4 hsz2⟩
        have HPY:Hide (∀ l,(parM (textM vs y) (rankM y.op) l).size≤100000000):=⟨fun l=>by have:=par_size (textM vs y) (rankM y.op) l; omega⟩
        have HPZ:Hide (∀ l,(parM (textM vs z) (rankM z.op) l).size≤100000000):=⟨fun l=>by have:=par_size (textM vs z) (rankM z.op) l; omega⟩
        simp only [textL] at HRET
        generalize textM vs y=ty at HRET IHY HPY
        generalize rankM y.op=ry at HRET IHY HPY
        generalize textM vs z=tz at HRET IHZ HPZ
        generalize rankM z.op=rz at HRET IHZ HPZ
        clear hsubs h3 hq1 hq0 hop hshl hrow1 hy1 hz1 hsy hsz2 hr2 hsv hty htz htwo hs1
        have hspz:(⟨#[32]⟩ : ByteArray).size=1:=rfl
        rcases hops with rfl | rfl | rfl | rfl | rfl | rfl | rfl | rfl
        · have hwy:=HPY.out 5
          have hwz:=HPZ.out 6
          have HRET2:Hide (ret=parM ty ry 5++⟨#[32]⟩++⟨#[43]⟩++⟨#[32]⟩++parM tz rz 6):=⟨HRET.out⟩
          have IHY2:=Hide.mk (fun g' n' q1 q2 q3=>IHY.out g' n' 5 q1 q2 q3)
          have IHZ2:=Hide.mk (fun g' n' q1 q2 q3=>IHZ.out g' n' 6 q1 q2 q3)
          generalize parM ty ry 5=wy at hwy HRET2 IHY2
          generalize parM tz rz 6=wz at hwz HRET2 IHZ2
          have hrk:rankM 3=5:=rfl
          have hsgz:(⟨#[43]⟩ : ByteArray).size=1:=rfl
          have hw0:(wy++(⟨#[32]⟩ : ByteArray)).size≤100000001:=by rw [ba_size_append]; omega
          have hw1:(wy++(⟨#[32]⟩ : ByteArray)++(⟨#[43]⟩ : ByteArray)).size≤100000004:=by rw [ba_size_append]; omega
          have hw2:(wy++(⟨#[32]⟩ : ByteArray)++(⟨#[43]⟩ : ByteArray)++(⟨#[32]⟩ : ByteArray)).size≤100000005:=by rw [ba_size_append]; omega
          clear HRET
          have HRET:=HRET2
          rcases hsl with ⟨c,rfl⟩ | ⟨c,rfl⟩
          all_goals
            refine WC.enterP (noO_ok _ _) hG6 pl14 Tryd.func14 rfl (by decide +kernel) (Nat.le_of_ble_eq_true (by kernel_rfl)) ?_
            iterate 16 (all_goals try (first | with_reducible refine splitI (fun h=>?_) (fun h=>?_) | with_reducible refine splitBI (fun h=>?_) (fun h=>?_) | simp (disch:=first | assumption | omega | (simp; done) | fail) [Tryd.results14, *]))
            refine WC.mono (rank_w 3 _) ?_
            rintro _ rfl
            iterate 16 (all_goals try (first | with_reducible refine splitI (fun h=>?_) (fun h=>?_) | with_reducible refine splitBI (fun h=>?_) (fun h=>?_) | simp (disch:=first | assumption | omega | (simp; done) | fail) [Tryd.results14, *]))
            refine WC.mono (IHY2.out _ _ (by omega) (repN_mono (by omega) (fun a ha=>by simp (disch:=omega) only [gput_lt]) HY.out) (HSV.out.mono (by omega) (fun a ha=>by simp (disch:=omega) only [gput_lt]))) ?_
            rintro _ rfl
            iterate 16 (all_goals try (first | with_reducible refine splitI (fun h=>?_) (fun h=>?_) | with_reducible refine splitBI (fun h=>?_) (fun h=>?_) | simp (disch:=first | assumption | omega | (simp; done) | fail) [Tryd.results14, *]))
            refine WC.mono (IHZ2.out _ _ (by omega) (repN_mono (by omega) (fun a ha=>by simp (disch:=omega) only [gput_lt]) HZ.out) (HSV.out.mono (by omega) (fun a ha=>by simp (disch:=omega) only [gput_lt]))) ?_
            rintro _ rfl
            iterate 16 (all_goals try (first | with_reducible refine splitI (fun h=>?_) (fun h=>?_) | with_reducible refine splitBI (fun h=>?_) (fun h=>?_) | simp (disch:=first | assumption | omega | (simp; done) | fail) [Tryd.results14, *]))
          all_goals
            refine ⟨_,⟨?_,rfl⟩,⟨by dsimp only; omega,fun b hb=>?_⟩⟩
            · first | exact HRET.out.symm | (rw [HRET.out]; rfl) | rw [HRET.out]
            · have hb' : b < n:=hb
              show gput _ _ _ _=_
              simp (disch:=omega) only [gput_lt]
              try rfl
        · have hwy:=HPY.out 5
          have hwz:=HPZ.out 6
          have HRET2:Hide (ret=parM ty ry 5++⟨#[32]⟩++⟨#[45]⟩++⟨#[32]⟩++parM tz rz 6):=⟨HRET.out⟩
          have IHY2:=Hide.mk (fun g' n' q1 q2 q3=>IHY.out g' n' 5 q1 q2 q3)
          have IHZ2:=Hide.mk (fun g' n' q1 q2 q3=>IHZ.out g' n' 6 q1 q2 q3)
          generalize parM ty ry 5=wy at hwy HRET2 IHY2
          generalize parM tz rz 6=wz at hwz HRET2 IHZ2
          have hrk:rankM 4=5:=rfl
          have hsgz:(⟨#[45]⟩ : ByteArray).size=1:=rfl
          have hw0:(wy++(⟨#[32]⟩ : ByteArray)).size≤100000001:=by rw [ba_size_append]; omega
          have hw1:(wy++(⟨#[32]⟩ : ByteArray)++(⟨#[45]⟩ : ByteArray)).size≤100000004:=by rw [ba_size_append]; omega
          have hw2:(wy++(⟨#[32]⟩ : ByteArray)++(⟨#[45]⟩ : ByteArray)++(⟨#[32]⟩ : ByteArray)).size≤100000005:=by rw [ba_size_append]; omega
          clear HRET
          have HRET:=HRET2
          rcases hsl with ⟨c,rfl⟩ | ⟨c,rfl⟩
          all_goals
            refine WC.enterP (noO_ok _ _) hG6 pl14 Tryd.func14 rfl (by decide +kernel) (Nat.le_of_ble_eq_true (by kernel_rfl)) ?_
            iterate 16 (all_goals try (first | with_reducible refine splitI (fun h=>?_) (fun h=>?_) | with_reducible refine splitBI (fun h=>?_) (fun h=>?_) | simp (disch:=first | assumption | omega | (simp; done) | fail) [Tryd.results14, *]))
            refine WC.mono (rank_w 4 _) ?_
            rintro _ rfl
            iterate 16 (all_goals try (first | with_reducible refine splitI (fun h=>?_) (fun h=>?_) | with_reducible refine splitBI (fun h=>?_) (fun h=>?_) | simp (disch:=first | assumption | omega | (simp; done) | fail) [Tryd.results14, *]))
            refine WC.mono (IHY2.out _ _ (by omega) (repN_mono (by omega) (fun a ha=>by simp (disch:=omega) only [gput_lt]) HY.out) (HSV.out.mono (by omega) (fun a ha=>by simp (disch:=omega) only [gput_lt]))) ?_
            rintro _ rfl
            iterate 16 (all_goals try (first | with_reducible refine splitI (fun h=>?_) (fun h=>?_) | with_reducible refine splitBI (fun h=>?_) (fun h=>?_) | simp (disch:=first | assumption | omega | (simp; done) | fail) [Tryd.results14, *]))
            refine WC.mono (IHZ2.out _ _ (by omega) (repN_mono (by omega) (fun a ha=>by simp (disch:=omega) only [gput_lt]) HZ.out) (HSV.out.mono (by omega) (fun a ha=>by simp (disch:=omega) only [gput_lt]))) ?_
            rintro _ rfl
            iterate 16 (all_goals try (first | with_reducible refine splitI (fun h=>?_) (fun h=>?_) | with_reducible refine splitBI (fun h=>?_) (fun h=>?_) | simp (disch:=first | assumption | omega | (simp; done) | fail) [Tryd.results14, *]))
          all_goals
            refine ⟨_,⟨?_,rfl⟩,⟨by dsimp only; omega,fun b hb=>?_⟩⟩
            · first | exact HRET.out.symm | (rw [HRET.out]; rfl) | rw [HRET.out]
            · have hb' : b < n:=hb
              show gput _ _ _ _=_
              simp (disch:=omega) only [gput_lt]
              try rfl
        · have hwy:=HPY.out 6
          have hwz:=HPZ.out 7
          have HRET2:Hide (ret=parM ty ry 6++⟨#[32]⟩++⟨#[42]⟩++⟨#[32]⟩++parM tz rz 7):=⟨HRET.out⟩
          have IHY2:=Hide.mk (fun g' n' q1 q2 q3=>IHY.out g' n' 6 q1 q2 q3)
          have IHZ2:=Hide.mk (fun g' n' q1 q2 q3=>IHZ.out g' n' 7 q1 q2 q3)
          generalize parM ty ry 6=wy at hwy HRET2 IHY2
          generalize parM tz rz 7=wz at hwz HRET2 IHZ2
          have hrk:rankM 5=6:=rfl
          have hsgz:(⟨#[42]⟩ : ByteArray).size=1:=rfl
          have hw0:(wy++(⟨#[32]⟩ : ByteArray)).size≤100000001:=by rw [ba_size_append]; omega
          have hw1:(wy++(⟨#[32]⟩ : ByteArray)++(⟨#[42]⟩ : ByteArray)).size≤100000004:=by rw [ba_size_append]; omega
          have hw2:(wy++(⟨#[32]⟩ : ByteArray)++(⟨#[42]⟩ : ByteArray)++(⟨#[32]⟩ : ByteArray)).size≤100000005:=by rw [ba_size_append]; omega
          clear HRET
          have HRET:=HRET2
          rcases hsl with ⟨c,rfl⟩ | ⟨c,rfl⟩
          all_goals
            refine WC.enterP (noO_ok _ _) hG6 pl14 Tryd.func14 rfl (by decide +kernel) (Nat.le_of_ble_eq_true (by kernel_rfl)) ?_
            iterate 16 (all_goals try (first | with_reducible refine splitI (fun h=>?_) (fun h=>?_) | with_reducible refine splitBI (fun h=>?_) (fun h=>?_) | simp (disch:=first | assumption | omega | (simp; done) | fail) [Tryd.results14, *]))
            refine WC.mono (rank_w 5 _) ?_
            rintro _ rfl
            iterate 16 (all_goals try (first | with_reducible refine splitI (fun h=>?_) (fun h=>?_) | with_reducible refine splitBI (fun h=>?_) (fun h=>?_) | simp (disch:=first | assumption | omega | (simp; done) | fail) [Tryd.results14, *]))
            refine WC.mono (IHY2.out _ _ (by omega) (repN_mono (by omega) (fun a ha=>by simp (disch:=omega) only [gput_lt]) HY.out) (HSV.out.mono (by omega) (fun a ha=>by simp (disch:=omega) only [gput_lt]))) ?_
            rintro _ rfl
            iterate 16 (all_goals try (first | with_reducible refine splitI (fun h=>?_) (fun h=>?_) | with_reducible refine splitBI (fun h=>?_) (fun h=>?_) | simp (disch:=first | assumption | omega | (simp; done) | fail) [Tryd.results14, *]))
            refine WC.mono (IHZ2.out _ _ (by omega) (repN_mono (by omega) (fun a ha=>by simp (disch:=omega) only [gput_lt]) HZ.out) (HSV.out.mono (by omega) (fun a ha=>by simp (disch:=omega) only [gput_lt]))) ?_
            rintro _ rfl
            iterate 16 (all_goals try (first | with_reducible refine splitI (fun h=>?_) (fun h=>?_) | with_reducible refine splitBI (fun h=>?_) (fun h=>?_) | simp (disch:=first | assumption | omega | (simp; done) | fail) [Tryd.results14, *]))
          all_goals
            refine ⟨_,⟨?_,rfl⟩,⟨by dsimp only; omega,fun b hb=>?_⟩⟩
            · first | exact HRET.out.symm | (rw [HRET.out]; rfl) | rw [HRET.out]
            · have hb' : b < n:=hb
              show gput _ _ _ _=_
              simp (disch:=omega) only [gput_lt]
              try rfl
        · have hwy:=HPY.out 5
          have hwz:=HPZ.out 5
          have HRET2:Hide (ret=parM ty ry 5++⟨#[32]⟩++⟨#[61]⟩++⟨#[32]⟩++parM tz rz 5):=⟨HRET.out⟩
          have IHY2:=Hide.mk (fun g' n' q1 q2 q3=>IHY.out g' n' 5 q1 q2 q3)
          have IHZ2:=Hide.mk (fun g' n' q1 q2 q3=>IHZ.out g' n' 5 q1 q2 q3)
          generalize parM ty ry 5=wy at hwy HRET2 IHY2
          generalize parM tz rz 5=wz at hwz HRET2 IHZ2
          have hrk:rankM 6=4:=rfl
          have hsgz:(⟨#[61]⟩ : ByteArray).size=1:=rfl
          have hw0:(wy++(⟨#[32]⟩ : ByteArray)).size≤100000001:=by rw [ba_size_append]; omega
          have hw1:(wy++(⟨#[32]⟩ : ByteArray)++(⟨#[61]⟩ : ByteArray)).size≤100000004:=by rw [ba_size_append]; omega
          have hw2:(wy++(⟨#[32]⟩ : ByteArray)++(⟨#[61]⟩ : ByteArray)++(⟨#[32]⟩ : ByteArray)).size≤100000005:=by rw [ba_size_append]; omega
          clear HRET
          have HRET:=HRET2
          rcases hsl with ⟨c,rfl⟩ | ⟨c,rfl⟩
          all_goals
            refine WC.enterP (noO_ok _ _) hG6 pl14 Tryd.func14 rfl (by decide +kernel) (Nat.le_of_ble_eq_true (by kernel_rfl)) ?_
            iterate 16 (all_goals try (first | with_reducible refine splitI (fun h=>?_) (fun h=>?_) | with_reducible refine splitBI (fun h=>?_) (fun h=>?_) | simp (disch:=first | assumption | omega | (simp; done) | fail) [Tryd.results14, *]))
            refine WC.mono (rank_w 6 _) ?_
            rintro _ rfl
            iterate 16 (all_goals try (first | with_reducible refine splitI (fun h=>?_) (fun h=>?_) | with_reducible refine splitBI (fun h=>?_) (fun h=>?_) | simp (disch:=first | assumption | omega | (simp; done) | fail) [Tryd.results14, *]))
            refine WC.mono (IHY2.out _ _ (by omega) (repN_mono (by omega) (fun a ha=>by simp (disch:=omega) only [gput_lt]) HY.out) (HSV.out.mono (by omega) (fun a ha=>by simp (disch:=omega) only [gput_lt]))) ?_
            rintro _ rfl
            iterate 16 (all_goals try (first | with_reducible refine splitI (fun h=>?_) (fun h=>?_) | with_reducible refine splitBI (fun h=>?_) (fun h=>?_) | simp (disch:=first | assumption | omega | (simp; done) | fail) [Tryd.results14, *]))
            refine WC.mono (IHZ2.out _ _ (by omega) (repN_mono (by omega) (fun a ha=>by simp (disch:=omega) only [gput_lt]) HZ.out) (HSV.out.mono (by omega) (fun a ha=>by simp (disch:=omega) only [gput_lt]))) ?_
            rintro _ rfl
            iterate 16 (all_goals try (first | with_reducible refine splitI (fun h=>?_) (fun h=>?_) | with_reducible refine splitBI (fun h=>?_) (fun h=>?_) | simp (disch:=first | assumption | omega | (simp; done) | fail) [Tryd.results14, *]))
          all_goals
            refine ⟨_,⟨?_,rfl⟩,⟨by dsimp only; omega,fun b hb=>?_⟩⟩
            · first | exact HRET.out.symm | (rw [HRET.out]; rfl) | rw [HRET.out]
            · have hb' : b < n:=hb
              show gput _ _ _ _=_
              simp (disch:=omega) only [gput_lt]
              try rfl
        · have hwy:=HPY.out 5
          have hwz:=HPZ.out 5
          have HRET2:Hide (ret=parM ty ry 5++⟨#[32]⟩++⟨#[60]⟩++⟨#[32]⟩++parM tz rz 5):=⟨HRET.out⟩
          have IHY2:=Hide.mk (fun g' n' q1 q2 q3=>IHY.out g' n' 5 q1 q2 q3)
          have IHZ2:=Hide.mk (fun g' n' q1 q2 q3=>IHZ.out g' n' 5 q1 q2 q3)
          generalize parM ty ry 5=wy at hwy HRET2 IHY2
          generalize parM tz rz 5=wz at hwz HRET2 IHZ2
          have hrk:rankM 7=4:=rfl
          have hsgz:(⟨#[60]⟩ : ByteArray).size=1:=rfl
          have hw0:(wy++(⟨#[32]⟩ : ByteArray)).size≤100000001:=by rw [ba_size_append]; omega
          have hw1:(wy++(⟨#[32]⟩ : ByteArray)++(⟨#[60]⟩ : ByteArray)).size≤100000004:=by rw [ba_size_append]; omega
          have hw2:(wy++(⟨#[32]⟩ : ByteArray)++(⟨#[60]⟩ : ByteArray)++(⟨#[32]⟩ : ByteArray)).size≤100000005:=by rw [ba_size_append]; omega
          clear HRET
          have HRET:=HRET2
          rcases hsl with ⟨c,rfl⟩ | ⟨c,rfl⟩
          all_goals
            refine WC.enterP (noO_ok _ _) hG6 pl14 Tryd.func14 rfl (by decide +kernel) (Nat.le_of_ble_eq_true (by kernel_rfl)) ?_
            iterate 16 (all_goals try (first | with_reducible refine splitI (fun h=>?_) (fun h=>?_) | with_reducible refine splitBI (fun h=>?_) (fun h=>?_) | simp (disch:=first | assumption | omega | (simp; done) | fail) [Tryd.results14, *]))
            refine WC.mono (rank_w 7 _) ?_
            rintro _ rfl
            iterate 16 (all_goals try (first | with_reducible refine splitI (fun h=>?_) (fun h=>?_) | with_reducible refine splitBI (fun h=>?_) (fun h=>?_) | simp (disch:=first | assumption | omega | (simp; done) | fail) [Tryd.results14, *]))
            refine WC.mono (IHY2.out _ _ (by omega) (repN_mono (by omega) (fun a ha=>by simp (disch:=omega) only [gput_lt]) HY.out) (HSV.out.mono (by omega) (fun a ha=>by simp (disch:=omega) only [gput_lt]))) ?_
            rintro _ rfl
            iterate 16 (all_goals try (first | with_reducible refine splitI (fun h=>?_) (fun h=>?_) | with_reducible refine splitBI (fun h=>?_) (fun h=>?_) | simp (disch:=first | assumption | omega | (simp; done) | fail) [Tryd.results14, *]))
            refine WC.mono (IHZ2.out _ _ (by omega) (repN_mono (by omega) (fun a ha=>by simp (disch:=omega) only [gput_lt]) HZ.out) (HSV.out.mono (by omega) (fun a ha=>by simp (disch:=omega) only [gput_lt]))) ?_
            rintro _ rfl
            iterate 16 (all_goals try (first | with_reducible refine splitI (fun h=>?_) (fun h=>?_) | with_reducible refine splitBI (fun h=>?_) (fun h=>?_) | simp (disch:=first | assumption | omega | (simp; done) | fail) [Tryd.results14, *]))
          all_goals
            refine ⟨_,⟨?_,rfl⟩,⟨by dsimp only; omega,fun b hb=>?_⟩⟩
            · first | exact HRET.out.symm | (rw [HRET.out]; rfl) | rw [HRET.out]
            · have hb' : b < n:=hb
              show gput _ _ _ _=_
              simp (disch:=omega) only [gput_lt]
              try rfl
        · have hwy:=HPY.out 5
          have hwz:=HPZ.out 5
          have HRET2:Hide (ret=parM ty ry 5++⟨#[32]⟩++⟨#[60,61]⟩++⟨#[32]⟩++parM tz rz 5):=⟨HRET.out⟩
          have IHY2:=Hide.mk (fun g' n' q1 q2 q3=>IHY.out g' n' 5 q1 q2 q3)
          have IHZ2:=Hide.mk (fun g' n' q1 q2 q3=>IHZ.out g' n' 5 q1 q2 q3)
          generalize parM ty ry 5=wy at hwy HRET2 IHY2
          generalize parM tz rz 5=wz at hwz HRET2 IHZ2
          have hrk:rankM 8=4:=rfl
          have hsgz:(⟨#[60,61]⟩ : ByteArray).size=2:=rfl
          have hw0:(wy++(⟨#[32]⟩ : ByteArray)).size≤100000001:=by rw [ba_size_append]; omega
          have hw1:(wy++(⟨#[32]⟩ : ByteArray)++(⟨#[60,61]⟩ : ByteArray)).size≤100000004:=by rw [ba_size_append]; omega
          have hw2:(wy++(⟨#[32]⟩ : ByteArray)++(⟨#[60,61]⟩ : ByteArray)++(⟨#[32]⟩ : ByteArray)).size≤100000005:=by rw [ba_size_append]; omega
          clear HRET
          have HRET:=HRET2
          rcases hsl with ⟨c,rfl⟩ | ⟨c,rfl⟩
          all_goals
            refine WC.enterP (noO_ok _ _) hG6 pl14 Tryd.func14 rfl (by decide +kernel) (Nat.le_of_ble_eq_true (by kernel_rfl)) ?_
            iterate 16 (all_goals try (first | with_reducible refine splitI (fun h=>?_) (fun h=>?_) | with_reducible refine splitBI (fun h=>?_) (fun h=>?_) | simp (disch:=first | assumption | omega | (simp; done) | fail) [Tryd.results14, *]))
            refine WC.mono (rank_w 8 _) ?_
            rintro _ rfl
            iterate 16 (all_goals try (first | with_reducible refine splitI (fun h=>?_) (fun h=>?_) | with_reducible refine splitBI (fun h=>?_) (fun h=>?_) | simp (disch:=first | assumption | omega | (simp; done) | fail) [Tryd.results14, *]))
            refine WC.mono (IHY2.out _ _ (by omega) (repN_mono (by omega) (fun a ha=>by simp (disch:=omega) only [gput_lt]) HY.out) (HSV.out.mono (by omega) (fun a ha=>by simp (disch:=omega) only [gput_lt]))) ?_
            rintro _ rfl
            iterate 16 (all_goals try (first | with_reducible refine splitI (fun h=>?_) (fun h=>?_) | with_reducible refine splitBI (fun h=>?_) (fun h=>?_) | simp (disch:=first | assumption | omega | (simp; done) | fail) [Tryd.results14, *]))
            refine WC.mono (IHZ2.out _ _ (by omega) (repN_mono (by omega) (fun a ha=>by simp (disch:=omega) only [gput_lt]) HZ.out) (HSV.out.mono (by omega) (fun a ha=>by simp (disch:=omega) only [gput_lt]))) ?_
            rintro _ rfl
            iterate 16 (all_goals try (first | with_reducible refine splitI (fun h=>?_) (fun h=>?_) | with_reducible refine splitBI (fun h=>?_) (fun h=>?_) | simp (disch:=first | assumption | omega | (simp; done) | fail) [Tryd.results14, *]))
          all_goals
            refine ⟨_,⟨?_,rfl⟩,⟨by dsimp only; omega,fun b hb=>?_⟩⟩
            · first | exact HRET.out.symm | (rw [HRET.out]; rfl) | rw [HRET.out]
            · have hb' : b < n:=hb
              show gput _ _ _ _=_
              simp (disch:=omega) only [gput_lt]
              try rfl
        · have hwy:=HPY.out 2
          have hwz:=HPZ.out 3
          have HRET2:Hide (ret=parM ty ry 2++⟨#[32]⟩++⟨#[97,110,100]⟩++⟨#[32]⟩++parM tz rz 3):=⟨HRET.out⟩
          have IHY2:=Hide.mk (fun g' n' q1 q2 q3=>IHY.out g' n' 2 q1 q2 q3)
          have IHZ2:=Hide.mk (fun g' n' q1 q2 q3=>IHZ.out g' n' 3 q1 q2 q3)
          generalize parM ty ry 2=wy at hwy HRET2 IHY2
          generalize parM tz rz 3=wz at hwz HRET2 IHZ2
          have hrk:rankM 10=2:=rfl
          have hsgz:(⟨#[97,110,100]⟩ : ByteArray).size=3:=rfl
          have hw0:(wy++(⟨#[32]⟩ : ByteArray)).size≤100000001:=by rw [ba_size_append]; omega
          have hw1:(wy++(⟨#[32]⟩ : ByteArray)++(⟨#[97,110,100]⟩ : ByteArray)).size≤100000004:=by rw [ba_size_append]; omega
          have hw2:(wy++(⟨#[32]⟩ : ByteArray)++(⟨#[97,110,100]⟩ : ByteArray)++(⟨#[32]⟩ : ByteArray)).size≤100000005:=by rw [ba_size_append]; omega
          clear HRET
          have HRET:=HRET2
          rcases hsl with ⟨c,rfl⟩ | ⟨c,rfl⟩
          all_goals
            refine WC.enterP (noO_ok _ _) hG6 pl14 Tryd.func14 rfl (by decide +kernel) (Nat.le_of_ble_eq_true (by kernel_rfl)) ?_
            iterate 16 (all_goals try (first | with_reducible refine splitI (fun h=>?_) (fun h=>?_) | with_reducible refine splitBI (fun h=>?_) (fun h=>?_) | simp (disch:=first | assumption | omega | (simp; done) | fail) [Tryd.results14, *]))
            refine WC.mono (rank_w 10 _) ?_
            rintro _ rfl
            iterate 16 (all_goals try (first | with_reducible refine splitI (fun h=>?_) (fun h=>?_) | with_reducible refine splitBI (fun h=>?_) (fun h=>?_) | simp (disch:=first | assumption | omega | (simp; done) | fail) [Tryd.results14, *]))
            refine WC.mono (IHY2.out _ _ (by omega) (repN_mono (by omega) (fun a ha=>by simp (disch:=omega) only [gput_lt]) HY.out) (HSV.out.mono (by omega) (fun a ha=>by simp (disch:=omega) only [gput_lt]))) ?_
            rintro _ rfl
            iterate 16 (all_goals try (first | with_reducible refine splitI (fun h=>?_) (fun h=>?_) | with_reducible refine splitBI (fun h=>?_) (fun h=>?_) | simp (disch:=first | assumption | omega | (simp; done) | fail) [Tryd.results14, *]))
            refine WC.mono (IHZ2.out _ _ (by omega) (repN_mono (by omega) (fun a ha=>by simp (disch:=omega) only [gput_lt]) HZ.out) (HSV.out.mono (by omega) (fun a ha=>by simp (disch:=omega) only [gput_lt]))) ?_
            rintro _ rfl
            iterate 16 (all_goals try (first | with_reducible refine splitI (fun h=>?_) (fun h=>?_) | with_reducible refine splitBI (fun h=>?_) (fun h=>?_) | simp (disch:=first | assumption | omega | (simp; done) | fail) [Tryd.results14, *]))
          all_goals
            refine ⟨_,⟨?_,rfl⟩,⟨by dsimp only; omega,fun b hb=>?_⟩⟩
            · first | exact HRET.out.symm | (rw [HRET.out]; rfl) | rw [HRET.out]
            · have hb' : b < n:=hb
              show gput _ _ _ _=_
              simp (disch:=omega) only [gput_lt]
              try rfl
        · have hwy:=HPY.out 1
          have hwz:=HPZ.out 2
          have HRET2:Hide (ret=parM ty ry 1++⟨#[32]⟩++⟨#[111,114]⟩++⟨#[32]⟩++parM tz rz 2):=⟨HRET.out⟩
          have IHY2:=Hide.mk (fun g' n' q1 q2 q3=>IHY.out g' n' 1 q1 q2 q3)
          have IHZ2:=Hide.mk (fun g' n' q1 q2 q3=>IHZ.out g' n' 2 q1 q2 q3)
          generalize parM ty ry 1=wy at hwy HRET2 IHY2
          generalize parM tz rz 2=wz at hwz HRET2 IHZ2
          have hrk:rankM 11=1:=rfl
          have hsgz:(⟨#[111,114]⟩ : ByteArray).size=2:=rfl
          have hw0:(wy++(⟨#[32]⟩ : ByteArray)).size≤100000001:=by rw [ba_size_append]; omega
          have hw1:(wy++(⟨#[32]⟩ : ByteArray)++(⟨#[111,114]⟩ : ByteArray)).size≤100000004:=by rw [ba_size_append]; omega
          have hw2:(wy++(⟨#[32]⟩ : ByteArray)++(⟨#[111,114]⟩ : ByteArray)++(⟨#[32]⟩ : ByteArray)).size≤100000005:=by rw [ba_size_append]; omega
          clear HRET
          have HRET:=HRET2
          rcases hsl with ⟨c,rfl⟩ | ⟨c,rfl⟩
          all_goals
            refine WC.enterP (noO_ok _ _) hG6 pl14 Tryd.func14 rfl (by decide +kernel) (Nat.le_of_ble_eq_true (by kernel_rfl)) ?_
            iterate 16 (all_goals try (first | with_reducible refine splitI (fun h=>?_) (fun h=>?_) | with_reducible refine splitBI (fun h=>?_) (fun h=>?_) | simp (disch:=first | assumption | omega | (simp; done) | fail) [Tryd.results14, *]))
            refine WC.mono (rank_w 11 _) ?_
            rintro _ rfl
            iterate 16 (all_goals try (first | with_reducible refine splitI (fun h=>?_) (fun h=>?_) | with_reducible refine splitBI (fun h=>?_) (fun h=>?_) | simp (disch:=first | assumption | omega | (simp; done) | fail) [Tryd.results14, *]))
            refine WC.mono (IHY2.out _ _ (by omega) (repN_mono (by omega) (fun a ha=>by simp (disch:=omega) only [gput_lt]) HY.out) (HSV.out.mono (by omega) (fun a ha=>by simp (disch:=omega) only [gput_lt]))) ?_
            rintro _ rfl
            iterate 16 (all_goals try (first | with_reducible refine splitI (fun h=>?_) (fun h=>?_) | with_reducible refine splitBI (fun h=>?_) (fun h=>?_) | simp (disch:=first | assumption | omega | (simp; done) | fail) [Tryd.results14, *]))
            refine WC.mono (IHZ2.out _ _ (by omega) (repN_mono (by omega) (fun a ha=>by simp (disch:=omega) only [gput_lt]) HZ.out) (HSV.out.mono (by omega) (fun a ha=>by simp (disch:=omega) only [gput_lt]))) ?_
            rintro _ rfl
            iterate 16 (all_goals try (first | with_reducible refine splitI (fun h=>?_) (fun h=>?_) | with_reducible refine splitBI (fun h=>?_) (fun h=>?_) | simp (disch:=first | assumption | omega | (simp; done) | fail) [Tryd.results14, *]))
          all_goals
            refine ⟨_,⟨?_,rfl⟩,⟨by dsimp only; omega,fun b hb=>?_⟩⟩
            · first | exact HRET.out.symm | (rw [HRET.out]; rfl) | rw [HRET.out]
            · have hb' : b < n:=hb
              show gput _ _ _ _=_
              simp (disch:=omega) only [gput_lt]
              try rfl
end Go.Ai
end
section
namespace Go.Ai
open Go.Proofs
set_option maxRecDepth 10000
set_option maxHeartbeats 40000000
def smallsB:ByteArray:=⟨List.toArray ((48:UInt8) :: 48 :: 48 :: 49 :: 48 :: 50 :: 48 :: 51 :: 48 :: 52 :: 48 :: 53 :: 48 :: 54 :: 48 :: 55 :: 48 :: 56 :: 48 :: 57 :: 49 :: 48 :: 49 :: 49 :: 49 :: 50 :: 49 :: 51 :: 49 :: 52 :: 49 :: 53 :: 49 :: 54 :: 49 :: 55 :: 49 :: 56 :: 49 :: 57 :: 50 :: 48 :: 50 :: 49 :: 50 :: 50 :: 50 :: 51 :: 50 :: 52 :: 50 :: 53 :: 50 :: 54 :: 50 :: 55 :: 50 :: 56 :: 50 :: 57 :: 51 :: 48 :: 51 :: 49 :: 51 :: 50 :: 51 :: 51 :: 51 :: 52 :: 51 :: 53 :: 51 :: 54 :: 51 :: 55 :: 51 :: 56 :: 51 :: 57 :: 52 :: 48 :: 52 :: 49 :: 52 :: 50 :: 52 :: 51 :: 52 :: 52 :: 52 :: 53 :: 52 :: 54 :: 52 :: 55 :: 52 :: 56 :: 52 :: 57 :: 53 :: 48 :: 53 :: 49 :: 53 :: 50 :: 53 :: 51 :: 53 :: 52 :: 53 :: 53 :: 53 :: 54 :: 53 :: 55 :: 53 :: 56 :: 53 :: 57 :: 54 :: 48 :: 54 :: 49 :: 54 :: 50 :: 54 :: 51 :: 54 :: 52 :: 54 :: 53 :: 54 :: 54 :: 54 :: 55 :: 54 :: 56 :: 54 :: 57 :: 55 :: 48 :: 55 :: 49 :: 55 :: 50 :: 55 :: 51 :: 55 :: 52 :: 55 :: 53 :: 55 :: 54 :: 55 :: 55 :: 55 :: 56 :: 55 :: 57 :: 56 :: 48 :: 56 :: 49 :: 56 :: 50 :: 56 :: 51 :: 56 :: 52 :: 56 :: 53 :: 56 :: 54 :: 56 :: 55 :: 56 :: 56 :: 56 :: 57 :: 57 :: 48 :: 57 :: 49 :: 57 :: 50 :: 57 :: 51 :: 57 :: 52 :: 57 :: 53 :: 57 :: 54 :: 57 :: 55 :: 57 :: 56 :: 57 :: 57 :: [])⟩
def smallsOk:Bool:=(List.range 100).all fun r=>decide (bAt smallsB (r * 2)=48+(r / 10:Nat)) && decide (bAt smallsB (r * 2+1)=48+(r % 10:Nat)) && decide (9 < r→smallsB.extract (r * 2) (r * 2+2)=digB (r / 10)++digB (r % 10))
theorem smalls_ok:smallsOk=true:=by decide +kernel
theorem smalls_at {r:Nat} (h:r < 100) : bAt smallsB (r * 2)=48+(r / 10:Nat)∧bAt smallsB (r * 2+1)=48+(r % 10:Nat)∧(9 < r→smallsB.extract (r * 2) (r * 2+2)=digB (r / 10)++digB (r % 10)):=by
  have:=List.all_eq_true.1 smalls_ok r (List.mem_range.2 h)
  simp only [Bool.and_eq_true,decide_eq_true_eq] at this
  exact ⟨this.1.1,this.1.2,this.2⟩
theorem dec_small {k:Nat} (h:k≤9) : decB k=digB k:=by rw [decB,dif_neg (by omega)]
theorem dec_two {k:Nat} (h:9 < k) (h2:k < 100) : decB k=digB (k / 10)++digB (k % 10):=by rw [decB,dif_pos h,dec_small (by omega)]
def digs36:ByteArray:=⟨List.toArray ((48:UInt8) :: 49 :: 50 :: 51 :: 52 :: 53 :: 54 :: 55 :: 56 :: 57 :: 97 :: 98 :: 99 :: 100 :: 101 :: 102 :: 103 :: 104 :: 105 :: 106 :: 107 :: 108 :: 109 :: 110 :: 111 :: 112 :: 113 :: 114 :: 115 :: 116 :: 117 :: 118 :: 119 :: 120 :: 121 :: 122 :: [])⟩
theorem small_w71 (k:Nat) (hk:k < 100) (H:Mem) : WC 6 Tryd.prog 71 [.lit (.int .i64 k)] H fun r=>r=.ret (.lit (.string (decB k))) H:=by
  by_cases h9:k≤9
  · have h10:(k:Int) < 10:=by omega
    rw [dec_small h9]
    have hex0:digs36.extract k (k+1)=digB k:=by
      have hn:k=0∨k=1∨k=2∨k=3∨k=4∨k=5∨k=6∨k=7∨k=8∨k=9:=by omega
      rcases hn with rfl | rfl | rfl | rfl | rfl | rfl | rfl | rfl | rfl | rfl <;> decide +kernel
    have hex:digs36.extract k ((k:Int)+1).toNat=digB k:=by
      rw [show ((k:Int)+1).toNat=k+1 by omega]; exact hex0
    have hsz:digs36.size=36:=rfl
    unfold digs36 at hex hex0 hsz
    refine WC.enterP (noO_ok _ _) hG6 [] Tryd.func71 rfl (by decide +kernel) (Nat.le_of_ble_eq_true (by kernel_rfl)) ?_
    iterate 12 (all_goals try (first | with_reducible refine splitI (fun h=>?_) (fun h=>?_) | with_reducible refine splitBI (fun h=>?_) (fun h=>?_) | simp (disch:=first | assumption | omega | (simp; done) | fail) [Tryd.results71, *]))
  · have h10:¬(k:Int) < 10:=by omega
    rw [dec_two (by omega) hk]
    have hex:smallsB.extract ((k:Int) * 2).toNat ((k:Int) * 2+2).toNat=digB (k / 10)++digB (k % 10):=by
      rw [show ((k:Int) * 2).toNat=k * 2 by omega,show ((k:Int) * 2+2).toNat=k * 2+2 by omega]
      exact (smalls_at hk).2.2 (by omega)
    have hsz:smallsB.size=200:=rfl
    unfold smallsB at hex hsz
    refine WC.enterP (noO_ok _ _) hG6 [] Tryd.func71 rfl (by decide +kernel) (Nat.le_of_ble_eq_true (by kernel_rfl)) ?_
    iterate 12 (all_goals try (first | with_reducible refine splitI (fun h=>?_) (fun h=>?_) | with_reducible refine splitBI (fun h=>?_) (fun h=>?_) | simp (disch:=first | assumption | omega | (simp; done) | fail) [Tryd.results71, *]))
def lenB:ByteArray:=⟨List.toArray ((0:UInt8) :: 1 :: 2 :: 2 :: 3 :: 3 :: 3 :: 3 :: 4 :: 4 :: 4 :: 4 :: 4 :: 4 :: 4 :: 4 :: 5 :: 5 :: 5 :: 5 :: 5 :: 5 :: 5 :: 5 :: 5 :: 5 :: 5 :: 5 :: 5 :: 5 :: 5 :: 5 :: 6 :: 6 :: 6 :: 6 :: 6 :: 6 :: 6 :: 6 :: 6 :: 6 :: 6 :: 6 :: 6 :: 6 :: 6 :: 6 :: 6 :: 6 :: 6 :: 6 :: 6 :: 6 :: 6 :: 6 :: 6 :: 6 :: 6 :: 6 :: 6 :: 6 :: 6 :: 6 :: 7 :: 7 :: 7 :: 7 :: 7 :: 7 :: 7 :: 7 :: 7 :: 7 :: 7 :: 7 :: 7 :: 7 :: 7 :: 7 :: 7 :: 7 :: 7 :: 7 :: 7 :: 7 :: 7 :: 7 :: 7 :: 7 :: 7 :: 7 :: 7 :: 7 :: 7 :: 7 :: 7 :: 7 :: 7 :: 7 :: 7 :: 7 :: 7 :: 7 :: 7 :: 7 :: 7 :: 7 :: 7 :: 7 :: 7 :: 7 :: 7 :: 7 :: 7 :: 7 :: 7 :: 7 :: 7 :: 7 :: 7 :: 7 :: 7 :: 7 :: 7 :: 7 :: 7 :: 7 :: 8 :: 8 :: 8 :: 8 :: 8 :: 8 :: 8 :: 8 :: 8 :: 8 :: 8 :: 8 :: 8 :: 8 :: 8 :: 8 :: 8 :: 8 :: 8 :: 8 :: 8 :: 8 :: 8 :: 8 :: 8 :: 8 :: 8 :: 8 :: 8 :: 8 :: 8 :: 8 :: 8 :: 8 :: 8 :: 8 :: 8 :: 8 :: 8 :: 8 :: 8 :: 8 :: 8 :: 8 :: 8 :: 8 :: 8 :: 8 :: 8 :: 8 :: 8 :: 8 :: 8 :: 8 :: 8 :: 8 :: 8 :: 8 :: 8 :: 8 :: 8 :: 8 :: 8 :: 8 :: 8 :: 8 :: 8 :: 8 :: 8 :: 8 :: 8 :: 8 :: 8 :: 8 :: 8 :: 8 :: 8 :: 8 :: 8 :: 8 :: 8 :: 8 :: 8 :: 8 :: 8 :: 8 :: 8 :: 8 :: 8 :: 8 :: 8 :: 8 :: 8 :: 8 :: 8 :: 8 :: 8 :: 8 :: 8 :: 8 :: 8 :: 8 :: 8 :: 8 :: 8 :: 8 :: 8 :: 8 :: 8 :: 8 :: 8 :: 8 :: 8 :: 8 :: 8 :: 8 :: 8 :: 8 :: 8 :: 8 :: 8 :: 8 :: 8 :: 8 :: 8 :: 8 :: 8 :: 8 :: [])⟩
def lenOk:Bool:=(List.range 256).all fun r=>decide (0 < r→(List.range 9).any (fun L=>decide (1≤L) && decide (bAt lenB r=(L:Nat)) && decide (2 ^ (L - 1)≤r) && decide (r < 2 ^ L))=true)
theorem len_ok:lenOk=true:=by decide +kernel
theorem len_at {r:Nat} (h:r < 256) (h0:0 < r) : ∃ L:Nat,1≤L∧L≤8∧bAt lenB r=L∧2 ^ (L - 1)≤r∧r < 2 ^ L:=by
  have:=List.all_eq_true.1 len_ok r (List.mem_range.2 h)
  obtain ⟨L,h1,h2⟩:=List.any_eq_true.1 ((of_decide_eq_true this) h0)
  simp only [Bool.and_eq_true,decide_eq_true_eq] at h2
  have:=List.mem_range.1 h1
  exact ⟨L,h2.1.1.1,by omega,h2.1.1.2,h2.1.2,h2.2⟩
theorem bool2_w (b:Bool) (H:Mem) : WC 6 Tryd.prog 82 [.lit (.bool b)] H fun r=>r=.ret (.lit (.int .i64 (truthM b))) H:=by
  cases b
  all_goals
    refine WC.enterP (noO_ok _ _) hG6 [] Tryd.func82 rfl (by decide +kernel) (Nat.le_of_ble_eq_true (by kernel_rfl)) ?_
    iterate 12 (all_goals try (first | with_reducible refine splitI (fun h=>?_) (fun h=>?_) | with_reducible refine splitBI (fun h=>?_) (fun h=>?_) | simp (disch:=first | assumption | omega | (simp; done) | fail) [Tryd.results82,truthM, *]))
theorem log10_w (L:Nat) (hL:L≤64) (H:Mem) : WC 6 Tryd.prog 80 [.lit (.int .i64 L)] H fun r=>r=.ret (.lit (.int .i64 (L * 78913 / 262144:Nat))) H:=by
  refine WC.enterP (noO_ok _ _) hG6 [] Tryd.func80 rfl (by decide +kernel) (Nat.le_of_ble_eq_true (by kernel_rfl)) ?_
  iterate 12 (all_goals try (first | with_reducible refine splitI (fun h=>?_) (fun h=>?_) | with_reducible refine splitBI (fun h=>?_) (fun h=>?_) | simp (disch:=first | assumption | omega | (simp; done) | fail) [Tryd.results80, *]))
def bitsOk (k L:Nat) : Prop:=1≤L∧L≤32∧2 ^ (L - 1)≤k∧k < 2 ^ L
theorem len64_w (k:Nat) (h0:0 < k) (hk:k≤2147483648) (H:Mem) : WC 6 Tryd.prog 81 [.lit (.int .u64 k)] H fun r=>∃ L,bitsOk k L∧r=.ret (.lit (.int .i64 (L:Nat))) H:=by
  have h32:¬(4294967296:Int)≤(k:Int):=by omega
  have hsz:lenB.size=256:=rfl
  obtain ⟨s,hs⟩ : ∃ s:Nat,Hide ((k < 256∧s=0)∨(256≤k∧k < 65536∧s=8)∨(65536≤k∧k < 16777216∧s=16)∨(16777216≤k∧s=24)):=by
    by_cases c1:k < 256
    · exact ⟨0,⟨.inl ⟨c1,rfl⟩⟩⟩
    by_cases c2:k < 65536
    · exact ⟨8,⟨.inr (.inl ⟨by omega,c2,rfl⟩)⟩⟩
    by_cases c3:k < 16777216
    · exact ⟨16,⟨.inr (.inr (.inl ⟨by omega,c3,rfl⟩))⟩⟩
    · exact ⟨24,⟨.inr (.inr (.inr ⟨by omega,rfl⟩))⟩⟩
  have fin:∀ r s:Nat,(s=0∨s=8∨s=16∨s=24)→r=k / 2 ^ s→0 < r→r < 256→∃ L:Nat,bAt lenB r=L∧bitsOk k (s+L):=by
    intro r s hs hr hp hlt
    obtain ⟨L,h1,h2,h3,h4,h5⟩:=len_at hlt hp
    refine ⟨L,h3,by omega,by rcases hs with rfl | rfl | rfl | rfl <;> omega,?_⟩
    have hL:L=1∨L=2∨L=3∨L=4∨L=5∨L=6∨L=7∨L=8:=by omega
    rcases hs with rfl | rfl | rfl | rfl <;> rcases hL with rfl | rfl | rfl | rfl | rfl | rfl | rfl | rfl <;> simp at hr h4 h5 ⊢ <;> omega
  rcases hs.out with ⟨c1,rfl⟩ | ⟨c1,c2,rfl⟩ | ⟨c1,c2,rfl⟩ | ⟨c1,rfl⟩
  · obtain ⟨L,e1,e2⟩:=fin (k) 0 (by omega) (by simp) (by omega) (by omega)
    have e3:bAt lenB ((k:Int)).toNat=L:=by rw [show ((k:Int)).toNat=k by omega]; exact e1
    have hti:((k:Int)).toNat < 256:=by omega
    have HF:=Hide.mk e2
    have hLb:=e2.2.1
    have t16:¬(65536:Int)≤(k:Int):=by omega
    have t8:¬(256:Int)≤(k:Int):=by omega
    clear fin hs e2
    unfold lenB at e1 e3 hsz
    refine WC.enterP (noO_ok _ _) hG6 [] Tryd.func81 rfl (by decide +kernel) (Nat.le_of_ble_eq_true (by kernel_rfl)) ?_
    iterate 16 (all_goals try (first | with_reducible refine splitI (fun h=>?_) (fun h=>?_) | with_reducible refine splitBI (fun h=>?_) (fun h=>?_) | simp (disch:=first | assumption | omega | (simp; done) | fail) [Tryd.results81, *]))
    exact ⟨0+L,by simpa using HF.out,by omega⟩
  · obtain ⟨L,e1,e2⟩:=fin (k / 256) 8 (by omega) (by simp) (by omega) (by omega)
    have e3:bAt lenB ((k:Int) / 256).toNat=L:=by rw [show ((k:Int) / 256).toNat=k / 256 by omega]; exact e1
    have hti:((k:Int) / 256).toNat < 256:=by omega
    have HF:=Hide.mk e2
    have hLb:=e2.2.1
    have t16:¬(65536:Int)≤(k:Int):=by omega
    have t8:(256:Int)≤(k:Int):=by omega
    clear fin hs e2
    unfold lenB at e1 e3 hsz
    refine WC.enterP (noO_ok _ _) hG6 [] Tryd.func81 rfl (by decide +kernel) (Nat.le_of_ble_eq_true (by kernel_rfl)) ?_
    iterate 16 (all_goals try (first | with_reducible refine splitI (fun h=>?_) (fun h=>?_) | with_reducible refine splitBI (fun h=>?_) (fun h=>?_) | simp (disch:=first | assumption | omega | (simp; done) | fail) [Tryd.results81, *]))
    exact ⟨8+L,HF.out,by omega⟩
  · obtain ⟨L,e1,e2⟩:=fin (k / 65536) 16 (by omega) (by simp) (by omega) (by omega)
    have e3:bAt lenB ((k:Int) / 65536).toNat=L:=by rw [show ((k:Int) / 65536).toNat=k / 65536 by omega]; exact e1
    have hti:((k:Int) / 65536).toNat < 256:=by omega
    have HF:=Hide.mk e2
    have hLb:=e2.2.1
    have t16:(65536:Int)≤(k:Int):=by omega
    have t8:¬(256:Int)≤(k:Int) / 65536:=by omega
    clear fin hs e2
    unfold lenB at e1 e3 hsz
    refine WC.enterP (noO_ok _ _) hG6 [] Tryd.func81 rfl (by decide +kernel) (Nat.le_of_ble_eq_true (by kernel_rfl)) ?_
    iterate 16 (all_goals try (first | with_reducible refine splitI (fun h=>?_) (fun h=>?_) | with_reducible refine splitBI (fun h=>?_) (fun h=>?_) | simp (disch:=first | assumption | omega | (simp; done) | fail) [Tryd.results81, *]))
    exact ⟨16+L,HF.out,by omega⟩
  · obtain ⟨L,e1,e2⟩:=fin (k / 16777216) 24 (by omega) (by simp) (by omega) (by omega)
    have e3:bAt lenB ((k:Int) / 65536 / 256).toNat=L:=by rw [show ((k:Int) / 65536 / 256).toNat=k / 16777216 by omega]; exact e1
    have hti:((k:Int) / 65536 / 256).toNat < 256:=by omega
    have HF:=Hide.mk e2
    have hLb:=e2.2.1
    have t16:(65536:Int)≤(k:Int):=by omega
    have t8:(256:Int)≤(k:Int) / 65536:=by omega
    clear fin hs e2
    unfold lenB at e1 e3 hsz
    refine WC.enterP (noO_ok _ _) hG6 [] Tryd.func81 rfl (by decide +kernel) (Nat.le_of_ble_eq_true (by kernel_rfl)) ?_
    iterate 16 (all_goals try (first | with_reducible refine splitI (fun h=>?_) (fun h=>?_) | with_reducible refine splitBI (fun h=>?_) (fun h=>?_) | simp (disch:=first | assumption | omega | (simp; done) | fail) [Tryd.results81, *]))
    exact ⟨24+L,HF.out,by omega⟩
def powOk:Bool:=(List.range 20).all fun t=>match bP[t]? with | some (.lit (.int .u64 v))=>decide (v=((10 ^ t:Nat) : Int)) | _=>false
theorem pow_ok:powOk=true:=by decide +kernel
theorem pow_at {t s:Nat} (h:t < 20) : loadB (some (false,s)) (some (.cells bP false 0)) t=some (.lit (.int .u64 ((10 ^ t:Nat) : Int))):=by
  have:=List.all_eq_true.1 pow_ok t (List.mem_range.2 h)
  rw [loadB_one]
  split at this
  · rename_i v hv
    rw [hv,of_decide_eq_true this]
  · cases this
def digsOk (k nd:Nat) : Prop:=3≤nd∧nd≤10∧10 ^ (nd - 1)≤k∧k < 10 ^ nd
theorem digs_of {k L t:Nat} (h0:100≤k) (hk:k≤2147483648) (hL:bitsOk k L) (ht:t=L * 78913 / 262144) : t < 10∧(10 ^ t≤k→digsOk k (t+1))∧(¬10 ^ t≤k→digsOk k t):=by
  obtain ⟨h1,h2,h3,h4⟩:=hL
  have hL7:7≤L:=by
    rcases Nat.lt_or_ge L 7 with h | h
    · exfalso
      have:2 ^ L≤2 ^ 6:=Nat.pow_le_pow_right (by omega) (by omega)
      omega
    · exact h
  have hc:L=7∨L=8∨L=9∨L=10∨L=11∨L=12∨L=13∨L=14∨L=15∨L=16∨L=17∨L=18∨L=19∨L=20∨L=21∨L=22∨L=23∨L=24∨L=25∨L=26∨L=27∨L=28∨L=29∨L=30∨L=31∨L=32:=by omega
  unfold digsOk
  rcases hc with rfl | rfl | rfl | rfl | rfl | rfl | rfl | rfl | rfl | rfl | rfl | rfl | rfl | rfl | rfl | rfl | rfl | rfl | rfl | rfl | rfl | rfl | rfl | rfl | rfl | rfl
  all_goals
    simp at ht
    subst ht
    simp at h3 h4 ⊢
    omega
theorem digits_w (k:Nat) (h0:100≤k) (hk:k≤2147483648) (g:Nat→Option Blk) (n:Nat) (hg:g 1=some (.cells bP false 0)) (hn:1 < n) : WC 6 Tryd.prog 72 [.lit (.int .u64 k)] ⟨.fn g,n⟩ fun r=>∃ nd,digsOk k nd∧r=.ret (.lit (.int .i64 (nd:Nat))) ⟨.fn g,n⟩:=by
  refine WC.enterP (noO_ok _ _) hG6 [] Tryd.func72 rfl (by decide +kernel) (Nat.le_of_ble_eq_true (by kernel_rfl)) ?_
  iterate 12 (all_goals try (first | with_reducible refine splitI (fun h=>?_) (fun h=>?_) | with_reducible refine splitBI (fun h=>?_) (fun h=>?_) | simp (disch:=first | assumption | omega | (simp; done) | fail) [Tryd.results72, *]))
  refine WC.mono (len64_w k (by omega) hk _) ?_
  rintro _ ⟨L,hL,rfl⟩
  iterate 12 (all_goals try (first | with_reducible refine splitI (fun h=>?_) (fun h=>?_) | with_reducible refine splitBI (fun h=>?_) (fun h=>?_) | simp (disch:=first | assumption | omega | (simp; done) | fail) [Tryd.results72, *]))
  refine WC.mono (log10_w L (by have:=hL.2.1; omega) _) ?_
  rintro _ rfl
  obtain ⟨t,ht⟩ : ∃ t,t=L * 78913 / 262144:=⟨_,rfl⟩
  obtain ⟨d1,d2,d3⟩:=digs_of h0 hk hL ht
  rw [← ht]
  have hp:=pow_at (s:=1) (show t < 20 by omega)
  have D2:=Hide.mk d2
  have D3:=Hide.mk d3
  have HT:=Hide.mk ht
  clear d2 d3 ht hL
  iterate 12 (all_goals try (first | with_reducible refine splitI (fun h=>?_) (fun h=>?_) | with_reducible refine splitBI (fun h=>?_) (fun h=>?_) | simp (disch:=first | assumption | omega | (simp; done) | fail) [Tryd.results72, *]))
  · refine WC.mono (bool2_w _ _) ?_
    rintro _ rfl
    iterate 12 (all_goals try (first | with_reducible refine splitI (fun h=>?_) (fun h=>?_) | with_reducible refine splitBI (fun h=>?_) (fun h=>?_) | simp (disch:=first | assumption | omega | (simp; done) | fail) [Tryd.results72, *]))
    exact ⟨t+1,D2.out (by exact_mod_cast h),by omega⟩
  · refine WC.mono (bool2_w _ _) ?_
    rintro _ rfl
    iterate 12 (all_goals try (first | with_reducible refine splitI (fun h=>?_) (fun h=>?_) | with_reducible refine splitBI (fun h=>?_) (fun h=>?_) | simp (disch:=first | assumption | omega | (simp; done) | fail) [Tryd.results72, *]))
    exact ⟨t,D3.out (by exact_mod_cast h),rfl⟩
end Go.Ai
end
section
namespace Go.Ai
open Go.Proofs
set_option maxRecDepth 10000
set_option maxHeartbeats 40000000
theorem smalls_lo {x:Int} (h0:0≤x) (h1:x < 100) : bAt smallsB (x * 2).toNat=48+x / 10:=by
  obtain ⟨r,rfl⟩:=Int.eq_ofNat_of_zero_le h0
  rw [show ((r:Int) * 2).toNat=r * 2 by omega,(smalls_at (by omega)).1]
  omega
theorem smalls_hi {x:Int} (h0:0≤x) (h1:x < 100) : bAt smallsB (x * 2+1).toNat=48+x % 10:=by
  obtain ⟨r,rfl⟩:=Int.eq_ofNat_of_zero_le h0
  rw [show ((r:Int) * 2+1).toNat=r * 2+1 by omega,(smalls_at (by omega)).2.1]
  omega
theorem smalls_size:smallsB.size=200:=rfl
def dg (n:Nat) : UInt8:=UInt8.ofNat (48+n)
def digL (n:Nat) : List UInt8:=if h:9 < n then digL (n / 10)++[dg (n % 10)] else [dg n]
termination_by n
decreasing_by omega
theorem digL_step {n:Nat} (h:9 < n) : digL n=digL (n / 10)++[dg (n % 10)]:=by rw [digL,dif_pos h]
theorem digL_one {n:Nat} (h:n≤9) : digL n=[dg n]:=by rw [digL,dif_neg (by omega)]
theorem ba_app (a b:List UInt8) : (⟨a.toArray⟩ : ByteArray)++⟨b.toArray⟩=⟨(a++b).toArray⟩:=by
  apply ByteArray.ext
  rw [ByteArray.data_append]
  simp
theorem dec_list (n:Nat) : decB n=⟨(digL n).toArray⟩:=by
  induction n using Nat.strongRecOn with
  | _ n ih =>
    by_cases h:9 < n
    · rw [decB,dif_pos h,digL_step h,ih (n / 10) (by omega),← ba_app]; rfl
    · rw [decB,dif_neg h,digL_one (by omega)]; rfl
theorem by_list {l:List UInt8} {n:Nat} (h:l=digL n) : (⟨l.toArray⟩ : ByteArray)=decB n:=by rw [dec_list,h]
theorem fmt_3 (k:Nat) (h0:100≤k) (h1:k < 1000) (g:Nat→Option Blk) (n:Nat) (hk:k≤2147483648) (hg:g 1=some (.cells bP false 0)) (hn:1 < n) : WC 6 Tryd.prog 68 [.lit (.int .i64 k),.lit (.int .i64 10)] ⟨.fn g,n⟩ fun r=>r=.ret (.lit (.string (decB k))) ⟨.fn g,n⟩:=by
  refine WC.drop1 rfl ?_
  have e1:¬(k:Int) < 100:=by omega
  have e2:¬(k:Int) < 0:=by omega
  have SLO:=@smalls_lo
  have SHI:=@smalls_hi
  have SSZ:=smalls_size
  unfold smallsB at SLO SHI SSZ
  refine WC.enterP (noO_ok _ _) hG6 [] Tryd.func68 rfl (by decide +kernel) (Nat.le_of_ble_eq_true (by kernel_rfl)) ?_
  iterate 20 (all_goals try (first | with_reducible refine splitI (fun h=>?_) (fun h=>?_) | with_reducible refine splitBI (fun h=>?_) (fun h=>?_) | simp (config:={ maxSteps:=1000000 }) (disch:=first | assumption | omega | (simp; done) | fail) [Tryd.results68,Int.tdiv_eq_ediv_of_nonneg,Int.tmod_eq_emod_of_nonneg, *]))
  refine WC.mono (digits_w k (by omega) hk _ _ (by simp (disch:=omega) only [gput_lt]; exact hg) (by omega)) ?_
  rintro _ ⟨nd,hnd,rfl⟩
  have hd3:nd=3:=by
    obtain ⟨q1,q2,q3,q4⟩:=hnd
    have hc:nd=3∨nd=4∨nd=5∨nd=6∨nd=7∨nd=8∨nd=9∨nd=10:=by omega
    rcases hc with rfl | rfl | rfl | rfl | rfl | rfl | rfl | rfl <;> simp at q3 q4 <;> omega
  clear hnd
  subst hd3
  iterate 20 (all_goals try (first | with_reducible refine splitI (fun h=>?_) (fun h=>?_) | with_reducible refine splitBI (fun h=>?_) (fun h=>?_) | simp (config:={ maxSteps:=1000000 }) (disch:=first | assumption | omega | (simp; done) | fail) [Tryd.results68,Int.tdiv_eq_ediv_of_nonneg,Int.tmod_eq_emod_of_nonneg, *]))
  refine WC.enterP (noO_ok _ _) hG6 pl73 Tryd.func73 rfl (by decide +kernel) (Nat.le_of_ble_eq_true (by kernel_rfl)) ?_
  iterate 20 (all_goals try (first | with_reducible refine splitI (fun h=>?_) (fun h=>?_) | with_reducible refine splitBI (fun h=>?_) (fun h=>?_) | simp (config:={ maxSteps:=1000000 }) (disch:=first | assumption | omega | (simp; done) | fail) [Tryd.results73,Int.tdiv_eq_ediv_of_nonneg,Int.tmod_eq_emod_of_nonneg, *]))
  refine LX.roundP (noO_ok _ _) hG6 pl73 (by decide +kernel) ?_
  iterate 20 (all_goals try (first | with_reducible refine splitI (fun h=>?_) (fun h=>?_) | with_reducible refine splitBI (fun h=>?_) (fun h=>?_) | simp (config:={ maxSteps:=1000000 }) (disch:=first | assumption | omega | (simp; done) | fail) [Tryd.results73,Int.tdiv_eq_ediv_of_nonneg,Int.tmod_eq_emod_of_nonneg, *]))
  refine ⟨_,⟨by_list ?_,rfl⟩,⟨Nat.le_succ _,fun b hb=>gput_lt hb⟩⟩
  rw [digL_step (by omega),digL_step (by omega),digL_one (by omega)]
  simp only [List.append_assoc,List.cons_append,List.nil_append]
  exact List.cons_eq_cons.2 ⟨congrArg UInt8.ofNat (by omega),List.cons_eq_cons.2 ⟨congrArg UInt8.ofNat (by omega),List.cons_eq_cons.2 ⟨congrArg UInt8.ofNat (by omega),rfl⟩⟩⟩
theorem fmt_4 (k:Nat) (h0:1000≤k) (h1:k < 10000) (g:Nat→Option Blk) (n:Nat) (hk:k≤2147483648) (hg:g 1=some (.cells bP false 0)) (hn:1 < n) : WC 6 Tryd.prog 68 [.lit (.int .i64 k),.lit (.int .i64 10)] ⟨.fn g,n⟩ fun r=>r=.ret (.lit (.string (decB k))) ⟨.fn g,n⟩:=by
  refine WC.drop1 rfl ?_
  have e1:¬(k:Int) < 100:=by omega
  have e2:¬(k:Int) < 0:=by omega
  have SLO:=@smalls_lo
  have SHI:=@smalls_hi
  have SSZ:=smalls_size
  unfold smallsB at SLO SHI SSZ
  refine WC.enterP (noO_ok _ _) hG6 [] Tryd.func68 rfl (by decide +kernel) (Nat.le_of_ble_eq_true (by kernel_rfl)) ?_
  iterate 20 (all_goals try (first | with_reducible refine splitI (fun h=>?_) (fun h=>?_) | with_reducible refine splitBI (fun h=>?_) (fun h=>?_) | simp (config:={ maxSteps:=1000000 }) (disch:=first | assumption | omega | (simp; done) | fail) [Tryd.results68,Int.tdiv_eq_ediv_of_nonneg,Int.tmod_eq_emod_of_nonneg, *]))
  refine WC.mono (digits_w k (by omega) hk _ _ (by simp (disch:=omega) only [gput_lt]; exact hg) (by omega)) ?_
  rintro _ ⟨nd,hnd,rfl⟩
  have hd3:nd=4:=by
    obtain ⟨q1,q2,q3,q4⟩:=hnd
    have hc:nd=3∨nd=4∨nd=5∨nd=6∨nd=7∨nd=8∨nd=9∨nd=10:=by omega
    rcases hc with rfl | rfl | rfl | rfl | rfl | rfl | rfl | rfl <;> simp at q3 q4 <;> omega
  clear hnd
  subst hd3
  iterate 20 (all_goals try (first | with_reducible refine splitI (fun h=>?_) (fun h=>?_) | with_reducible refine splitBI (fun h=>?_) (fun h=>?_) | simp (config:={ maxSteps:=1000000 }) (disch:=first | assumption | omega | (simp; done) | fail) [Tryd.results68,Int.tdiv_eq_ediv_of_nonneg,Int.tmod_eq_emod_of_nonneg, *]))
  refine WC.enterP (noO_ok _ _) hG6 pl73 Tryd.func73 rfl (by decide +kernel) (Nat.le_of_ble_eq_true (by kernel_rfl)) ?_
  iterate 20 (all_goals try (first | with_reducible refine splitI (fun h=>?_) (fun h=>?_) | with_reducible refine splitBI (fun h=>?_) (fun h=>?_) | simp (config:={ maxSteps:=1000000 }) (disch:=first | assumption | omega | (simp; done) | fail) [Tryd.results73,Int.tdiv_eq_ediv_of_nonneg,Int.tmod_eq_emod_of_nonneg, *]))
  refine LX.roundP (noO_ok _ _) hG6 pl73 (by decide +kernel) ?_
  iterate 20 (all_goals try (first | with_reducible refine splitI (fun h=>?_) (fun h=>?_) | with_reducible refine splitBI (fun h=>?_) (fun h=>?_) | simp (config:={ maxSteps:=1000000 }) (disch:=first | assumption | omega | (simp; done) | fail) [Tryd.results73,Int.tdiv_eq_ediv_of_nonneg,Int.tmod_eq_emod_of_nonneg, *]))
  refine ⟨_,⟨by_list ?_,rfl⟩,⟨Nat.le_succ _,fun b hb=>gput_lt hb⟩⟩
  rw [digL_step (by omega),digL_step (by omega),digL_step (by omega),digL_one (by omega)]
  simp only [List.append_assoc,List.cons_append,List.nil_append]
  exact List.cons_eq_cons.2 ⟨congrArg UInt8.ofNat (by omega),List.cons_eq_cons.2 ⟨congrArg UInt8.ofNat (by omega),List.cons_eq_cons.2 ⟨congrArg UInt8.ofNat (by omega),List.cons_eq_cons.2 ⟨congrArg UInt8.ofNat (by omega),rfl⟩⟩⟩⟩
theorem fmt_5 (k:Nat) (h0:10000≤k) (h1:k < 100000) (g:Nat→Option Blk) (n:Nat) (hk:k≤2147483648) (hg:g 1=some (.cells bP false 0)) (hn:1 < n) : WC 6 Tryd.prog 68 [.lit (.int .i64 k),.lit (.int .i64 10)] ⟨.fn g,n⟩ fun r=>r=.ret (.lit (.string (decB k))) ⟨.fn g,n⟩:=by
  refine WC.drop1 rfl ?_
  have e1:¬(k:Int) < 100:=by omega
  have e2:¬(k:Int) < 0:=by omega
  have SLO:=@smalls_lo
  have SHI:=@smalls_hi
  have SSZ:=smalls_size
  unfold smallsB at SLO SHI SSZ
  refine WC.enterP (noO_ok _ _) hG6 [] Tryd.func68 rfl (by decide +kernel) (Nat.le_of_ble_eq_true (by kernel_rfl)) ?_
  iterate 20 (all_goals try (first | with_reducible refine splitI (fun h=>?_) (fun h=>?_) | with_reducible refine splitBI (fun h=>?_) (fun h=>?_) | simp (config:={ maxSteps:=1000000 }) (disch:=first | assumption | omega | (simp; done) | fail) [Tryd.results68,Int.tdiv_eq_ediv_of_nonneg,Int.tmod_eq_emod_of_nonneg, *]))
  refine WC.mono (digits_w k (by omega) hk _ _ (by simp (disch:=omega) only [gput_lt]; exact hg) (by omega)) ?_
  rintro _ ⟨nd,hnd,rfl⟩
  have hd3:nd=5:=by
    obtain ⟨q1,q2,q3,q4⟩:=hnd
    have hc:nd=3∨nd=4∨nd=5∨nd=6∨nd=7∨nd=8∨nd=9∨nd=10:=by omega
    rcases hc with rfl | rfl | rfl | rfl | rfl | rfl | rfl | rfl <;> simp at q3 q4 <;> omega
  clear hnd
  subst hd3
  iterate 20 (all_goals try (first | with_reducible refine splitI (fun h=>?_) (fun h=>?_) | with_reducible refine splitBI (fun h=>?_) (fun h=>?_) | simp (config:={ maxSteps:=1000000 }) (disch:=first | assumption | omega | (simp; done) | fail) [Tryd.results68,Int.tdiv_eq_ediv_of_nonneg,Int.tmod_eq_emod_of_nonneg, *]))
  refine WC.enterP (noO_ok _ _) hG6 pl73 Tryd.func73 rfl (by decide +kernel) (Nat.le_of_ble_eq_true (by kernel_rfl)) ?_
  iterate 20 (all_goals try (first | with_reducible refine splitI (fun h=>?_) (fun h=>?_) | with_reducible refine splitBI (fun h=>?_) (fun h=>?_) | simp (config:={ maxSteps:=1000000 }) (disch:=first | assumption | omega | (simp; done) | fail) [Tryd.results73,Int.tdiv_eq_ediv_of_nonneg,Int.tmod_eq_emod_of_nonneg, *]))
  refine LX.roundP (noO_ok _ _) hG6 pl73 (by decide +kernel) ?_
  iterate 20 (all_goals try (first | with_reducible refine splitI (fun h=>?_) (fun h=>?_) | with_reducible refine splitBI (fun h=>?_) (fun h=>?_) | simp (config:={ maxSteps:=1000000 }) (disch:=first | assumption | omega | (simp; done) | fail) [Tryd.results73,Int.tdiv_eq_ediv_of_nonneg,Int.tmod_eq_emod_of_nonneg, *]))
  refine ⟨_,⟨by_list ?_,rfl⟩,⟨Nat.le_succ _,fun b hb=>gput_lt hb⟩⟩
  rw [digL_step (by omega),digL_step (by omega),digL_step (by omega),digL_step (by omega),digL_one (by omega)]
  simp only [List.append_assoc,List.cons_append,List.nil_append]
  exact List.cons_eq_cons.2 ⟨congrArg UInt8.ofNat (by omega),List.cons_eq_cons.2 ⟨congrArg UInt8.ofNat (by omega),List.cons_eq_cons.2 ⟨congrArg UInt8.ofNat (by omega),List.cons_eq_cons.2 ⟨congrArg UInt8.ofNat (by omega),List.cons_eq_cons.2 ⟨congrArg UInt8.ofNat (by omega),rfl⟩⟩⟩⟩⟩
theorem fmt_6 (k:Nat) (h0:100000≤k) (h1:k < 1000000) (g:Nat→Option Blk) (n:Nat) (hk:k≤2147483648) (hg:g 1=some (.cells bP false 0)) (hn:1 < n) : WC 6 Tryd.prog 68 [.lit (.int .i64 k),.lit (.int .i64 10)] ⟨.fn g,n⟩ fun r=>r=.ret (.lit (.string (decB k))) ⟨.fn g,n⟩:=by
  refine WC.drop1 rfl ?_
  have e1:¬(k:Int) < 100:=by omega
  have e2:¬(k:Int) < 0:=by omega
  have SLO:=@smalls_lo
  have SHI:=@smalls_hi
  have SSZ:=smalls_size
  unfold smallsB at SLO SHI SSZ
  refine WC.enterP (noO_ok _ _) hG6 [] Tryd.func68 rfl (by decide +kernel) (Nat.le_of_ble_eq_true (by kernel_rfl)) ?_
  iterate 20 (all_goals try (first | with_reducible refine splitI (fun h=>?_) (fun h=>?_) | with_reducible refine splitBI (fun h=>?_) (fun h=>?_) | simp (config:={ maxSteps:=1000000 }) (disch:=first | assumption | omega | (simp; done) | fail) [Tryd.results68,Int.tdiv_eq_ediv_of_nonneg,Int.tmod_eq_emod_of_nonneg, *]))
  refine WC.mono (digits_w k (by omega) hk _ _ (by simp (disch:=omega) only [gput_lt]; exact hg) (by omega)) ?_
  rintro _ ⟨nd,hnd,rfl⟩
  have hd3:nd=6:=by
    obtain ⟨q1,q2,q3,q4⟩:=hnd
    have hc:nd=3∨nd=4∨nd=5∨nd=6∨nd=7∨nd=8∨nd=9∨nd=10:=by omega
    rcases hc with rfl | rfl | rfl | rfl | rfl | rfl | rfl | rfl <;> simp at q3 q4 <;> omega
  clear hnd
  subst hd3
  iterate 20 (all_goals try (first | with_reducible refine splitI (fun h=>?_) (fun h=>?_) | with_reducible refine splitBI (fun h=>?_) (fun h=>?_) | simp (config:={ maxSteps:=1000000 }) (disch:=first | assumption | omega | (simp; done) | fail) [Tryd.results68,Int.tdiv_eq_ediv_of_nonneg,Int.tmod_eq_emod_of_nonneg, *]))
  refine WC.enterP (noO_ok _ _) hG6 pl73 Tryd.func73 rfl (by decide +kernel) (Nat.le_of_ble_eq_true (by kernel_rfl)) ?_
  iterate 20 (all_goals try (first | with_reducible refine splitI (fun h=>?_) (fun h=>?_) | with_reducible refine splitBI (fun h=>?_) (fun h=>?_) | simp (config:={ maxSteps:=1000000 }) (disch:=first | assumption | omega | (simp; done) | fail) [Tryd.results73,Int.tdiv_eq_ediv_of_nonneg,Int.tmod_eq_emod_of_nonneg, *]))
  refine LX.roundP (noO_ok _ _) hG6 pl73 (by decide +kernel) ?_
  iterate 20 (all_goals try (first | with_reducible refine splitI (fun h=>?_) (fun h=>?_) | with_reducible refine splitBI (fun h=>?_) (fun h=>?_) | simp (config:={ maxSteps:=1000000 }) (disch:=first | assumption | omega | (simp; done) | fail) [Tryd.results73,Int.tdiv_eq_ediv_of_nonneg,Int.tmod_eq_emod_of_nonneg, *]))
  refine ⟨_,⟨by_list ?_,rfl⟩,⟨Nat.le_succ _,fun b hb=>gput_lt hb⟩⟩
  rw [digL_step (by omega),digL_step (by omega),digL_step (by omega),digL_step (by omega),digL_step (by omega),digL_one (by omega)]
  simp only [List.append_assoc,List.cons_append,List.nil_append]
  exact List.cons_eq_cons.2 ⟨congrArg UInt8.ofNat (by omega),List.cons_eq_cons.2 ⟨congrArg UInt8.ofNat (by omega),List.cons_eq_cons.2 ⟨congrArg UInt8.ofNat (by omega),List.cons_eq_cons.2 ⟨congrArg UInt8.ofNat (by omega),List.cons_eq_cons.2 ⟨congrArg UInt8.ofNat (by omega),List.cons_eq_cons.2 ⟨congrArg UInt8.ofNat (by omega),rfl⟩⟩⟩⟩⟩⟩
theorem fmt_7 (k:Nat) (h0:1000000≤k) (h1:k < 10000000) (g:Nat→Option Blk) (n:Nat) (hk:k≤2147483648) (hg:g 1=some (.cells bP false 0)) (hn:1 < n) : WC 6 Tryd.prog 68 [.lit (.int .i64 k),.lit (.int .i64 10)] ⟨.fn g,n⟩ fun r=>r=.ret (.lit (.string (decB k))) ⟨.fn g,n⟩:=by
  refine WC.drop1 rfl ?_
  have e1:¬(k:Int) < 100:=by omega
  have e2:¬(k:Int) < 0:=by omega
  have SLO:=@smalls_lo
  have SHI:=@smalls_hi
  have SSZ:=smalls_size
  unfold smallsB at SLO SHI SSZ
  refine WC.enterP (noO_ok _ _) hG6 [] Tryd.func68 rfl (by decide +kernel) (Nat.le_of_ble_eq_true (by kernel_rfl)) ?_
  iterate 20 (all_goals try (first | with_reducible refine splitI (fun h=>?_) (fun h=>?_) | with_reducible refine splitBI (fun h=>?_) (fun h=>?_) | simp (config:={ maxSteps:=1000000 }) (disch:=first | assumption | omega | (simp; done) | fail) [Tryd.results68,Int.tdiv_eq_ediv_of_nonneg,Int.tmod_eq_emod_of_nonneg, *]))
  refine WC.mono (digits_w k (by omega) hk _ _ (by simp (disch:=omega) only [gput_lt]; exact hg) (by omega)) ?_
  rintro _ ⟨nd,hnd,rfl⟩
  have hd3:nd=7:=by
    obtain ⟨q1,q2,q3,q4⟩:=hnd
    have hc:nd=3∨nd=4∨nd=5∨nd=6∨nd=7∨nd=8∨nd=9∨nd=10:=by omega
    rcases hc with rfl | rfl | rfl | rfl | rfl | rfl | rfl | rfl <;> simp at q3 q4 <;> omega
  clear hnd
  subst hd3
  iterate 20 (all_goals try (first | with_reducible refine splitI (fun h=>?_) (fun h=>?_) | with_reducible refine splitBI (fun h=>?_) (fun h=>?_) | simp (config:={ maxSteps:=1000000 }) (disch:=first | assumption | omega | (simp; done) | fail) [Tryd.results68,Int.tdiv_eq_ediv_of_nonneg,Int.tmod_eq_emod_of_nonneg, *]))
  refine WC.enterP (noO_ok _ _) hG6 pl73 Tryd.func73 rfl (by decide +kernel) (Nat.le_of_ble_eq_true (by kernel_rfl)) ?_
  iterate 20 (all_goals try (first | with_reducible refine splitI (fun h=>?_) (fun h=>?_) | with_reducible refine splitBI (fun h=>?_) (fun h=>?_) | simp (config:={ maxSteps:=1000000 }) (disch:=first | assumption | omega | (simp; done) | fail) [Tryd.results73,Int.tdiv_eq_ediv_of_nonneg,Int.tmod_eq_emod_of_nonneg, *]))
  refine LX.roundP (noO_ok _ _) hG6 pl73 (by decide +kernel) ?_
  iterate 20 (all_goals try (first | with_reducible refine splitI (fun h=>?_) (fun h=>?_) | with_reducible refine splitBI (fun h=>?_) (fun h=>?_) | simp (config:={ maxSteps:=1000000 }) (disch:=first | assumption | omega | (simp; done) | fail) [Tryd.results73,Int.tdiv_eq_ediv_of_nonneg,Int.tmod_eq_emod_of_nonneg, *]))
  refine ⟨_,⟨by_list ?_,rfl⟩,⟨Nat.le_succ _,fun b hb=>gput_lt hb⟩⟩
  rw [digL_step (by omega),digL_step (by omega),digL_step (by omega),digL_step (by omega),digL_step (by omega),digL_step (by omega),digL_one (by omega)]
  simp only [List.append_assoc,List.cons_append,List.nil_append]
  exact List.cons_eq_cons.2 ⟨congrArg UInt8.ofNat (by omega),List.cons_eq_cons.2 ⟨congrArg UInt8.ofNat (by omega),List.cons_eq_cons.2 ⟨congrArg UInt8.ofNat (by omega),List.cons_eq_cons.2 ⟨congrArg UInt8.ofNat (by omega),List.cons_eq_cons.2 ⟨congrArg UInt8.ofNat (by omega),List.cons_eq_cons.2 ⟨congrArg UInt8.ofNat (by omega),List.cons_eq_cons.2 ⟨congrArg UInt8.ofNat (by omega),rfl⟩⟩⟩⟩⟩⟩⟩
theorem fmt_8 (k:Nat) (h0:10000000≤k) (h1:k < 100000000) (g:Nat→Option Blk) (n:Nat) (hk:k≤2147483648) (hg:g 1=some (.cells bP false 0)) (hn:1 < n) : WC 6 Tryd.prog 68 [.lit (.int .i64 k),.lit (.int .i64 10)] ⟨.fn g,n⟩ fun r=>r=.ret (.lit (.string (decB k))) ⟨.fn g,n⟩:=by
  refine WC.drop1 rfl ?_
  have e1:¬(k:Int) < 100:=by omega
  have e2:¬(k:Int) < 0:=by omega
  have SLO:=@smalls_lo
  have SHI:=@smalls_hi
  have SSZ:=smalls_size
  unfold smallsB at SLO SHI SSZ
  refine WC.enterP (noO_ok _ _) hG6 [] Tryd.func68 rfl (by decide +kernel) (Nat.le_of_ble_eq_true (by kernel_rfl)) ?_
  iterate 20 (all_goals try (first | with_reducible refine splitI (fun h=>?_) (fun h=>?_) | with_reducible refine splitBI (fun h=>?_) (fun h=>?_) | simp (config:={ maxSteps:=1000000 }) (disch:=first | assumption | omega | (simp; done) | fail) [Tryd.results68,Int.tdiv_eq_ediv_of_nonneg,Int.tmod_eq_emod_of_nonneg, *]))
  refine WC.mono (digits_w k (by omega) hk _ _ (by simp (disch:=omega) only [gput_lt]; exact hg) (by omega)) ?_
  rintro _ ⟨nd,hnd,rfl⟩
  have hd3:nd=8:=by
    obtain ⟨q1,q2,q3,q4⟩:=hnd
    have hc:nd=3∨nd=4∨nd=5∨nd=6∨nd=7∨nd=8∨nd=9∨nd=10:=by omega
    rcases hc with rfl | rfl | rfl | rfl | rfl | rfl | rfl | rfl <;> simp at q3 q4 <;> omega
  clear hnd
  subst hd3
  iterate 20 (all_goals try (first | with_reducible refine splitI (fun h=>?_) (fun h=>?_) | with_reducible refine splitBI (fun h=>?_) (fun h=>?_) | simp (config:={ maxSteps:=1000000 }) (disch:=first | assumption | omega | (simp; done) | fail) [Tryd.results68,Int.tdiv_eq_ediv_of_nonneg,Int.tmod_eq_emod_of_nonneg, *]))
  refine WC.enterP (noO_ok _ _) hG6 pl73 Tryd.func73 rfl (by decide +kernel) (Nat.le_of_ble_eq_true (by kernel_rfl)) ?_
  iterate 20 (all_goals try (first | with_reducible refine splitI (fun h=>?_) (fun h=>?_) | with_reducible refine splitBI (fun h=>?_) (fun h=>?_) | simp (config:={ maxSteps:=1000000 }) (disch:=first | assumption | omega | (simp; done) | fail) [Tryd.results73,Int.tdiv_eq_ediv_of_nonneg,Int.tmod_eq_emod_of_nonneg, *]))
  refine LX.roundP (noO_ok _ _) hG6 pl73 (by decide +kernel) ?_
  iterate 20 (all_goals try (first | with_reducible refine splitI (fun h=>?_) (fun h=>?_) | with_reducible refine splitBI (fun h=>?_) (fun h=>?_) | simp (config:={ maxSteps:=1000000 }) (disch:=first | assumption | omega | (simp; done) | fail) [Tryd.results73,Int.tdiv_eq_ediv_of_nonneg,Int.tmod_eq_emod_of_nonneg, *]))
  refine LX.roundP (noO_ok _ _) hG6 pl73 (by decide +kernel) ?_
  iterate 20 (all_goals try (first | with_reducible refine splitI (fun h=>?_) (fun h=>?_) | with_reducible refine splitBI (fun h=>?_) (fun h=>?_) | simp (config:={ maxSteps:=1000000 }) (disch:=first | assumption | omega | (simp; done) | fail) [Tryd.results73,Int.tdiv_eq_ediv_of_nonneg,Int.tmod_eq_emod_of_nonneg, *]))
  refine ⟨_,⟨by_list ?_,rfl⟩,⟨Nat.le_succ _,fun b hb=>gput_lt hb⟩⟩
  rw [digL_step (by omega),digL_step (by omega),digL_step (by omega),digL_step (by omega),digL_step (by omega),digL_step (by omega),digL_step (by omega),digL_one (by omega)]
  simp only [List.append_assoc,List.cons_append,List.nil_append]
  exact List.cons_eq_cons.2 ⟨congrArg UInt8.ofNat (by omega),List.cons_eq_cons.2 ⟨congrArg UInt8.ofNat (by omega),List.cons_eq_cons.2 ⟨congrArg UInt8.ofNat (by omega),List.cons_eq_cons.2 ⟨congrArg UInt8.ofNat (by omega),List.cons_eq_cons.2 ⟨congrArg UInt8.ofNat (by omega),List.cons_eq_cons.2 ⟨congrArg UInt8.ofNat (by omega),List.cons_eq_cons.2 ⟨congrArg UInt8.ofNat (by omega),List.cons_eq_cons.2 ⟨congrArg UInt8.ofNat (by omega),rfl⟩⟩⟩⟩⟩⟩⟩⟩
theorem fmt_9 (k:Nat) (h0:100000000≤k) (h1:k < 1000000000) (g:Nat→Option Blk) (n:Nat) (hk:k≤2147483648) (hg:g 1=some (.cells bP false 0)) (hn:1 < n) : WC 6 Tryd.prog 68 [.lit (.int .i64 k),.lit (.int .i64 10)] ⟨.fn g,n⟩ fun r=>r=.ret (.lit (.string (decB k))) ⟨.fn g,n⟩:=by
  refine WC.drop1 rfl ?_
  have e1:¬(k:Int) < 100:=by omega
  have e2:¬(k:Int) < 0:=by omega
  have SLO:=@smalls_lo
  have SHI:=@smalls_hi
  have SSZ:=smalls_size
  unfold smallsB at SLO SHI SSZ
  refine WC.enterP (noO_ok _ _) hG6 [] Tryd.func68 rfl (by decide +kernel) (Nat.le_of_ble_eq_true (by kernel_rfl)) ?_
  iterate 20 (all_goals try (first | with_reducible refine splitI (fun h=>?_) (fun h=>?_) | with_reducible refine splitBI (fun h=>?_) (fun h=>?_) | simp (config:={ maxSteps:=1000000 }) (disch:=first | assumption | omega | (simp; done) | fail) [Tryd.results68,Int.tdiv_eq_ediv_of_nonneg,Int.tmod_eq_emod_of_nonneg, *]))
  refine WC.mono (digits_w k (by omega) hk _ _ (by simp (disch:=omega) only [gput_lt]; exact hg) (by omega)) ?_
  rintro _ ⟨nd,hnd,rfl⟩
  have hd3:nd=9:=by
    obtain ⟨q1,q2,q3,q4⟩:=hnd
    have hc:nd=3∨nd=4∨nd=5∨nd=6∨nd=7∨nd=8∨nd=9∨nd=10:=by omega
    rcases hc with rfl | rfl | rfl | rfl | rfl | rfl | rfl | rfl <;> simp at q3 q4 <;> omega
  clear hnd
  subst hd3
  iterate 20 (all_goals try (first | with_reducible refine splitI (fun h=>?_) (fun h=>?_) | with_reducible refine splitBI (fun h=>?_) (fun h=>?_) | simp (config:={ maxSteps:=1000000 }) (disch:=first | assumption | omega | (simp; done) | fail) [Tryd.results68,Int.tdiv_eq_ediv_of_nonneg,Int.tmod_eq_emod_of_nonneg, *]))
  refine WC.enterP (noO_ok _ _) hG6 pl73 Tryd.func73 rfl (by decide +kernel) (Nat.le_of_ble_eq_true (by kernel_rfl)) ?_
  iterate 20 (all_goals try (first | with_reducible refine splitI (fun h=>?_) (fun h=>?_) | with_reducible refine splitBI (fun h=>?_) (fun h=>?_) | simp (config:={ maxSteps:=1000000 }) (disch:=first | assumption | omega | (simp; done) | fail) [Tryd.results73,Int.tdiv_eq_ediv_of_nonneg,Int.tmod_eq_emod_of_nonneg, *]))
  refine LX.roundP (noO_ok _ _) hG6 pl73 (by decide +kernel) ?_
  iterate 20 (all_goals try (first | with_reducible refine splitI (fun h=>?_) (fun h=>?_) | with_reducible refine splitBI (fun h=>?_) (fun h=>?_) | simp (config:={ maxSteps:=1000000 }) (disch:=first | assumption | omega | (simp; done) | fail) [Tryd.results73,Int.tdiv_eq_ediv_of_nonneg,Int.tmod_eq_emod_of_nonneg, *]))
  refine LX.roundP (noO_ok _ _) hG6 pl73 (by decide +kernel) ?_
  iterate 20 (all_goals try (first | with_reducible refine splitI (fun h=>?_) (fun h=>?_) | with_reducible refine splitBI (fun h=>?_) (fun h=>?_) | simp (config:={ maxSteps:=1000000 }) (disch:=first | assumption | omega | (simp; done) | fail) [Tryd.results73,Int.tdiv_eq_ediv_of_nonneg,Int.tmod_eq_emod_of_nonneg, *]))
  refine ⟨_,⟨by_list ?_,rfl⟩,⟨Nat.le_succ _,fun b hb=>gput_lt hb⟩⟩
  rw [digL_step (by omega),digL_step (by omega),digL_step (by omega),digL_step (by omega),digL_step (by omega),digL_step (by omega),digL_step (by omega),digL_step (by omega),digL_one (by omega)]
  simp only [List.append_assoc,List.cons_append,List.nil_append]
  exact List.cons_eq_cons.2 ⟨congrArg UInt8.ofNat (by omega),List.cons_eq_cons.2 ⟨congrArg UInt8.ofNat (by omega),List.cons_eq_cons.2 ⟨congrArg UInt8.ofNat (by omega),List.cons_eq_cons.2 ⟨congrArg UInt8.ofNat (by omega),List.cons_eq_cons.2 ⟨congrArg UInt8.ofNat (by omega),List.cons_eq_cons.2 ⟨congrArg UInt8.ofNat (by omega),List.cons_eq_cons.2 ⟨congrArg UInt8.ofNat (by omega),List.cons_eq_cons.2 ⟨congrArg UInt8.ofNat (by omega),List.cons_eq_cons.2 ⟨congrArg UInt8.ofNat (by omega),rfl⟩⟩⟩⟩⟩⟩⟩⟩⟩
theorem fmt_10 (k:Nat) (h0:1000000000≤k) (h1:k < 10000000000) (g:Nat→Option Blk) (n:Nat) (hk:k≤2147483648) (hg:g 1=some (.cells bP false 0)) (hn:1 < n) : WC 6 Tryd.prog 68 [.lit (.int .i64 k),.lit (.int .i64 10)] ⟨.fn g,n⟩ fun r=>r=.ret (.lit (.string (decB k))) ⟨.fn g,n⟩:=by
  refine WC.drop1 rfl ?_
  have e1:¬(k:Int) < 100:=by omega
  have e2:¬(k:Int) < 0:=by omega
  have SLO:=@smalls_lo
  have SHI:=@smalls_hi
  have SSZ:=smalls_size
  unfold smallsB at SLO SHI SSZ
  refine WC.enterP (noO_ok _ _) hG6 [] Tryd.func68 rfl (by decide +kernel) (Nat.le_of_ble_eq_true (by kernel_rfl)) ?_
  iterate 20 (all_goals try (first | with_reducible refine splitI (fun h=>?_) (fun h=>?_) | with_reducible refine splitBI (fun h=>?_) (fun h=>?_) | simp (config:={ maxSteps:=1000000 }) (disch:=first | assumption | omega | (simp; done) | fail) [Tryd.results68,Int.tdiv_eq_ediv_of_nonneg,Int.tmod_eq_emod_of_nonneg, *]))
  refine WC.mono (digits_w k (by omega) hk _ _ (by simp (disch:=omega) only [gput_lt]; exact hg) (by omega)) ?_
  rintro _ ⟨nd,hnd,rfl⟩
  have hd3:nd=10:=by
    obtain ⟨q1,q2,q3,q4⟩:=hnd
    have hc:nd=3∨nd=4∨nd=5∨nd=6∨nd=7∨nd=8∨nd=9∨nd=10:=by omega
    rcases hc with rfl | rfl | rfl | rfl | rfl | rfl | rfl | rfl <;> simp at q3 q4 <;> omega
  clear hnd
  subst hd3
  iterate 20 (all_goals try (first | with_reducible refine splitI (fun h=>?_) (fun h=>?_) | with_reducible refine splitBI (fun h=>?_) (fun h=>?_) | simp (config:={ maxSteps:=1000000 }) (disch:=first | assumption | omega | (simp; done) | fail) [Tryd.results68,Int.tdiv_eq_ediv_of_nonneg,Int.tmod_eq_emod_of_nonneg, *]))
  refine WC.enterP (noO_ok _ _) hG6 pl73 Tryd.func73 rfl (by decide +kernel) (Nat.le_of_ble_eq_true (by kernel_rfl)) ?_
  iterate 20 (all_goals try (first | with_reducible refine splitI (fun h=>?_) (fun h=>?_) | with_reducible refine splitBI (fun h=>?_) (fun h=>?_) | simp (config:={ maxSteps:=1000000 }) (disch:=first | assumption | omega | (simp; done) | fail) [Tryd.results73,Int.tdiv_eq_ediv_of_nonneg,Int.tmod_eq_emod_of_nonneg, *]))
  refine LX.roundP (noO_ok _ _) hG6 pl73 (by decide +kernel) ?_
  iterate 20 (all_goals try (first | with_reducible refine splitI (fun h=>?_) (fun h=>?_) | with_reducible refine splitBI (fun h=>?_) (fun h=>?_) | simp (config:={ maxSteps:=1000000 }) (disch:=first | assumption | omega | (simp; done) | fail) [Tryd.results73,Int.tdiv_eq_ediv_of_nonneg,Int.tmod_eq_emod_of_nonneg, *]))
  refine LX.roundP (noO_ok _ _) hG6 pl73 (by decide +kernel) ?_
  iterate 20 (all_goals try (first | with_reducible refine splitI (fun h=>?_) (fun h=>?_) | with_reducible refine splitBI (fun h=>?_) (fun h=>?_) | simp (config:={ maxSteps:=1000000 }) (disch:=first | assumption | omega | (simp; done) | fail) [Tryd.results73,Int.tdiv_eq_ediv_of_nonneg,Int.tmod_eq_emod_of_nonneg, *]))
  refine ⟨_,⟨by_list ?_,rfl⟩,⟨Nat.le_succ _,fun b hb=>gput_lt hb⟩⟩
  rw [digL_step (by omega),digL_step (by omega),digL_step (by omega),digL_step (by omega),digL_step (by omega),digL_step (by omega),digL_step (by omega),digL_step (by omega),digL_step (by omega),digL_one (by omega)]
  simp only [List.append_assoc,List.cons_append,List.nil_append]
  exact List.cons_eq_cons.2 ⟨congrArg UInt8.ofNat (by omega),List.cons_eq_cons.2 ⟨congrArg UInt8.ofNat (by omega),List.cons_eq_cons.2 ⟨congrArg UInt8.ofNat (by omega),List.cons_eq_cons.2 ⟨congrArg UInt8.ofNat (by omega),List.cons_eq_cons.2 ⟨congrArg UInt8.ofNat (by omega),List.cons_eq_cons.2 ⟨congrArg UInt8.ofNat (by omega),List.cons_eq_cons.2 ⟨congrArg UInt8.ofNat (by omega),List.cons_eq_cons.2 ⟨congrArg UInt8.ofNat (by omega),List.cons_eq_cons.2 ⟨congrArg UInt8.ofNat (by omega),List.cons_eq_cons.2 ⟨congrArg UInt8.ofNat (by omega),rfl⟩⟩⟩⟩⟩⟩⟩⟩⟩⟩
theorem fmt_w (k:Nat) (hk:k≤2147483648) (g:Nat→Option Blk) (n:Nat) (hg:g 1=some (.cells bP false 0)) (hn:1 < n) : WC 6 Tryd.prog 68 [.lit (.int .i64 k),.lit (.int .i64 10)] ⟨.fn g,n⟩ fun r=>r=.ret (.lit (.string (decB k))) ⟨.fn g,n⟩:=by
  by_cases c2:k < 100
  · have e1:(k:Int) < 100:=by omega
    refine WC.enterP (noO_ok _ _) hG6 [] Tryd.func68 rfl (by decide +kernel) (Nat.le_of_ble_eq_true (by kernel_rfl)) ?_
    iterate 12 (all_goals try (first | with_reducible refine splitI (fun h=>?_) (fun h=>?_) | with_reducible refine splitBI (fun h=>?_) (fun h=>?_) | simp (disch:=first | assumption | omega | (simp; done) | fail) [Tryd.results68, *]))
    refine WC.mono (small_w71 k c2 _) ?_
    rintro _ rfl
    iterate 12 (all_goals try (first | with_reducible refine splitI (fun h=>?_) (fun h=>?_) | with_reducible refine splitBI (fun h=>?_) (fun h=>?_) | simp (disch:=first | assumption | omega | (simp; done) | fail) [Tryd.results68, *]))
  by_cases c3:k < 1000
  · exact fmt_3 k (by omega) c3 g n hk hg hn
  by_cases c4:k < 10000
  · exact fmt_4 k (by omega) c4 g n hk hg hn
  by_cases c5:k < 100000
  · exact fmt_5 k (by omega) c5 g n hk hg hn
  by_cases c6:k < 1000000
  · exact fmt_6 k (by omega) c6 g n hk hg hn
  by_cases c7:k < 10000000
  · exact fmt_7 k (by omega) c7 g n hk hg hn
  by_cases c8:k < 100000000
  · exact fmt_8 k (by omega) c8 g n hk hg hn
  by_cases c9:k < 1000000000
  · exact fmt_9 k (by omega) c9 g n hk hg hn
  exact fmt_10 k (by omega) (by omega) g n hk hg hn
theorem itoa_ok:ItoaOK:=by
  intro k hk g n hg hn
  refine WC.enterP (noO_ok _ _) hG6 [] Tryd.func53 rfl (by decide +kernel) (Nat.le_of_ble_eq_true (by kernel_rfl)) ?_
  iterate 12 (all_goals try (first | with_reducible refine splitI (fun h=>?_) (fun h=>?_) | with_reducible refine splitBI (fun h=>?_) (fun h=>?_) | simp (disch:=first | assumption | omega | (simp; done) | fail) [Tryd.results53, *]))
  refine WC.enterP (noO_ok _ _) hG6 [] Tryd.func64 rfl (by decide +kernel) (Nat.le_of_ble_eq_true (by kernel_rfl)) ?_
  iterate 12 (all_goals try (first | with_reducible refine splitI (fun h=>?_) (fun h=>?_) | with_reducible refine splitBI (fun h=>?_) (fun h=>?_) | simp (disch:=first | assumption | omega | (simp; done) | fail) [Tryd.results64, *]))
  refine WC.mono (fmt_w k hk g n hg hn) ?_
  rintro _ rfl
  iterate 12 (all_goals try (first | with_reducible refine splitI (fun h=>?_) (fun h=>?_) | with_reducible refine splitBI (fun h=>?_) (fun h=>?_) | simp (disch:=first | assumption | omega | (simp; done) | fail) [Tryd.results64, *]))
end Go.Ai
end
section
namespace Go.Ai
open Go.Proofs
set_option maxRecDepth 10000
set_option maxHeartbeats 4000000
theorem varsM_short:∀ (l:List VarM) (seen:List ByteArray),varsM seen l=true→shortV l
  | [],_,_=>fun v hv=>by cases hv
  | x :: l,seen,h=>by
    simp only [varsM,Bool.and_eq_true] at h
    intro v hv
    rcases List.mem_cons.1 hv with rfl | hv
    · have h1:=h.1.1
      simp only [VarM.ok,namedM,Bool.and_eq_true,decide_eq_true_eq] at h1
      have:=h1.1.1.1.1.1.1.2
      omega
    · exact varsM_short l _ h.2 v hv
theorem checkVars_short {vs:List VarM} (h:checkVarsM vs=0) : shortV vs:=by
  unfold checkVarsM at h
  split at h
  · omega
  · split at h
    · rename_i h2; exact varsM_short vs [] h2
    · omega
theorem checkM_vars {vs:List VarM} {x:NodeM} (h:checkM vs x=0) : checkVarsM vs=0:=by
  unfold checkM at h
  split at h
  · rename_i h1; exact absurd h h1
  · rename_i h1; simpa using h1
theorem rank_pos (op:Nat) : ¬rankM op < 0:=by
  unfold rankM
  repeat' split
  all_goals omega
def textTop (vs:List VarM) (x:NodeM) : ByteArray×Int:=if checkM vs x≠0 then (⟨#[]⟩,checkM vs x) else (textM vs x,0)
theorem Text_w (vs:List VarM) (x:NodeM) (g:Nat→Option Blk) (n:Nat) (sv:AV) (cs:List AV) (hg:g 0=some opsB) (hgp:g 1=some (.cells bP false 0)) (hn0:1 < n) (hsv:SliceV g n sv vs.length (vs.flatMap VarM.cells)) (hn:vs.length≤1000000) (hx:sizeN x≤1000000) (hrep:repN g n x cs) :
    WC 6 Tryd.prog 11 [sv,.agg cs] ⟨.fn g,n⟩ fun r=>r=.ret (.tup [.lit (.string (textTop vs x).1),.lit (.int .i64 (textTop vs x).2)]) ⟨.fn g,n⟩:=by
  refine WC.drop1 rfl ?_
  generalize hret:textTop vs x=ret
  have HRET:=Hide.mk hret
  clear hret
  obtain ⟨k2,sv2,hcy,h1c,hop2⟩:=repN_op hrep
  subst hcy
  have h1a:allOne [.lit (.int .u8 x.op),.lit (.int .i64 k2),sv2]=true:=by simp [h1c]
  have HSV:=Hide.mk hsv
  have HREP:=Hide.mk hrep
  clear hsv hrep
  refine WC.enterP (noO_ok _ _) hG6 [] Tryd.func11 rfl (by decide +kernel) (Nat.le_of_ble_eq_true (by kernel_rfl)) ?_
  iterate 12 (all_goals try (first | with_reducible refine splitI (fun h=>?_) (fun h=>?_) | with_reducible refine splitBI (fun h=>?_) (fun h=>?_) | simp (disch:=first | assumption | omega | (simp; done) | fail) [Tryd.results11, *]))
  refine WC.mono (check_w vs x _ _ _ _ (by simp (disch:=omega) only [gput_lt]; exact hg) (by omega) (HSV.out.mono (by omega) (fun a ha=>by simp (disch:=omega) only [gput_lt])) hn hx (repN_mono (by omega) (fun a ha=>by simp (disch:=omega) only [gput_lt]) HREP.out)) ?_
  rintro _ rfl
  by_cases hck:checkM vs x=0
  · have hr:ret=(textM vs x,0):=by rw [← HRET.out,textTop,if_neg (by rw [hck]; simp)]
    have hsh:=checkM_ok hck
    have hshort:=checkVars_short (checkM_vars hck)
    rw [hck]
    have HW:=Hide.mk (fun g n h1 h2 h3 h4 h5=>write_w itoa_ok vs hshort hn 1000000 (Nat.le_refl _) x hx g n sv [.lit (.int .u8 x.op),.lit (.int .i64 k2),sv2] 0 h1 h2 h3 h4 h5 hsh)
    have hp:parM (textM vs x) (rankM x.op) 0=textM vs x:=by unfold parM; rw [if_neg (rank_pos x.op)]
    rw [hp] at HW
    subst hr
    clear hck hp hsh hshort HRET
    iterate 12 (all_goals try (first | with_reducible refine splitI (fun h=>?_) (fun h=>?_) | with_reducible refine splitBI (fun h=>?_) (fun h=>?_) | simp (disch:=first | assumption | omega | (simp; done) | fail) [Tryd.results11, *]))
    refine WC.mono (HW.out _ _ (by simp (disch:=omega) only [gput_lt]; exact hg) (by simp (disch:=omega) only [gput_lt]; exact hgp) (by omega) (repN_mono (by omega) (fun a ha=>by simp (disch:=omega) only [gput_lt]) HREP.out) (HSV.out.mono (by omega) (fun a ha=>by simp (disch:=omega) only [gput_lt]))) ?_
    rintro _ rfl
    iterate 12 (all_goals try (first | with_reducible refine splitI (fun h=>?_) (fun h=>?_) | with_reducible refine splitBI (fun h=>?_) (fun h=>?_) | simp (disch:=first | assumption | omega | (simp; done) | fail) [Tryd.results11, *]))
    all_goals exact ⟨Nat.le_succ _,fun b hb=>gput_lt hb⟩
  · have hr:ret=(⟨#[]⟩,checkM vs x):=by rw [← HRET.out,textTop,if_pos hck]
    generalize checkM vs x=ck at hck hr
    subst hr
    iterate 12 (all_goals try (first | with_reducible refine splitI (fun h=>?_) (fun h=>?_) | with_reducible refine splitBI (fun h=>?_) (fun h=>?_) | simp (disch:=first | assumption | omega | (simp; done) | fail) [Tryd.results11, *]))
    all_goals exact ⟨Nat.le_succ _,fun b hb=>gput_lt hb⟩
end Go.Ai
end
