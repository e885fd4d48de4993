/- A small verified interpreter over names, its proofs, and what was proved with it. No condition. -/
import Derived.Test.YtiddfilinnbhaaaGreatDoorA11
set_option linter.all false
set_option linter.deprecated false
section
namespace Go.Ai
open Go.Proofs
set_option maxRecDepth 10000
set_option maxHeartbeats 40000000
theorem rAgainst_w {M:MachM} (hM:M.ok) {O:Int} {ts:List (List Int×List Int)} (hL:LogOK M.inp O ts) (g:Nat→Option Blk) (n:Nat) (ms:List AV) (sv:AV) (hr:RepM g n M ms) (hT:LogR g n ts sv) :
  WC 3 Tryz.prog 23 [.agg ms,.agg [.lit (.int .i64 M.inp),.lit (.int .i64 O),sv]] ⟨.fn g,n⟩ fun r=>∃ gX n',r=.ret (.tup [.agg [.lit (.int .i64 (devP (devF M ts 0)).1),.lit (.int .i64 (devP (devF M ts 0)).2)],.lit (.bool (devF M ts 0).isSome)]) ⟨.fn gX,n'⟩∧n≤n'∧∀ b,b < n→gX b=g b:=by
 have hlen:=@lenV Tryz.prog _ _ _ _ _ hT.choose_spec.1
 have h1s:=hT.choose_spec.1.one
 have hone:allOne [.lit (.int .i64 M.inp),.lit (.int .i64 O),sv]=true:=by simp [h1s]
 obtain ⟨rv,rfl,h1v⟩:=hr.one
 have honem:allOne [.lit (.int .i64 M.inp),.lit (.int .i64 M.out),rv]=true:=by simp [h1v]
 have HR:=Hide.mk hr
 have HT:=Hide.mk hT
 have HL:=Hide.mk hL
 have HM:=Hide.mk hM
 have htl:=hL.len
 clear hr hT hL hM
 obtain ⟨D,hD⟩ : ∃ D,D=devF M ts 0:=⟨_,rfl⟩
 rw [← hD]
 have HD:=Hide.mk hD
 clear hD
 refine WC.enterP (noO_ok _ _) hG pl23 Tryz.func23 rfl (by decide +kernel) (Nat.le_of_ble_eq_true (by kernel_rfl)) ?_
 iterate 8 (all_goals try (first | with_reducible refine splitI (fun h=>?_) (fun h=>?_) | with_reducible refine splitBI (fun h=>?_) (fun h=>?_) | simp (config:={ maxSteps:=1000000 }) (disch:=first | assumption | omega | (simp; done) | fail) [Tryz.results23, *]))
 refine LX.ind (fun m gf H'=>∃ (k n' : Nat) (gL:Nat→Option Blk),k≤ts.length∧m=ts.length - k∧H'=⟨.fn gL,n'⟩∧n+1+1+1≤n'∧Hide (∀ b,b < n→gL b=g b)∧gL n=some (.cells [.lit (.int .i64 M.inp),.lit (.int .i64 M.out),rv] true 0)∧gL (n+1)=some (.cells [.lit (.int .i64 M.inp),.lit (.int .i64 O),sv] true 0)∧gL (n+1+1)=some (.cells [.lit (.int .i64 0),.lit (.int .i64 0)] true 0) ∧
  Hide (D=devF M (ts.drop k) k)∧gf 2=some (.ptr n 0)∧gf 3=some (.ptr (n+1) 0)∧gf 4=some (.ptr (n+1+1) 0)∧gf 6=some (.lit (.int .i64 k))) (m0:=ts.length) ?_ ?_
 ·refine ⟨0,_,_,Nat.zero_le _,rfl,rfl,Nat.le_refl _,⟨fun b hb=>?_⟩,?_,?_,gput_eq,⟨HD.out⟩,by simp,by simp,by simp,by simp⟩
  ·simp (disch:=omega) only [gput_lt]
  ·simp (disch:=omega) only [gput_lt,gput_eq]
  ·simp (disch:=omega) only [gput_lt,gput_eq]
 rintro m gf H' ⟨k,n',gL,hk,rfl,rfl,hn',HG,hgn,hgl,hgp,HP,w2,w3,w4,w6⟩ ih
 refine LX.roundP (noO_ok _ _) hG pl23 (by decide +kernel) ?_
 by_cases hlt:k < ts.length
 ·have hltI:(k:Int) < (ts.length:Int):=by omega
  obtain ⟨a2,off,s1,s2,HAT0⟩:=(HT.out.mono (show n≤n' by omega) HG.out).at hlt
  have HAT:=Hide.mk HAT0
  clear HAT0
  have hia:∀ {H:Mem} {ev:Ev} {o:Oper} {ty:TypeId},iaS Tryz.prog H ev o ty (some (none,2)) (some sv) (some (.lit (.int .i64 (k:Int))))=.val (.ptr a2 (off+k * 2)) H:=fun {H ev o ty}=>HAT.out.ia
  have han:a2 < n':=HAT.out.an
  have hc0:=HAT.out.c0
  have HLN:=Hide.mk (HL.out.lens (List.getElem_mem hlt))
  have hw12:=HL.out.wl _ (List.getElem_mem hlt)
  have HDE:=Hide.mk (HP.out.trans (devF_at hlt))
  have HR1:=Hide.mk HAT.out.r1
  have HR2:=Hide.mk HAT.out.r2
  have HC1:=Hide.mk HAT.out.c1
  clear HAT
  generalize ts[k]=t at *
  have HRN:=Hide.mk fun (gX:Nat→Option Blk) (n2:Nat) (hn:n'≤n2) (hX:∀ b,b < n'→gX b=gL b)=>rRun_w HM.out t.1 (by omega) HLN.out.2.1 gX n2 [.lit (.int .i64 M.inp),.lit (.int .i64 M.out),rv] s1 (HR.out.mono (by omega) fun b hb=>(hX b (by omega)).trans (HG.out b hb)) (SliceV.mono hn hX HR1.out)
  iterate 8 (all_goals try (first | with_reducible refine splitI (fun h=>?_) (fun h=>?_) | with_reducible refine splitBI (fun h=>?_) (fun h=>?_) | simp (config:={ maxSteps:=1000000 }) (disch:=first | assumption | omega | (simp; done) | fail) [Tryz.results23, *]))
  refine WC.mono (HRN.out _ _ (by omega) fun b hb=>by first | rfl | simp (disch:=omega) only [gput_lt]) ?_
  rintro _ ⟨zv,g2,n2,rfl,hn2,hg2,hfw⟩
  have HG2:=Hide.mk hg2
  have hrl:(runM M 0 t.1).length=t.1.length:=runM_len _ _
  have HRW:=Hide.mk hfw.rep
  have hlenZ:=@lenV Tryz.prog _ _ _ _ _ hfw.rep
  rw [hrl] at hlenZ
  have hgn2:=(hg2 n (by omega)).trans hgn
  have hgl2:=(hg2 (n+1) (by omega)).trans hgl
  have hgp2:=(hg2 (n+1+1) (by omega)).trans hgp
  have HR2':=Hide.mk (SliceV.mono hn2 HG2.out HR2.out)
  have hc1:loadB (some (false,1)) (g2 a2) (off+k * 2+1)=some s2:=(congrArg (fun z=>loadB (some (false,1)) z (off+k * 2+1)) (hg2 a2 han)).trans HC1.out
  clear hg2 HRN hgn hgp hgl hc0 hfw
  have hl2:=HLN.out.1
  generalize runM M 0 t.1=R at *
  iterate 8 (all_goals try (first | with_reducible refine splitI (fun h=>?_) (fun h=>?_) | with_reducible refine splitBI (fun h=>?_) (fun h=>?_) | simp (config:={ maxSteps:=1000000 }) (disch:=first | assumption | omega | (simp; done) | fail) [Tryz.results23, *]))
  refine LX.ind (fun m gf H'=>∃ (j:Nat),j≤t.1.length∧m=t.1.length - j∧H'=⟨.fn g2,n2⟩∧Hide (neAt R t.2 0=neAt (R.drop j) (t.2.drop j) j)∧gf 2=some (.ptr n 0)∧gf 3=some (.ptr (n+1) 0)∧gf 4=some (.ptr (n+1+1) 0)∧gf 6=some (.lit (.int .i64 k)) ∧
   gf 7=some zv∧gf 8=some (.lit (.int .i64 j))) (m0:=t.1.length) ?_ ?_
  ·exact ⟨0,Nat.zero_le _,rfl,rfl,⟨rfl⟩,by simp [*],by simp [*],by simp [*],by simp [*],by simp,by simp⟩
  clear w2 w3 w4 w6
  rintro m gf H' ⟨j,hj,rfl,rfl,HNE,w2,w3,w4,w6,w7,w8⟩ ih2
  refine LX.roundP (noO_ok _ _) hG pl23 (by decide +kernel) ?_
  by_cases hltj:j < t.1.length
  ·have hltjI:(j:Int) < (t.1.length:Int):=by omega
   obtain ⟨a3,o3,ha3,hia3,hc3⟩:=RepW.at (w:=R) HRW.out (by omega:j < R.length)
   obtain ⟨a4,o4,ha4,hia4,hc4⟩:=RepW.at HR2'.out (by omega:j < t.2.length)
   have HNA:=Hide.mk (HNE.out.trans (neAt_at (a:=R) (b:=t.2) (by omega) (by omega)))
   generalize R[j]=x at *
   generalize t.2[j]=y at *
   by_cases hxy:x=y
   ·rw [if_pos hxy] at HNA
    subst hxy
    iterate 8 (all_goals try (first | with_reducible refine splitI (fun h=>?_) (fun h=>?_) | with_reducible refine splitBI (fun h=>?_) (fun h=>?_) | simp (config:={ maxSteps:=1000000 }) (disch:=first | assumption | omega | (simp; done) | fail) [Tryz.results23, *]))
    exact ih2.out (t.1.length - (j+1)) _ _ (by omega) ⟨j+1,by omega,rfl,rfl,HNA,by simp [*],by simp [*],by simp [*],by simp [*],by simp [*],by simp⟩
   ·rw [if_neg hxy] at HNA
    have hDE:=HDE.out
    rw [HNA.out] at hDE
    have hDE2:D=some (k,j):=hDE
    clear hDE HDE HD HP
    subst hDE2
    iterate 8 (all_goals try (first | with_reducible refine splitI (fun h=>?_) (fun h=>?_) | with_reducible refine splitBI (fun h=>?_) (fun h=>?_) | simp (config:={ maxSteps:=1000000 }) (disch:=first | assumption | omega | (simp; done) | fail) [Tryz.results23, *]))
    refine ⟨_,_,⟨⟨rfl,rfl⟩,rfl,rfl⟩,by omega,fun b hb=>?_⟩
    simp (disch:=omega) only [gput_lt]
    exact (HG2.out b (by omega)).trans (HG.out b hb)
  ·have hltjI:¬(j:Int) < (t.1.length:Int):=by omega
   have hNN:=HNE.out.trans (neAt_end (by omega))
   have hDE:=HDE.out
   rw [hNN] at hDE
   have HDN:Hide (D=devF M (ts.drop (k+1)) (k+1)):=⟨hDE⟩
   clear hDE hNN
   iterate 8 (all_goals try (first | with_reducible refine splitI (fun h=>?_) (fun h=>?_) | with_reducible refine splitBI (fun h=>?_) (fun h=>?_) | simp (config:={ maxSteps:=1000000 }) (disch:=first | assumption | omega | (simp; done) | fail) [Tryz.results23, *]))
   refine ih.out (ts.length - (k+1)) _ _ (by omega) ⟨k+1,n2,g2,by omega,rfl,rfl,by omega,⟨fun b hb=>(HG2.out b (by omega)).trans (HG.out b hb)⟩,hgn2,hgl2,hgp2,HDN,by simp [*],by simp [*],by simp [*],by simp⟩
 ·have hltI:¬(k:Int) < (ts.length:Int):=by omega
  have hDE:D=none:=by rw [HP.out,List.drop_eq_nil_of_le (by omega)]; rfl
  clear HP HD
  subst hDE
  iterate 8 (all_goals try (first | with_reducible refine splitI (fun h=>?_) (fun h=>?_) | with_reducible refine splitBI (fun h=>?_) (fun h=>?_) | simp (config:={ maxSteps:=1000000 }) (disch:=first | assumption | omega | (simp; done) | fail) [Tryz.results23, *]))
  refine ⟨_,_,⟨⟨rfl,rfl⟩,rfl,rfl⟩,by omega,fun b hb=>?_⟩
  simp (disch:=omega) only [gput_lt]
  exact HG.out b hb
end Go.Ai
end
section
namespace Go.Ai
open Go.Proofs
set_option maxRecDepth 10000
set_option maxHeartbeats 40000000
end Go.Ai
end
section
namespace Go.Ai
open Go.Proofs
set_option maxRecDepth 10000
set_option maxHeartbeats 40000000
theorem stood33:Tryz.prog.stoodInHeld 33=false:=by kernel_rfl
theorem eq_key (nm : String) (u v : Int) (m1 m2 : Sem Value) (hn : nm ≠ "_") (h1 : pureV Tryz.prog m1 = some (.int .i64 u)) (h2 : pureV Tryz.prog m2 = some (.int .i64 v)) :
      pureV Tryz.prog (if nm ≠ "_" then do
        let x ← m1
        let y ← m2
        let z ← Op.equalIn (9998+1) 3 x y
        if (!z)=true then pure (ForInStep.done (some false,())) else pure (ForInStep.yield ((none:Option Bool),()))
      else pure (ForInStep.yield (none,())))=some (if (u == v)=true then ForInStep.yield (none,()) else ForInStep.done (some false,())):=by
  rw [if_pos hn]
  refine (pureV_then h1).trans ((pureV_then h2).trans ((pureV_then (equal_int Tryz.underlying3)).trans ?_))
  cases (u == v) <;> rfl
theorem equal_place (a b c d:Int) : pureV Tryz.prog (Op.equal 33 (.agg #[.int .i64 a,.int .i64 b]) (.agg #[.int .i64 c,.int .i64 d]))=some (a == c && b == d):=by
 unfold Op.equal
 show pureV Tryz.prog (Op.equalIn (9998+1+1) 33 _ _)=_
 rw [Op.equalIn]
 refine (pureV_then (m:=underlying 33) (pureV_underlying Tryz.underlying33)).trans ?_
 dsimp only
 refine (pureV_then (m:=program) (a:=Tryz.prog) rfl).trans ?_
 rw [if_neg (by rw [stood33]; decide)]
 have p0:∀ x y:Int,pureV Tryz.prog (part 3 #[Value.int IntKind.i64 x,Value.int IntKind.i64 y] 0)=some (.int .i64 x):=fun x y=>rfl
 have p1:∀ x y:Int,pureV Tryz.prog (part 3 #[Value.int IntKind.i64 x,Value.int IntKind.i64 y] 1)=some (.int .i64 y):=fun x y=>rfl
 simp only [List.forIn_toArray,List.forIn_cons,List.forIn_nil]
 refine (pureV_then (a:=if (a == c && b == d)=true then ((none:Option Bool),()) else (some false,())) ?_).trans ?_
 ·refine (pureV_then (eq_key "Trace" a c _ _ (by decide) (p0 a b) (p0 c d))).trans ?_
  cases (a == c)
  ·rfl
  ·refine (pureV_then (eq_key "Step" b d _ _ (by decide) (p1 a b) (p1 c d))).trans ?_
   cases (b == d) <;> rfl
 ·cases (a == c) <;> cases (b == d) <;> rfl
theorem bin_place {H:Mem} {ev:Ev} {d:Option Tmp} {ty rt:TypeId} {p:String} {af:Array Edge} {g:Option (Nat×Bool)} {x y:Operand} {a b a' b' : Int} (hx:ev x=some (.agg [.lit (.int .i64 a),.lit (.int .i64 b)])) (hy:ev y=some (.agg [.lit (.int .i64 a'),.lit (.int .i64 b')])) :
  binS Tryz.prog H ev ⟨d,.binOp .eql 33 x y rt,ty,p,af,g⟩ .eql 33 (some (.agg [.lit (.int .i64 a),.lit (.int .i64 b)])) (some (.agg [.lit (.int .i64 a'),.lit (.int .i64 b')]))=.val (.lit (.bool (decide (a=a') && decide (b=b')))) H:=by
 show oBin Tryz.prog H ev ⟨d,.binOp .eql 33 x y rt,ty,p,af,g⟩ .eql 33 (some (.agg [.lit (.int .i64 a),.lit (.int .i64 b)])) (some (.agg [.lit (.int .i64 a'),.lit (.int .i64 b')]))=_
 refine oBin_generic rfl ?_
 have h1:(Op.operands (.binOp .eql 33 x y rt)).toList=[x,y]:=rfl
 unfold generic
 dsimp only
 rw [h1]
 have l1:toLit (.agg [.lit (.int .i64 a),.lit (.int .i64 b)])=some (.agg #[.int .i64 a,.int .i64 b]):=rfl
 have l2:toLit (.agg [.lit (.int .i64 a'),.lit (.int .i64 b')])=some (.agg #[.int .i64 a',.int .i64 b']):=rfl
 simp only [List.all_cons,List.all_nil,hx,hy,l1,l2,Bool.and_true,if_true]
 have h2:∀ ρ:Operand→Value,ρ x=.agg #[.int .i64 a,.int .i64 b]→ρ y=.agg #[.int .i64 a',.int .i64 b']→pureV Tryz.prog (execOp ρ ⟨d,.binOp .eql 33 x y rt,ty,p,af,g⟩)=some (.value (.bool (decide (a=a') && decide (b=b')))):=by
  intro ρ e1 e2
  refine execOp_bin e1 e2 ?_ ?_
  ·unfold eqGuard; kernel_rfl
  ·show pureV Tryz.prog (do pure (Value.bool (← Op.equal 33 _ _)))=_
   exact (pureV_then (equal_place a b a' b')).trans rfl
 rw [h2 _ (by simp only [hx,l1]) (by simp only [hy,l2])]
theorem bin_placeN {H:Mem} {ev:Ev} {d:Option Tmp} {ty rt:TypeId} {p:String} {af:Array Edge} {g:Option (Nat×Bool)} {x y:Operand} {a b a' b' : Int} (hx:ev x=some (.agg [.lit (.int .i64 a),.lit (.int .i64 b)])) (hy:ev y=some (.agg [.lit (.int .i64 a'),.lit (.int .i64 b')])) :
  binS Tryz.prog H ev ⟨d,.binOp .neq 33 x y rt,ty,p,af,g⟩ .neq 33 (some (.agg [.lit (.int .i64 a),.lit (.int .i64 b)])) (some (.agg [.lit (.int .i64 a'),.lit (.int .i64 b')]))=.val (.lit (.bool (!(decide (a=a') && decide (b=b'))))) H:=by
 show oBin Tryz.prog H ev ⟨d,.binOp .neq 33 x y rt,ty,p,af,g⟩ .neq 33 (some (.agg [.lit (.int .i64 a),.lit (.int .i64 b)])) (some (.agg [.lit (.int .i64 a'),.lit (.int .i64 b')]))=_
 refine oBin_generic rfl ?_
 have h1:(Op.operands (.binOp .neq 33 x y rt)).toList=[x,y]:=rfl
 unfold generic
 dsimp only
 rw [h1]
 have l1:toLit (.agg [.lit (.int .i64 a),.lit (.int .i64 b)])=some (.agg #[.int .i64 a,.int .i64 b]):=rfl
 have l2:toLit (.agg [.lit (.int .i64 a'),.lit (.int .i64 b')])=some (.agg #[.int .i64 a',.int .i64 b']):=rfl
 simp only [List.all_cons,List.all_nil,hx,hy,l1,l2,Bool.and_true,if_true]
 have h2:∀ ρ:Operand→Value,ρ x=.agg #[.int .i64 a,.int .i64 b]→ρ y=.agg #[.int .i64 a',.int .i64 b']→pureV Tryz.prog (execOp ρ ⟨d,.binOp .neq 33 x y rt,ty,p,af,g⟩)=some (.value (.bool (!(decide (a=a') && decide (b=b'))))):=by
  intro ρ e1 e2
  refine execOp_bin e1 e2 ?_ ?_
  ·unfold eqGuard; kernel_rfl
  ·show pureV Tryz.prog (do pure (Value.bool (!(← Op.equal 33 _ _))))=_
   exact (pureV_then (equal_place a b a' b')).trans rfl
 rw [h2 _ (by simp only [hx,l1]) (by simp only [hy,l2])]
attribute [simp] bin_place bin_placeN
theorem Against_alpha {M:MachM} (hM:M.ok) {I O:Int} {ts:List (List Int×List Int)} (hL:LogOK I O ts) (hI:¬M.inp=I) (g:Nat→Option Blk) (n:Nat) (ms:List AV) (sv:AV) (hr:RepM g n M ms) (hT:LogR g n ts sv) :
  WC 3 Tryz.prog 17 [.agg ms,.agg [.lit (.int .i64 I),.lit (.int .i64 O),sv]] ⟨.fn g,n⟩ fun r=>∃ gX n',r=.ret (.tup [.agg [.lit (.int .i64 0),.lit (.int .i64 0)],.lit (.bool false),.lit (.int .i64 5)]) ⟨.fn gX,n'⟩∧n≤n'∧∀ b,b < n→gX b=g b:=by
 have h1s:=hT.choose_spec.1.one
 have hone:allOne [.lit (.int .i64 I),.lit (.int .i64 O),sv]=true:=by simp [h1s]
 have hm0:mErr M=0:=mErr_ok.2 hM
 have HMC:=Hide.mk fun (gX:Nat→Option Blk) (n2:Nat) (hn:n≤n2) (hX:∀ b,b < n→gX b=g b)=>mCheck_w (M:=M) (fun r hr=>by have:=(hM.2.2.2.2.2.2 r hr).1; have:=hM.2.1; omega) gX n2 ms (hr.mono hn hX)
 rw [hm0] at HMC
 have HCK:=Hide.mk fun (gX:Nat→Option Blk) (n2:Nat) (hn:n≤n2) (hX:∀ b,b < n→gX b=g b)=>Check_w I O ts hL.small gX n2 sv (hT.mono hn hX)
 rw [hL.err] at HCK
 obtain ⟨rv,rfl,h1v⟩:=hr.one
 have honem:allOne [.lit (.int .i64 M.inp),.lit (.int .i64 M.out),rv]=true:=by simp [h1v]
 clear hr hT hL hM hm0
 refine WC.enterP (noO_ok _ _) hG [] Tryz.func17 rfl (by decide +kernel) (Nat.le_of_ble_eq_true (by kernel_rfl)) ?_
 iterate 8 (all_goals try (first | with_reducible refine splitI (fun h=>?_) (fun h=>?_) | with_reducible refine splitBI (fun h=>?_) (fun h=>?_) | simp (config:={ maxSteps:=1000000 }) (disch:=first | assumption | omega | (simp; done) | fail) [Tryz.results17, *]))
 refine WC.mono (HMC.out _ _ (by omega) fun b (hb:b < n)=>by simp (disch:=omega) only [gput_lt]) ?_
 rintro _ rfl
 iterate 8 (all_goals try (first | with_reducible refine splitI (fun h=>?_) (fun h=>?_) | with_reducible refine splitBI (fun h=>?_) (fun h=>?_) | simp (config:={ maxSteps:=1000000 }) (disch:=first | assumption | omega | (simp; done) | fail) [Tryz.results17, *]))
 refine WC.mono (HCK.out _ _ (by omega) fun b (hb:b < n)=>by simp (disch:=omega) only [gput_lt]) ?_
 rintro _ rfl
 iterate 8 (all_goals try (first | with_reducible refine splitI (fun h=>?_) (fun h=>?_) | with_reducible refine splitBI (fun h=>?_) (fun h=>?_) | simp (config:={ maxSteps:=1000000 }) (disch:=first | assumption | omega | (simp; done) | fail) [Tryz.results17, *]))
 refine ⟨_,_,⟨rfl,rfl⟩,by omega,fun b hb=>?_⟩
 simp (disch:=omega) only [gput_lt]
theorem devP_ex (D:Option (Nat×Nat)) : ∃ a b:Int,devP D=(a,b):=⟨_,_,rfl⟩
end Go.Ai
end
