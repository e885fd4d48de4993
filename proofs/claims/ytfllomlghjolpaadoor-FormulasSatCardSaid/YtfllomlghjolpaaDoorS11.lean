/- A small verified interpreter over names, its proofs, and what was proved with it. No condition. -/
import Derived.Shelf.Strconv.AtoiAll
import Derived.Shelf.Strconv.Itoa3
import Derived.Test.YtfllomlghjolpaaDoorProg
import Derived.Test.YtfllomlghjolpaaDoorS08
import Derived.Test.YtfllomlghjolpaaDoorS06
import Derived.Test.YtfllomlghjolpaaDoorS07
import Derived.Test.YtfllomlghjolpaaDoorS10
import Derived.Test.YtfllomlghjolpaaDoorS09
set_option linter.all false
set_option linter.deprecated false
section
namespace Go.Ai
open Go.Proofs
set_option maxRecDepth 10000
set_option maxHeartbeats 40000000
theorem stood70:Tryd.prog.stoodInHeld 70=false:=by kernel_rfl
theorem equal_int {P:Program} {d:Nat} {t:TypeId} {k:IntKind} {a b:Int} (ht:P.underlying t=some (.int k)) : pureV P (Op.equalIn (d+1) t (.int k a) (.int k b))=some (a == b):=by
  unfold Op.equalIn
  refine (pureV_then (m:=underlying t) (pureV_underlying ht)).trans ?_
  dsimp only
  rw [if_pos rfl]
  rfl
theorem equal_edge (a b c d:Int) : pureV Tryd.prog (Op.equal 70 (.agg #[.int .i64 a,.int .i64 b]) (.agg #[.int .i64 c,.int .i64 d]))=some (a == c && b == d):=by
  unfold Op.equal
  show pureV Tryd.prog (Op.equalIn (9998+1+1) 70 _ _)=_
  rw [Op.equalIn]
  refine (pureV_then (m:=underlying 70) (pureV_underlying Tryd.underlying70)).trans ?_
  dsimp only
  refine (pureV_then (m:=program) (a:=Tryd.prog) rfl).trans ?_
  rw [if_neg (by rw [stood70]; decide)]
  have p0:∀ x y:Int,pureV Tryd.prog (part 3 #[Value.int IntKind.i64 x,Value.int IntKind.i64 y] 0)=some (.int .i64 x):=fun x y=>rfl
  have p1:∀ x y:Int,pureV Tryd.prog (part 3 #[Value.int IntKind.i64 x,Value.int IntKind.i64 y] 1)=some (.int .i64 y):=fun x y=>rfl
  simp only [List.forIn_toArray,List.forIn_cons,List.forIn_nil]
  have key:∀ (nm:String) (u v:Int) (m1 m2:Sem Value),nm ≠ "_"→pureV Tryd.prog m1=some (.int .i64 u)→pureV Tryd.prog m2=some (.int .i64 v) →
      pureV Tryd.prog (if nm ≠ "_" then do
        let x ← m1
        let y ← m2
        let z ← Op.equalIn (9998+1) 3 x y
        if (!z)=true then pure (ForInStep.done (some false,())) else pure (ForInStep.yield ((none:Option Bool),()))
      else pure (ForInStep.yield (none,())))=some (if (u == v)=true then ForInStep.yield (none,()) else ForInStep.done (some false,())):=by
    intro nm u v m1 m2 hn h1 h2
    rw [if_pos hn]
    refine (pureV_then h1).trans ((pureV_then h2).trans ((pureV_then (equal_int Tryd.underlying3)).trans ?_))
    cases (u == v) <;> rfl
  refine (pureV_then (a:=if (a == c && b == d)=true then ((none:Option Bool),()) else (some false,())) ?_).trans ?_
  · refine (pureV_then (key "To" a c _ _ (by decide) (p0 a b) (p0 c d))).trans ?_
    cases (a == c)
    · rfl
    · refine (pureV_then (key "Out" b d _ _ (by decide) (p1 a b) (p1 c d))).trans ?_
      cases (b == d) <;> rfl
  · cases (a == c) <;> cases (b == d) <;> rfl
theorem bin_edge {H:Mem} {ev:Ev} {d:Option Tmp} {ty rt:TypeId} {p:String} {af:Array Edge} {g:Option (Nat×Bool)} {x y:Operand} {a b a' b' : Int} (hx:ev x=some (.agg [.lit (.int .i64 a),.lit (.int .i64 b)])) (hy:ev y=some (.agg [.lit (.int .i64 a'),.lit (.int .i64 b')])) :
    binS Tryd.prog H ev ⟨d,.binOp .eql 70 x y rt,ty,p,af,g⟩ .eql 70 (some (.agg [.lit (.int .i64 a),.lit (.int .i64 b)])) (some (.agg [.lit (.int .i64 a'),.lit (.int .i64 b')]))=.val (.lit (.bool (decide (a=a') && decide (b=b')))) H:=by
  show oBin Tryd.prog H ev ⟨d,.binOp .eql 70 x y rt,ty,p,af,g⟩ .eql 70 (some (.agg [.lit (.int .i64 a),.lit (.int .i64 b)])) (some (.agg [.lit (.int .i64 a'),.lit (.int .i64 b')]))=_
  refine oBin_generic rfl ?_
  have h1:(Op.operands (.binOp .eql 70 x y rt)).toList=[x,y]:=rfl
  unfold generic
  dsimp only
  rw [h1]
  have l1:toLit (.agg [.lit (.int .i64 a),.lit (.int .i64 b)])=some (.agg #[.int .i64 a,.int .i64 b]):=rfl
  have l2:toLit (.agg [.lit (.int .i64 a'),.lit (.int .i64 b')])=some (.agg #[.int .i64 a',.int .i64 b']):=rfl
  simp only [List.all_cons,List.all_nil,hx,hy,l1,l2,Bool.and_true,if_true]
  have h2:∀ ρ:Operand→Value,ρ x=.agg #[.int .i64 a,.int .i64 b]→ρ y=.agg #[.int .i64 a',.int .i64 b']→pureV Tryd.prog (execOp ρ ⟨d,.binOp .eql 70 x y rt,ty,p,af,g⟩)=some (.value (.bool (decide (a=a') && decide (b=b')))):=by
    intro ρ e1 e2
    refine execOp_bin e1 e2 ?_ ?_
    · unfold eqGuard; kernel_rfl
    · show pureV Tryd.prog (do pure (Value.bool (← Op.equal 70 _ _)))=_
      exact (pureV_then (equal_edge a b a' b')).trans rfl
  rw [h2 _ (by simp only [hx,l1]) (by simp only [hy,l2])]
attribute [simp] bin_edge
theorem none_w (g:Nat→Option Blk) (n:Nat) : WC 6 Tryd.prog 70 [] ⟨.fn g,n⟩ fun r=>r=.ret (.agg [.lit (.int .i64 (-1)),.lit (.int .i64 (-1))]) ⟨.fn (gput g n (some (.cells [.lit (.int .i64 (-1)),.lit (.int .i64 (-1))] true 0))),n+1⟩:=by
  have h1a:allOne [.lit (.int .i64 (-1)),.lit (.int .i64 (-1))]=true:=by simp
  refine WC.enterP (noO_ok _ _) hG [] Tryd.func70 rfl (by decide +kernel) (Nat.le_of_ble_eq_true (by kernel_rfl)) ?_
  iterate 6 (all_goals try (first | with_reducible refine splitI (fun h=>?_) (fun h=>?_) | with_reducible refine splitBI (fun h=>?_) (fun h=>?_) | simp (config:={ maxSteps:=1000000 }) (disch:=first | assumption | omega | (simp; done) | fail) [Tryd.results70, *]))
theorem fits_w {M:MachM} (e:Int×Int) (g:Nat→Option Blk) (n:Nat) (ms:List AV) (hr:RepM g n M ms) :
    WC 6 Tryd.prog 54 [.agg ms,.agg [.lit (.int .i64 e.1),.lit (.int .i64 e.2)]] ⟨.fn g,n⟩ fun r=>r=.ret (.lit (.bool (edgeOK M.rows.length M.out e))) ⟨.fn g,n⟩:=by
  refine WC.drop1 rfl ?_
  obtain ⟨rv,svs,rfl,hrows,hrv⟩:=hr
  have h1r:=hrv.one
  have h1a:allOne [.lit (.int .i64 M.inp),.lit (.int .i64 M.out),rv]=true:=by simp [h1r]
  have hlen:=@lenV Tryd.prog _ _ _ _ _ hrv
  obtain ⟨to,out⟩:=e
  have h1e:allOne [.lit (.int .i64 to),.lit (.int .i64 out)]=true:=by simp
  clear hrows hrv
  refine WC.enterP (noO_ok _ _) hG pl54 Tryd.func54 rfl (by decide +kernel) (Nat.le_of_ble_eq_true (by kernel_rfl)) ?_
  by_cases t1:to = -1
  · by_cases t2:out = -1
    · iterate 6 (all_goals try (first | with_reducible refine splitI (fun h=>?_) (fun h=>?_) | with_reducible refine splitBI (fun h=>?_) (fun h=>?_) | simp (config:={ maxSteps:=1000000 }) (disch:=first | assumption | omega | (simp; done) | fail) [Tryd.results54, *]))
      refine WC.mono (none_w _ _) ?_
      rintro _ rfl
      iterate 6 (all_goals try (first | with_reducible refine splitI (fun h=>?_) (fun h=>?_) | with_reducible refine splitBI (fun h=>?_) (fun h=>?_) | simp (config:={ maxSteps:=1000000 }) (disch:=first | assumption | omega | (simp; done) | fail) [Tryd.results54, *]))
      refine ⟨_,⟨?_,rfl⟩,by show n≤n+1+1+1; omega,fun q hq=>?_⟩
      · unfold edgeOK; simp [*]
      · have hq' : q < n:=hq
        show gput _ _ _ _=g q
        simp (disch:=omega) only [gput_lt]
    · have t3:¬(0:Int)≤to:=by omega
      iterate 6 (all_goals try (first | with_reducible refine splitI (fun h=>?_) (fun h=>?_) | with_reducible refine splitBI (fun h=>?_) (fun h=>?_) | simp (config:={ maxSteps:=1000000 }) (disch:=first | assumption | omega | (simp; done) | fail) [Tryd.results54, *]))
      refine WC.mono (none_w _ _) ?_
      rintro _ rfl
      iterate 6 (all_goals try (first | with_reducible refine splitI (fun h=>?_) (fun h=>?_) | with_reducible refine splitBI (fun h=>?_) (fun h=>?_) | simp (config:={ maxSteps:=1000000 }) (disch:=first | assumption | omega | (simp; done) | fail) [Tryd.results54, *]))
      refine ⟨_,⟨?_,rfl⟩,by show n≤n+1+1+1; omega,fun q hq=>?_⟩
      · unfold edgeOK; simp [*]
      · have hq' : q < n:=hq
        show gput _ _ _ _=g q
        simp (disch:=omega) only [gput_lt]
  have t1' : ¬(to = -1∧out = -1):=fun h=>t1 h.1
  by_cases t3:0≤to
  · by_cases t4:to < (M.rows.length:Int)
    · by_cases t5:0≤out
      · by_cases t6:out < M.out
        · iterate 6 (all_goals try (first | with_reducible refine splitI (fun h=>?_) (fun h=>?_) | with_reducible refine splitBI (fun h=>?_) (fun h=>?_) | simp (config:={ maxSteps:=1000000 }) (disch:=first | assumption | omega | (simp; done) | fail) [Tryd.results54, *]))
          refine WC.mono (none_w _ _) ?_
          rintro _ rfl
          iterate 6 (all_goals try (first | with_reducible refine splitI (fun h=>?_) (fun h=>?_) | with_reducible refine splitBI (fun h=>?_) (fun h=>?_) | simp (config:={ maxSteps:=1000000 }) (disch:=first | assumption | omega | (simp; done) | fail) [Tryd.results54, *]))
          refine ⟨_,⟨?_,rfl⟩,by show n≤n+1+1+1; omega,fun q hq=>?_⟩
          · unfold edgeOK; simp [*]
          · have hq' : q < n:=hq
            show gput _ _ _ _=g q
            simp (disch:=omega) only [gput_lt]
        · iterate 6 (all_goals try (first | with_reducible refine splitI (fun h=>?_) (fun h=>?_) | with_reducible refine splitBI (fun h=>?_) (fun h=>?_) | simp (config:={ maxSteps:=1000000 }) (disch:=first | assumption | omega | (simp; done) | fail) [Tryd.results54, *]))
          refine WC.mono (none_w _ _) ?_
          rintro _ rfl
          iterate 6 (all_goals try (first | with_reducible refine splitI (fun h=>?_) (fun h=>?_) | with_reducible refine splitBI (fun h=>?_) (fun h=>?_) | simp (config:={ maxSteps:=1000000 }) (disch:=first | assumption | omega | (simp; done) | fail) [Tryd.results54, *]))
          refine ⟨_,⟨?_,rfl⟩,by show n≤n+1+1+1; omega,fun q hq=>?_⟩
          · unfold edgeOK; simp [*]
          · have hq' : q < n:=hq
            show gput _ _ _ _=g q
            simp (disch:=omega) only [gput_lt]
      · iterate 6 (all_goals try (first | with_reducible refine splitI (fun h=>?_) (fun h=>?_) | with_reducible refine splitBI (fun h=>?_) (fun h=>?_) | simp (config:={ maxSteps:=1000000 }) (disch:=first | assumption | omega | (simp; done) | fail) [Tryd.results54, *]))
        refine WC.mono (none_w _ _) ?_
        rintro _ rfl
        iterate 6 (all_goals try (first | with_reducible refine splitI (fun h=>?_) (fun h=>?_) | with_reducible refine splitBI (fun h=>?_) (fun h=>?_) | simp (config:={ maxSteps:=1000000 }) (disch:=first | assumption | omega | (simp; done) | fail) [Tryd.results54, *]))
        refine ⟨_,⟨?_,rfl⟩,by show n≤n+1+1+1; omega,fun q hq=>?_⟩
        · unfold edgeOK; simp [*]
        · have hq' : q < n:=hq
          show gput _ _ _ _=g q
          simp (disch:=omega) only [gput_lt]
    · iterate 6 (all_goals try (first | with_reducible refine splitI (fun h=>?_) (fun h=>?_) | with_reducible refine splitBI (fun h=>?_) (fun h=>?_) | simp (config:={ maxSteps:=1000000 }) (disch:=first | assumption | omega | (simp; done) | fail) [Tryd.results54, *]))
      refine WC.mono (none_w _ _) ?_
      rintro _ rfl
      iterate 6 (all_goals try (first | with_reducible refine splitI (fun h=>?_) (fun h=>?_) | with_reducible refine splitBI (fun h=>?_) (fun h=>?_) | simp (config:={ maxSteps:=1000000 }) (disch:=first | assumption | omega | (simp; done) | fail) [Tryd.results54, *]))
      refine ⟨_,⟨?_,rfl⟩,by show n≤n+1+1+1; omega,fun q hq=>?_⟩
      · unfold edgeOK; simp [*]
      · have hq' : q < n:=hq
        show gput _ _ _ _=g q
        simp (disch:=omega) only [gput_lt]
  · iterate 6 (all_goals try (first | with_reducible refine splitI (fun h=>?_) (fun h=>?_) | with_reducible refine splitBI (fun h=>?_) (fun h=>?_) | simp (config:={ maxSteps:=1000000 }) (disch:=first | assumption | omega | (simp; done) | fail) [Tryd.results54, *]))
    refine WC.mono (none_w _ _) ?_
    rintro _ rfl
    iterate 6 (all_goals try (first | with_reducible refine splitI (fun h=>?_) (fun h=>?_) | with_reducible refine splitBI (fun h=>?_) (fun h=>?_) | simp (config:={ maxSteps:=1000000 }) (disch:=first | assumption | omega | (simp; done) | fail) [Tryd.results54, *]))
    refine ⟨_,⟨?_,rfl⟩,by show n≤n+1+1+1; omega,fun q hq=>?_⟩
    · unfold edgeOK; simp [*]
    · have hq' : q < n:=hq
      show gput _ _ _ _=g q
      simp (disch:=omega) only [gput_lt]
theorem mC1_w {M:MachM} (e:Int×Int) (p:Nat) (g:Nat→Option Blk) (n:Nat) (ms:List AV) (hr:RepM g n M ms) (hp:g p=some (.cells ms true 0)) (hpn:p < n) :
    WC 6 Tryd.prog 53 [.agg [.lit (.int .i64 e.1),.lit (.int .i64 e.2)],.ptr p 0] ⟨.fn g,n⟩ fun r=>r=.ret (.lit (.bool (!edgeOK M.rows.length M.out e))) ⟨.fn g,n⟩:=by
  refine WC.drop1 rfl ?_
  have h1e:allOne [.lit (.int .i64 e.1),.lit (.int .i64 e.2)]=true:=by simp
  have HR:=Hide.mk hr
  obtain ⟨rv,hms,h1r⟩:=hr.one
  subst hms
  have h1a:allOne [.lit (.int .i64 M.inp),.lit (.int .i64 M.out),rv]=true:=by simp [h1r]
  clear hr
  refine WC.enterP (noO_ok _ _) hG [] Tryd.func53 rfl (by decide +kernel) (Nat.le_of_ble_eq_true (by kernel_rfl)) ?_
  iterate 6 (all_goals try (first | with_reducible refine splitI (fun h=>?_) (fun h=>?_) | with_reducible refine splitBI (fun h=>?_) (fun h=>?_) | simp (config:={ maxSteps:=1000000 }) (disch:=first | assumption | omega | (simp; done) | fail) [Tryd.results53, *]))
  refine WC.mono (fits_w e _ _ _ (HR.out.mono (by omega) fun q hq=>gput_lt hq)) ?_
  rintro _ rfl
  iterate 6 (all_goals try (first | with_reducible refine splitI (fun h=>?_) (fun h=>?_) | with_reducible refine splitBI (fun h=>?_) (fun h=>?_) | simp (config:={ maxSteps:=1000000 }) (disch:=first | assumption | omega | (simp; done) | fail) [Tryd.results53, *]))
  all_goals exact ⟨Nat.le_succ n,fun b hb=>gput_lt hb⟩
theorem iFunc_w {M:MachM} (row:List (Int×Int)) (hrl:row.length≤1000000) (sv:AV) (p:Nat) (g:Nat→Option Blk) (n:Nat) (ms:List AV) (hr:RepM g n M ms) (hp:g p=some (.cells ms true 0)) (hpn:p < n) (hsv:SliceV g n sv row.length (rowC row)) :
    WC 6 Tryd.prog 69 [sv,.func (.func 53) [] [.ptr p 0]] ⟨.fn g,n⟩ fun r=>∃ z:Int,r=.ret (.lit (.int .i64 z)) ⟨.fn g,n⟩∧decide (0≤z)=row.any fun e=>!edgeOK M.rows.length M.out e:=by
  have hlen:=@lenV Tryd.prog _ _ _ _ _ hsv
  have HR:=Hide.mk hr
  have HS:=Hide.mk hsv
  have HP:=Hide.mk hp
  clear hr hsv hp
  refine WC.enterP (noO_ok _ _) hG [] Tryd.func69 rfl (by decide +kernel) (Nat.le_of_ble_eq_true (by kernel_rfl)) ?_
  iterate 6 (all_goals try (first | with_reducible refine splitI (fun h=>?_) (fun h=>?_) | with_reducible refine splitBI (fun h=>?_) (fun h=>?_) | simp (config:={ maxSteps:=1000000 }) (disch:=first | assumption | omega | (simp; done) | fail) [Tryd.results69, *]))
  refine LX.ind (fun m gf H'=>∃ (k:Nat),k≤row.length∧m=row.length - k∧H'=⟨.fn g,n⟩∧(∀ e∈row.take k,edgeOK M.rows.length M.out e=true) ∧
    gf 0=some sv∧gf 1=some (.func (.func 53) [] [.ptr p 0])∧gf 7=some (.lit (.int .i64 row.length))∧gf 8=some (.lit (.int .i64 k))) (m0:=row.length) ?_ ?_
  · exact ⟨0,Nat.zero_le _,rfl,rfl,by simp,by simp,by simp,by simp,by simp⟩
  rintro m gf H' ⟨k,hk,rfl,rfl,hpre,w0,w1,w7,w8⟩ ih
  have HPRE:=Hide.mk hpre
  clear hpre
  refine LX.roundP (noO_ok _ _) hG [] (by decide +kernel) ?_
  by_cases hlt:k < row.length
  · have hltI:(k:Int) < (row.length:Int):=by omega
    rcases HS.out with ⟨h1,_⟩ | ⟨a2,off,ha2,hev,hrow⟩
    · omega
    have hagg:=hrow.agg (k:=k * 2) (s:=2) (by rw [rowC_len]; omega)
    rw [rowC_at row k hlt] at hagg
    have htk:row.take (k+1)=row.take k++[row[k]]:=by rw [List.take_succ,List.getElem?_eq_getElem hlt]; rfl
    have hmem:=List.getElem_mem hlt
    have HT:=Hide.mk htk
    have HM:=Hide.mk hmem
    clear htk hmem hrow
    generalize row[k]=e at *
    have hmc:=mC1_w (M:=M) e p g n ms HR.out HP.out hpn
    have HMC:=Hide.mk hmc
    clear hmc
    cases hok:edgeOK M.rows.length M.out e with
    | true =>
      rcases hev with ⟨c2,rfl⟩ | ⟨c2,rfl⟩
      all_goals
        iterate 6 (all_goals try (first | with_reducible refine splitI (fun h=>?_) (fun h=>?_) | with_reducible refine splitBI (fun h=>?_) (fun h=>?_) | simp (config:={ maxSteps:=1000000 }) (disch:=first | assumption | omega | (simp; done) | fail) [Tryd.results69, *]))
        refine WC.mono HMC.out ?_
        rintro _ rfl
        rw [hok]
        iterate 6 (all_goals try (first | with_reducible refine splitI (fun h=>?_) (fun h=>?_) | with_reducible refine splitBI (fun h=>?_) (fun h=>?_) | simp (config:={ maxSteps:=1000000 }) (disch:=first | assumption | omega | (simp; done) | fail) [Tryd.results69, *]))
        refine ih.out (row.length - (k+1)) _ _ (by omega) ⟨k+1,by omega,rfl,rfl,fun e' he'=>?_,by simp [*],by simp [*],by simp [*],by simp⟩
        rw [HT.out] at he'
        rcases List.mem_append.1 he' with h | h
        · exact HPRE.out e' h
        · rw [List.mem_singleton.1 h]; exact hok
    | false =>
      rcases hev with ⟨c2,rfl⟩ | ⟨c2,rfl⟩
      all_goals
        iterate 6 (all_goals try (first | with_reducible refine splitI (fun h=>?_) (fun h=>?_) | with_reducible refine splitBI (fun h=>?_) (fun h=>?_) | simp (config:={ maxSteps:=1000000 }) (disch:=first | assumption | omega | (simp; done) | fail) [Tryd.results69, *]))
        refine WC.mono HMC.out ?_
        rintro _ rfl
        rw [hok]
        iterate 6 (all_goals try (first | with_reducible refine splitI (fun h=>?_) (fun h=>?_) | with_reducible refine splitBI (fun h=>?_) (fun h=>?_) | simp (config:={ maxSteps:=1000000 }) (disch:=first | assumption | omega | (simp; done) | fail) [Tryd.results69, *]))
        exact ⟨e.1,e.2,HM.out,hok⟩
  · have hltI:¬(k:Int) < (row.length:Int):=by omega
    have hk2:k=row.length:=by omega
    have HK2:=Hide.mk hk2
    clear hk2
    iterate 6 (all_goals try (first | with_reducible refine splitI (fun h=>?_) (fun h=>?_) | with_reducible refine splitBI (fun h=>?_) (fun h=>?_) | simp (config:={ maxSteps:=1000000 }) (disch:=first | assumption | omega | (simp; done) | fail) [Tryd.results69, *]))
    have h0:=HPRE.out
    rw [HK2.out,List.take_length] at h0
    exact fun a b hab=>h0 _ hab
theorem cFunc_w {M:MachM} (row:List (Int×Int)) (hrl:row.length≤1000000) (sv:AV) (p:Nat) (g:Nat→Option Blk) (n:Nat) (ms:List AV) (hr:RepM g n M ms) (hp:g p=some (.cells ms true 0)) (hpn:p < n) (hsv:SliceV g n sv row.length (rowC row)) :
    WC 6 Tryd.prog 52 [sv,.func (.func 53) [] [.ptr p 0]] ⟨.fn g,n⟩ fun r=>r=.ret (.lit (.bool (row.any fun e=>!edgeOK M.rows.length M.out e))) ⟨.fn g,n⟩:=by
  have HI:=Hide.mk (iFunc_w row hrl sv p g n ms hr hp hpn hsv)
  clear hr hp hsv
  refine WC.enterP (noO_ok _ _) hG [] Tryd.func52 rfl (by decide +kernel) (Nat.le_of_ble_eq_true (by kernel_rfl)) ?_
  iterate 6 (all_goals try (first | with_reducible refine splitI (fun h=>?_) (fun h=>?_) | with_reducible refine splitBI (fun h=>?_) (fun h=>?_) | simp (config:={ maxSteps:=1000000 }) (disch:=first | assumption | omega | (simp; done) | fail) [Tryd.results52, *]))
  refine WC.mono HI.out ?_
  rintro _ ⟨z,rfl,hz⟩
  generalize (row.any fun e=>!edgeOK M.rows.length M.out e)=bb at *
  cases bb with
  | true =>
    have hz1:0≤z:=of_decide_eq_true hz
    clear hz
    iterate 6 (all_goals try (first | with_reducible refine splitI (fun h=>?_) (fun h=>?_) | with_reducible refine splitBI (fun h=>?_) (fun h=>?_) | simp (config:={ maxSteps:=1000000 }) (disch:=first | assumption | omega | (simp; done) | fail) [Tryd.results52, *]))
  | false =>
    have hz1:¬0≤z:=of_decide_eq_false hz
    clear hz
    iterate 6 (all_goals try (first | with_reducible refine splitI (fun h=>?_) (fun h=>?_) | with_reducible refine splitBI (fun h=>?_) (fun h=>?_) | simp (config:={ maxSteps:=1000000 }) (disch:=first | assumption | omega | (simp; done) | fail) [Tryd.results52, *]))
def mErr (M:MachM) : Int :=
  if M.inp > 16∨M.out > 16∨M.rows.length > 64 then 3 else if M.inp < 1∨M.out < 1∨M.rows.length < 1 then 1
  else if (∀ r∈M.rows,(r.length:Int)=M.inp∧(r.any fun e=>!edgeOK M.rows.length M.out e)=false) then 0 else 1
theorem mErr_ok {M:MachM} : mErr M=0↔M.ok:=by
  unfold mErr MachM.ok
  split
  · constructor
    · intro h; cases h
    · intro h; omega
  split
  · constructor
    · intro h; cases h
    · intro h; omega
  split
  · rename_i h1 h2 h3
    refine ⟨fun _=>⟨by omega,by omega,by omega,by omega,by omega,by omega,fun r hr=>⟨(h3 r hr).1,fun e he=>?_⟩⟩,fun _=>rfl⟩
    have h4:=(h3 r hr).2
    rw [List.any_eq_false] at h4
    simpa using h4 e he
  · rename_i h1 h2 h3
    constructor
    · intro h; cases h
    · intro h
      exfalso
      refine h3 fun r hr=>⟨(h.2.2.2.2.2.2 r hr).1,?_⟩
      rw [List.any_eq_false]
      intro e he
      rw [(h.2.2.2.2.2.2 r hr).2 e he]; decide
theorem mCheck_w {M:MachM} (hrl:∀ r∈M.rows,r.length≤1000000) (g:Nat→Option Blk) (n:Nat) (ms:List AV) (hr:RepM g n M ms) :
    WC 6 Tryd.prog 26 [.agg ms] ⟨.fn g,n⟩ fun r=>r=.ret (.lit (.int .i64 (mErr M))) ⟨.fn g,n⟩:=by
  refine WC.drop1 rfl ?_
  have HR:=Hide.mk hr
  obtain ⟨rv,svs,rfl,hrows,hrv⟩:=hr
  have h1r:=hrv.one
  have h1a:allOne [.lit (.int .i64 M.inp),.lit (.int .i64 M.out),rv]=true:=by simp [h1r]
  have hlen:=@lenV Tryd.prog _ _ _ _ _ hrv
  have HROW:=Hide.mk hrows
  have HRV:=Hide.mk hrv
  have HRL:=Hide.mk hrl
  have hsl:=hrows.len
  clear hrows hrv hrl
  refine WC.enterP (noO_ok _ _) hG [] Tryd.func26 rfl (by decide +kernel) (Nat.le_of_ble_eq_true (by kernel_rfl)) ?_
  by_cases a1:(16:Int) < M.inp
  · have hm:mErr M=3:=by unfold mErr; rw [if_pos (by omega)]
    rw [hm]
    iterate 6 (all_goals try (first | with_reducible refine splitI (fun h=>?_) (fun h=>?_) | with_reducible refine splitBI (fun h=>?_) (fun h=>?_) | simp (config:={ maxSteps:=1000000 }) (disch:=first | assumption | omega | (simp; done) | fail) [Tryd.results26, *]))
    exact ⟨Nat.le_succ n,fun b hb=>gput_lt hb⟩
  by_cases a2:(16:Int) < M.out
  · have hm:mErr M=3:=by unfold mErr; rw [if_pos (by omega)]
    rw [hm]
    iterate 6 (all_goals try (first | with_reducible refine splitI (fun h=>?_) (fun h=>?_) | with_reducible refine splitBI (fun h=>?_) (fun h=>?_) | simp (config:={ maxSteps:=1000000 }) (disch:=first | assumption | omega | (simp; done) | fail) [Tryd.results26, *]))
    exact ⟨Nat.le_succ n,fun b hb=>gput_lt hb⟩
  by_cases a3:(64:Int) < (M.rows.length:Int)
  · have hm:mErr M=3:=by unfold mErr; rw [if_pos (by omega)]
    rw [hm]
    iterate 6 (all_goals try (first | with_reducible refine splitI (fun h=>?_) (fun h=>?_) | with_reducible refine splitBI (fun h=>?_) (fun h=>?_) | simp (config:={ maxSteps:=1000000 }) (disch:=first | assumption | omega | (simp; done) | fail) [Tryd.results26, *]))
    exact ⟨Nat.le_succ n,fun b hb=>gput_lt hb⟩
  by_cases b1:M.inp < 1
  · have hm:mErr M=1:=by unfold mErr; rw [if_neg (by omega),if_pos (by omega)]
    rw [hm]
    iterate 6 (all_goals try (first | with_reducible refine splitI (fun h=>?_) (fun h=>?_) | with_reducible refine splitBI (fun h=>?_) (fun h=>?_) | simp (config:={ maxSteps:=1000000 }) (disch:=first | assumption | omega | (simp; done) | fail) [Tryd.results26, *]))
    exact ⟨Nat.le_succ n,fun b hb=>gput_lt hb⟩
  by_cases b2:M.out < 1
  · have hm:mErr M=1:=by unfold mErr; rw [if_neg (by omega),if_pos (by omega)]
    rw [hm]
    iterate 6 (all_goals try (first | with_reducible refine splitI (fun h=>?_) (fun h=>?_) | with_reducible refine splitBI (fun h=>?_) (fun h=>?_) | simp (config:={ maxSteps:=1000000 }) (disch:=first | assumption | omega | (simp; done) | fail) [Tryd.results26, *]))
    exact ⟨Nat.le_succ n,fun b hb=>gput_lt hb⟩
  by_cases b3:(M.rows.length:Int) < 1
  · have hm:mErr M=1:=by unfold mErr; rw [if_neg (by omega),if_pos (by omega)]
    rw [hm]
    iterate 6 (all_goals try (first | with_reducible refine splitI (fun h=>?_) (fun h=>?_) | with_reducible refine splitBI (fun h=>?_) (fun h=>?_) | simp (config:={ maxSteps:=1000000 }) (disch:=first | assumption | omega | (simp; done) | fail) [Tryd.results26, *]))
    exact ⟨Nat.le_succ n,fun b hb=>gput_lt hb⟩
  have hgo:mErr M=if (∀ r∈M.rows,(r.length:Int)=M.inp∧(r.any fun e=>!edgeOK M.rows.length M.out e)=false) then 0 else 1:=by unfold mErr; rw [if_neg (by omega),if_neg (by omega)]
  have HGO:=Hide.mk hgo
  clear hgo
  iterate 6 (all_goals try (first | with_reducible refine splitI (fun h=>?_) (fun h=>?_) | with_reducible refine splitBI (fun h=>?_) (fun h=>?_) | simp (config:={ maxSteps:=1000000 }) (disch:=first | assumption | omega | (simp; done) | fail) [Tryd.results26, *]))
  refine LX.ind (fun m gf H'=>∃ (k:Nat),k≤M.rows.length∧m=M.rows.length - k∧H'=⟨.fn (gput g n (some (.cells [.lit (.int .i64 M.inp),.lit (.int .i64 M.out),rv] true 0))),n+1⟩∧(∀ r∈M.rows.take k,(r.length:Int)=M.inp∧(r.any fun e=>!edgeOK M.rows.length M.out e)=false) ∧
    gf 1=some (.ptr n 0)∧gf 34=some rv∧gf 35=some (.lit (.int .i64 M.rows.length))∧gf 36=some (.lit (.int .i64 k))) (m0:=M.rows.length) ?_ ?_
  · exact ⟨0,Nat.zero_le _,rfl,rfl,by simp,by simp,by simp,by simp,by simp⟩
  rintro m gf H' ⟨k,hk,rfl,rfl,hpre,w1,w34,w35,w36⟩ ih
  have HPRE:=Hide.mk hpre
  clear hpre
  refine LX.roundP (noO_ok _ _) hG [] (by decide +kernel) ?_
  by_cases hlt:k < M.rows.length
  · have hltI:(k:Int) < (M.rows.length:Int):=by omega
    have hR:=HROW.out.at k hlt (by omega)
    rcases HRV.out with ⟨h1,_⟩ | ⟨a2',off,ha2,hev,hrow⟩
    · omega
    have hcell:=(hrow.mono (g':=gput g n (some (.cells [.lit (.int .i64 M.inp),.lit (.int .i64 M.out),rv] true 0))) (gput_lt ha2)).one (k:=k) (s:=1) (by omega)
    rw [gput_lt ha2] at hcell
    have htk:M.rows.take (k+1)=M.rows.take k++[M.rows[k]]:=by rw [List.take_succ,List.getElem?_eq_getElem hlt]; rfl
    have hmem:=List.getElem_mem hlt
    have hrl:=HRL.out _ hmem
    have HT:=Hide.mk htk
    have HM:=Hide.mk hmem
    clear htk hmem hrow
    generalize svs[k]'(by omega)=sv at hR hcell
    generalize M.rows[k]=row at hR HT HM hrl
    have hlen2:=@lenV Tryd.prog _ _ _ _ _ hR
    have hcf:=cFunc_w (M:=M) row hrl sv n (gput g n (some (.cells [.lit (.int .i64 M.inp),.lit (.int .i64 M.out),rv] true 0))) (n+1) _ (HR.out.mono (by omega) fun q hq=>gput_lt hq) gput_eq (by omega) (hR.mono (by omega) fun q hq=>gput_lt hq)
    have HCF:=Hide.mk hcf
    clear hcf hR
    by_cases hli:(row.length:Int)=M.inp
    · cases hok:(row.any fun e=>!edgeOK M.rows.length M.out e) with
      | true =>
        rcases hev with ⟨c2,rfl⟩ | ⟨c2,rfl⟩
        all_goals
          iterate 6 (all_goals try (first | with_reducible refine splitI (fun h=>?_) (fun h=>?_) | with_reducible refine splitBI (fun h=>?_) (fun h=>?_) | simp (config:={ maxSteps:=1000000 }) (disch:=first | assumption | omega | (simp; done) | fail) [Tryd.results26, *]))
          refine WC.mono HCF.out ?_
          rintro _ rfl
          rw [hok]
          have hm:mErr M=1:=by rw [HGO.out,if_neg (fun h=>by have:=(h row HM.out).2; rw [hok] at this; cases this)]
          rw [hm]
          iterate 6 (all_goals try (first | with_reducible refine splitI (fun h=>?_) (fun h=>?_) | with_reducible refine splitBI (fun h=>?_) (fun h=>?_) | simp (config:={ maxSteps:=1000000 }) (disch:=first | assumption | omega | (simp; done) | fail) [Tryd.results26, *]))
          exact ⟨Nat.le_succ n,fun b hb=>gput_lt hb⟩
      | false =>
        rcases hev with ⟨c2,rfl⟩ | ⟨c2,rfl⟩
        all_goals
          iterate 6 (all_goals try (first | with_reducible refine splitI (fun h=>?_) (fun h=>?_) | with_reducible refine splitBI (fun h=>?_) (fun h=>?_) | simp (config:={ maxSteps:=1000000 }) (disch:=first | assumption | omega | (simp; done) | fail) [Tryd.results26, *]))
          refine WC.mono HCF.out ?_
          rintro _ rfl
          rw [hok]
          iterate 6 (all_goals try (first | with_reducible refine splitI (fun h=>?_) (fun h=>?_) | with_reducible refine splitBI (fun h=>?_) (fun h=>?_) | simp (config:={ maxSteps:=1000000 }) (disch:=first | assumption | omega | (simp; done) | fail) [Tryd.results26, *]))
          refine ih.out (M.rows.length - (k+1)) _ _ (by omega) ⟨k+1,by omega,rfl,rfl,fun e' he'=>?_,by simp [*],by simp [*],by simp [*],by simp⟩
          rw [HT.out] at he'
          rcases List.mem_append.1 he' with h | h
          · exact HPRE.out e' h
          · rw [List.mem_singleton.1 h]; exact ⟨hli,hok⟩
    · rcases hev with ⟨c2,rfl⟩ | ⟨c2,rfl⟩
      all_goals
        have hm:mErr M=1:=by rw [HGO.out,if_neg (fun h=>hli (h row HM.out).1)]
        rw [hm]
        iterate 6 (all_goals try (first | with_reducible refine splitI (fun h=>?_) (fun h=>?_) | with_reducible refine splitBI (fun h=>?_) (fun h=>?_) | simp (config:={ maxSteps:=1000000 }) (disch:=first | assumption | omega | (simp; done) | fail) [Tryd.results26, *]))
        exact ⟨Nat.le_succ n,fun b hb=>gput_lt hb⟩
  · have hltI:¬(k:Int) < (M.rows.length:Int):=by omega
    have hk2:k=M.rows.length:=by omega
    have hm:mErr M=0:=by
      rw [HGO.out,if_pos]
      have h0:=HPRE.out
      rw [hk2,List.take_length] at h0
      exact h0
    rw [hm]
    clear hk2
    iterate 6 (all_goals try (first | with_reducible refine splitI (fun h=>?_) (fun h=>?_) | with_reducible refine splitBI (fun h=>?_) (fun h=>?_) | simp (config:={ maxSteps:=1000000 }) (disch:=first | assumption | omega | (simp; done) | fail) [Tryd.results26, *]))
    exact ⟨Nat.le_succ n,fun b hb=>gput_lt hb⟩
end Go.Ai
end
section
namespace Go.Ai
open Go.Proofs
set_option maxRecDepth 10000
set_option maxHeartbeats 40000000
theorem cells_func {f:Fn} {x y:Array Value} : cellsOf (.lit (.func f x y))=[.lit (.func f x y)]:=(rfl)
attribute [simp] cells_func
end Go.Ai
end
section
namespace Go.Ai
open Go.Proofs
set_option maxRecDepth 10000
set_option maxHeartbeats 40000000
theorem ops_subs (op:Nat) (h:op < 15) : loadB (some (false,1)) (some opsB) (op * 4)=some (.lit (.int .i64 (subsM op:Nat))):=by
  have:op=0∨op=1∨op=2∨op=3∨op=4∨op=5∨op=6∨op=7∨op=8∨op=9∨op=10∨op=11∨op=12∨op=13∨op=14:=by omega
  rcases this with rfl | rfl | rfl | rfl | rfl | rfl | rfl | rfl | rfl | rfl | rfl | rfl | rfl | rfl | rfl <;> rfl
theorem valid_yes (st inp out:Int) : ∀ (m:Nat),m≤1000000→∀ (x:NodeM),sizeN x≤m→validM st inp out x=true→∀ (g:Nat→Option Blk) (n:Nat) (cs:List AV),g 0=some opsB→0 < n→repN g n x cs →
    WC 6 Tryd.prog 56 [.agg cs,.lit (.int .i64 st),.lit (.int .i64 inp),.lit (.int .i64 out)] ⟨.fn g,n⟩ fun r=>r=.ret (.lit (.bool true)) ⟨.fn g,n⟩:=by
  intro m
  induction m with
  | zero=>intro _ x hx; cases x; unfold sizeN at hx; omega
  | succ m ihm =>
    intro hm x hx hv g n cs hops hn0 hr
    have IH:=Hide.mk ihm
    clear ihm
    refine WC.drop1 rfl ?_
    cases x with
    | mk op a b subs =>
      obtain ⟨hop,sv,rfl,hsv⟩:=hr
      simp only [validM,Bool.and_eq_true,decide_eq_true_eq] at hv
      obtain ⟨v1,v2,v3,v4,v5,v6,v7⟩:=hv
      have hld:=ops_subs op v1
      obtain ⟨sv',hq⟩ : ∃ sv',Hide (sv'=sv):=⟨_,⟨rfl⟩⟩
      have hsz:sizeL subs≤m:=by unfold sizeN at hx; omega
      have hlen:subs.length≤1000000:=Nat.le_trans (len_size subs) (by omega)
      have V7:=Hide.mk v7
      have v1I:¬(15:Int)≤(op:Int):=by omega
      have v1J:(op:Int) < 15:=by omega
      have v3I:¬a < 0:=by omega
      have v4I:¬b < 0:=by omega
      have hdec:(op=1∧a < st∧b < 1)∨(op=2∧a < inp∧b < 1)∨(op=3∧a < inp∧b < out)∨(¬(op:Int)=1∧¬(op:Int)=2∧¬(op:Int)=3∧a < 1∧b < 1):=by
        by_cases h1:op=1
        · subst h1; exact .inl ⟨rfl,by simpa using v5,by simpa using v6⟩
        by_cases h2:op=2
        · subst h2; exact .inr (.inl ⟨rfl,by simpa using v5,by simpa using v6⟩)
        by_cases h3:op=3
        · subst h3; exact .inr (.inr (.inl ⟨rfl,by simpa using v5,by simpa using v6⟩))
        · rw [if_neg h1,if_neg (by omega)] at v5
          rw [if_neg h3] at v6
          exact .inr (.inr (.inr ⟨by omega,by omega,by omega,v5,v6⟩))
      clear v5 v6 v7
      rw [← v2] at hld
      clear v2
      rcases hsv with ⟨hsub,rfl | rfl⟩ | ⟨ad,off,r,han,⟨c,rfl⟩ | ⟨c,rfl⟩,hrow,hrep⟩
      all_goals rcases hdec with ⟨rfl,d1,d2⟩ | ⟨rfl,d1,d2⟩ | ⟨rfl,d1,d2⟩ | ⟨d3,d4,d5,d1,d2⟩
      all_goals have d1I:=Int.not_le.2 d1
      all_goals have d2I:=Int.not_le.2 d2
      all_goals refine WC.enterP (noO_ok _ _) hG pl56 Tryd.func56 rfl (by decide +kernel) (Nat.le_of_ble_eq_true (by kernel_rfl)) ?_
      all_goals iterate 40 (all_goals try (first | with_reducible refine splitI (fun h=>?_) (fun h=>?_) | with_reducible refine splitBI (fun h=>?_) (fun h=>?_) | simp (config:={ maxSteps:=1000000 }) (disch:=first | assumption | omega | (simp; done) | fail) [Tryd.results56, *]))
      all_goals
        refine LX.ind (fun m gf H'=>∃ (k n' : Nat) (g' : Nat→Option Blk),k≤subs.length∧m=subs.length - k∧H'=⟨.fn g',n'⟩∧n < n'∧(∀ b,b < n→g' b=g b) ∧
          gf 1=some (.lit (.int .i64 st))∧gf 2=some (.lit (.int .i64 inp))∧gf 3=some (.lit (.int .i64 out))∧gf 61=some sv'∧gf 62=some (.lit (.int .i64 subs.length))∧gf 63=some (.lit (.int .i64 k))∧validL st inp out (subs.drop k)=true) (m0:=subs.length) ?_ ?_
        · exact ⟨0,n+1,_,Nat.zero_le _,rfl,rfl,by omega,fun b hb=>gput_lt hb,by simp,by simp,by simp,by simp [hq.out],by simp [*],by simp,V7.out⟩
        rintro m' gf H' ⟨k,n',g',hk,rfl,rfl,hn',hg',w1,w2,w3,w61,w62,w63,hc⟩ ih
        refine LX.roundP (noO_ok _ _) hG pl56 (by decide +kernel) ?_
        rw [hq.out] at w61
        have HG:=Hide.mk hg'
        have HC:=Hide.mk hc
        clear hg' hc
        by_cases hlt:k < subs.length
        · first
          | (exfalso; rw [hsub] at hlt; simp at hlt; done)
          | (have hy0:=repL_at hrep k hlt
             have hrl:=repL_len hrep
             have hrow':=(hrow.mono (HG.out ad han)).agg (k:=k * 4) (s:=4) (by omega)
             have hdrop:subs.drop k=subs[k] :: subs.drop (k+1):=List.drop_eq_getElem_cons hlt
             have hszy:sizeN subs[k]≤m:=Nat.le_trans (size_mem (List.getElem_mem hlt)) hsz
             have hvk:=HC.out
             rw [hdrop,validL,Bool.and_eq_true] at hvk
             generalize subs[k]=y at hy0 hdrop hszy hvk
             obtain ⟨hvy,hvr⟩:=hvk
             obtain ⟨k2,k3,sv2,hcy,h1c,hop2⟩:=repN_one hy0
             rw [hcy] at hrow' hy0
             have h1a:allOne [.lit (.int .u8 y.op),.lit (.int .i64 k2),.lit (.int .i64 k3),sv2]=true:=by simp [h1c]
             have HY:=Hide.mk hy0
             have HD:=Hide.mk hdrop
             have HR:=Hide.mk hrep
             have HR2:=Hide.mk hrow
             have HVY:=Hide.mk hvy
             have HVR:=Hide.mk hvr
             have hlt' : (k:Int) < (subs.length:Int):=by omega
             clear hy0 hdrop hrep hrow hcy hrl hvy hvr
             iterate 14 (all_goals try (first | with_reducible refine splitI (fun h=>?_) (fun h=>?_) | with_reducible refine splitBI (fun h=>?_) (fun h=>?_) | simp (config:={ maxSteps:=1000000 }) (disch:=first | assumption | omega | (simp; done) | fail) [Tryd.results56, *]))
             refine WC.mono (IH.out (by omega) y hszy HVY.out _ _ _ (by rw [gput_lt (by omega)]; exact (HG.out 0 hn0).trans hops) (by omega) (repN_mono (b':=n'+1) (by omega) (fun a ha=>(gput_lt (by omega)).trans (HG.out a ha)) HY.out)) ?_
             rintro _ rfl
             iterate 14 (all_goals try (first | with_reducible refine splitI (fun h=>?_) (fun h=>?_) | with_reducible refine splitBI (fun h=>?_) (fun h=>?_) | simp (config:={ maxSteps:=1000000 }) (disch:=first | assumption | omega | (simp; done) | fail) [Tryd.results56, *]))
             exact ih.out (subs.length - (k+1)) _ _ (by omega) ⟨k+1,n'+1,_,hlt,rfl,rfl,by omega,fun b hb=>(gput_lt (by omega)).trans (HG.out b hb),by simp [*],by simp [*],by simp [*],by simp [*,hq.out],by simp [*],by simp [*],HVR.out⟩)
        · have hkn:k=subs.length:=by omega
          subst hkn
          first | clear hsub | clear hrep hrow
          iterate 14 (all_goals try (first | with_reducible refine splitI (fun h=>?_) (fun h=>?_) | with_reducible refine splitBI (fun h=>?_) (fun h=>?_) | simp (config:={ maxSteps:=1000000 }) (disch:=first | assumption | omega | (simp; done) | fail) [Tryd.results56, *]))
          all_goals first
            | (exfalso; omega)
            | exact ⟨_,⟨rfl,rfl⟩,⟨Nat.le_of_lt hn',fun b hb=>HG.out b hb⟩⟩
            | exact ⟨Nat.le_of_lt hn',fun b hb=>HG.out b hb⟩
end Go.Ai
end
section
namespace Go.Ai
open Go.Proofs
set_option maxRecDepth 10000
set_option maxHeartbeats 40000000
theorem small_w:∀ (m:Nat),m≤1000000→∀ (x:NodeM),sizeN x≤m→∀ (g:Nat→Option Blk) (n p:Nat) (cs:List AV) (left:Int),repN g n x cs→p < n→g p=some (.cells [.lit (.int .i64 left)] true 0)→0≤left→left≤1000000 →
    WC 6 Tryd.prog 43 [.agg cs,.ptr p 0] ⟨.fn g,n⟩ fun r=>r=.ret (.lit (.bool (smallM x left).1)) ⟨.fn (gput g p (some (.cells [.lit (.int .i64 (smallM x left).2)] true 0))),n⟩:=by
  intro m
  induction m with
  | zero=>intro _ x hx; cases x; unfold sizeN at hx; omega
  | succ m ihm =>
    intro hm x hx g n p cs left hr hp hgp h0 h1
    have IH:=Hide.mk ihm
    clear ihm
    refine WC.drop2 rfl rfl ?_
    cases x with
    | mk op k kb subs =>
      obtain ⟨hop,sv,rfl,hsv⟩:=hr
      rw [smallM]
      obtain ⟨sv',hq⟩ : ∃ sv',Hide (sv'=sv):=⟨_,⟨rfl⟩⟩
      have hsz:sizeL subs≤m:=by unfold sizeN at hx; omega
      have hlen:subs.length≤1000000:=Nat.le_trans (len_size subs) (by omega)
      rcases hsv with ⟨hsub,rfl | rfl⟩ | ⟨a,off,r,han,⟨c,rfl⟩ | ⟨c,rfl⟩,hrow,hrep⟩
      all_goals refine WC.enterP (noO_ok _ _) hG [] Tryd.func43 rfl (by decide +kernel) (Nat.le_of_ble_eq_true (by kernel_rfl)) ?_
      all_goals iterate 14 (all_goals try (first | with_reducible refine splitI (fun h=>?_) (fun h=>?_) | with_reducible refine splitBI (fun h=>?_) (fun h=>?_) | simp (disch:=first | assumption | omega | (simp; done) | fail) [Tryd.results43, *]))
      all_goals
        refine LX.ind (fun m gf H'=>∃ (k n' : Nat) (g' : Nat→Option Blk) (left' : Int),k≤subs.length∧m=subs.length - k∧H'=⟨.fn g',n'⟩∧n≤n'∧(∀ b,b < n→b≠p→g' b=g b)∧g' p=some (.cells [.lit (.int .i64 left')] true 0) ∧
          -1≤left'∧left'≤1000000∧gf 1=some (.ptr p 0)∧gf 13=some sv'∧gf 14=some (.lit (.int .i64 subs.length))∧gf 15=some (.lit (.int .i64 k))∧smallL subs (left - 1)=smallL (subs.drop k) left') (m0:=subs.length) ?_ ?_
        · refine ⟨0,_,_,left - 1,Nat.zero_le _,rfl,rfl,by omega,fun b hb hne=>?_,?_,by omega,by omega,by simp,by simp [hq.out],by simp [*],by simp,rfl⟩
          · unfold gput; rw [if_neg hne,if_neg (Nat.ne_of_lt hb)]
          · unfold gput; rw [if_pos rfl]
        rintro m' gf H' ⟨k,n',g',left',hk,rfl,rfl,hn',hg',hgp',hl0,hl1,g1,g13,g14,g15,hc⟩ ih
        refine LX.roundP (noO_ok _ _) hG [] (by decide +kernel) ?_
        rw [hq.out] at g13
        have HG:=Hide.mk hg'
        have HC:=Hide.mk hc
        clear hg' hc
        by_cases hlt:k < subs.length
        · first
          | (exfalso; rw [hsub] at hlt; simp at hlt; done)
          | (have hy0:=repL_at hrep k hlt
             have hrl:=repL_len hrep
             have hap:a≠p:=row_ne hrow hgp (by omega)
             have hrow':=(hrow.mono (HG.out a han hap)).agg (k:=k * 4) (s:=4) (by omega)
             have hdrop:subs.drop k=subs[k] :: subs.drop (k+1):=List.drop_eq_getElem_cons hlt
             have hszy:sizeN subs[k]≤m:=Nat.le_trans (size_mem (List.getElem_mem hlt)) hsz
             generalize subs[k]=y at hy0 hdrop hszy
             obtain ⟨k2,k3,sv2,hcy,h1c,hop2⟩:=repN_one hy0
             rw [hcy] at hrow' hy0
             have h1a:allOne [.lit (.int .u8 y.op),.lit (.int .i64 k2),.lit (.int .i64 k3),sv2]=true:=by simp [h1c]
             have HY:=Hide.mk hy0
             have HD:=Hide.mk hdrop
             have HR:=Hide.mk hrep
             have HR2:=Hide.mk hrow
             clear hy0 hdrop hrep hrow hcy hrl
             iterate 14 (all_goals try (first | with_reducible refine splitI (fun h=>?_) (fun h=>?_) | with_reducible refine splitBI (fun h=>?_) (fun h=>?_) | simp (disch:=first | assumption | omega | (simp; done) | fail) [Tryd.results43, *]))
             · refine ⟨_,_,⟨?_,rfl,rfl⟩,by omega,fun b hb hne=>(gput_lt (by omega)).trans (HG.out b hb hne),?_⟩
               · rw [HC.out,HD.out,smallL,if_pos h]
               · rw [gput_lt (by omega),hgp',HC.out,HD.out,smallL,if_pos h]
             · have hge:¬left' < 0:=h
               have hlo:=smallM_lo y left' (by omega)
               refine (IH.out (by omega) y hszy _ _ p _ left' (repN_put (b':=n'+1) (by omega) (fun a ha hne=>(gput_lt (by omega)).trans (HG.out a ha hne)) hgp ((gput_lt (by omega)).trans hgp') HY.out) (by omega) ((gput_lt (by omega)).trans hgp') (by omega) hl1).mono ?_
               rintro _ rfl
               iterate 10 (all_goals try (first | with_reducible refine splitI (fun h=>?_) (fun h=>?_) | with_reducible refine splitBI (fun h=>?_) (fun h=>?_) | simp (disch:=first | assumption | omega | (simp; done) | fail) [Tryd.results43, *]))
               · refine ih.out (subs.length - (k+1)) _ _ (by omega) ⟨k+1,n'+1,_,(smallM y left').2,hlt,rfl,rfl,by omega,fun b hb hne=>?_,?_,hlo.1,by omega,by simp [*],by simp [*,hq.out],by simp [*],by simp,?_⟩
                 · unfold gput; rw [if_neg hne]; dsimp only; rw [if_neg (by omega)]; exact HG.out b hb hne
                 · unfold gput; rw [if_pos rfl]
                 · rw [HC.out,HD.out,smallL_true hge h]
               · refine ⟨_,_,⟨?_,rfl,rfl⟩,by omega,fun b hb hne=>?_,?_⟩
                 · rw [HC.out,HD.out,smallL_false hge h]
                 · unfold gput; rw [if_neg hne]; dsimp only; rw [if_neg (by omega)]; exact HG.out b hb hne
                 · unfold gput; rw [if_pos rfl,HC.out,HD.out,smallL_false hge h])
        · have HDN:=Hide.mk (List.drop_eq_nil_of_le (by omega) : subs.drop k=[])
          have hkn:k=subs.length:=by omega
          subst hkn
          first | clear hsub | clear hrep hrow
          iterate 10 (all_goals try (first | with_reducible refine splitI (fun h=>?_) (fun h=>?_) | with_reducible refine splitBI (fun h=>?_) (fun h=>?_) | simp (disch:=first | assumption | omega | (simp; done) | fail) [Tryd.results43, *]))
          all_goals
            refine ⟨_,_,⟨?_,rfl,rfl⟩,hn',fun b hb hne=>HG.out b hb hne,?_⟩
            · rw [HC.out,HDN.out,smallL]; simp [h]
            · rw [hgp',HC.out,HDN.out,smallL]
end Go.Ai
end
section
namespace Go.Ai
open Go.Proofs
set_option maxRecDepth 10000
set_option maxHeartbeats 40000000
theorem checked_yes (st inp out:Int) (x:NodeM) (hx:sizeN x≤1000000) (hv:validM st inp out x=true) (hsm:(smallM x 64).1=true) (g:Nat→Option Blk) (n:Nat) (cs:List AV) (hops:g 0=some opsB) (hn0:0 < n) (hr:repN g n x cs) :
    WC 6 Tryd.prog 38 [.agg cs,.lit (.int .i64 st),.lit (.int .i64 inp),.lit (.int .i64 out)] ⟨.fn g,n⟩ fun r=>∃ g' n',r=.ret (.lit (.int .i64 0)) ⟨.fn g',n'⟩∧n≤n'∧∀ b,b < n→g' b=g b:=by
  obtain ⟨k2,k3,sv2,hcy,h1c,hop2⟩:=repN_one hr
  subst hcy
  have h1a:allOne [.lit (.int .u8 x.op),.lit (.int .i64 k2),.lit (.int .i64 k3),sv2]=true:=by simp [h1c]
  have HR:=Hide.mk hr
  clear hr
  refine WC.enterP (noO_ok _ _) hG [] Tryd.func38 rfl (by decide +kernel) (Nat.le_of_ble_eq_true (by kernel_rfl)) ?_
  iterate 12 (all_goals try (first | with_reducible refine splitI (fun h=>?_) (fun h=>?_) | with_reducible refine splitBI (fun h=>?_) (fun h=>?_) | simp (config:={ maxSteps:=1000000 }) (disch:=first | assumption | omega | (simp; done) | fail) [Tryd.results38, *]))
  refine WC.mono (small_w 1000000 (Nat.le_refl _) x hx _ _ (n+1) _ 64 (repN_mono (by omega) (fun a ha=>(by simp (disch:=omega) only [gput_lt])) HR.out) (by omega) (by simp) (by omega) (by omega)) ?_
  rintro _ rfl
  rw [hsm]
  iterate 12 (all_goals try (first | with_reducible refine splitI (fun h=>?_) (fun h=>?_) | with_reducible refine splitBI (fun h=>?_) (fun h=>?_) | simp (config:={ maxSteps:=1000000 }) (disch:=first | assumption | omega | (simp; done) | fail) [Tryd.results38, *]))
  refine WC.mono (valid_yes st inp out 1000000 (Nat.le_refl _) x hx hv _ _ _ (by simp (disch:=omega) only [gput_lt,gput_ne]; exact hops) (by omega) (repN_mono (by omega) (fun a ha=>by simp (disch:=omega) only [gput_lt,gput_ne]) HR.out)) ?_
  rintro _ rfl
  iterate 12 (all_goals try (first | with_reducible refine splitI (fun h=>?_) (fun h=>?_) | with_reducible refine splitBI (fun h=>?_) (fun h=>?_) | simp (config:={ maxSteps:=1000000 }) (disch:=first | assumption | omega | (simp; done) | fail) [Tryd.results38, *]))
  refine ⟨_,_,⟨rfl,rfl⟩,by omega,fun b hb=>?_⟩
  simp (disch:=omega) only [gput_lt,gput_ne]
end Go.Ai
end
section
namespace Go.Ai
open Go.Proofs
set_option maxRecDepth 10000
set_option maxHeartbeats 40000000
theorem ok_len {M:MachM} (hM:M.ok) : ∀ r∈M.rows,r.length≤1000000:=fun r hr=>by
  have h1:=ok_row hM r hr
  have h2:M.inp≤16:=hM.2.1
  omega
theorem Check_yes {M:MachM} (hM:M.ok) (x:NodeM) (hx:sizeN x≤1000000) (hv:validM M.rows.length M.inp M.out x=true) (hsm:(smallM x 64).1=true) (g:Nat→Option Blk) (n:Nat) (ms xs:List AV) (hops:g 0=some opsB) (hn0:0 < n) (hr:RepM g n M ms) (hx0:repN g n x xs) :
    WC 6 Tryd.prog 28 [.agg ms,.agg xs] ⟨.fn g,n⟩ fun r=>∃ g' n',r=.ret (.lit (.int .i64 0)) ⟨.fn g',n'⟩∧n≤n'∧∀ b,b < n→g' b=g b:=by
  have HR:=Hide.mk hr
  have HX:=Hide.mk hx0
  have h0:=mErr_ok.2 hM
  obtain ⟨rv,svs,rfl,hrows,hrv⟩:=hr
  have h1r:=hrv.one
  have h1a:allOne [.lit (.int .i64 M.inp),.lit (.int .i64 M.out),rv]=true:=by simp [h1r]
  have hlen:=@lenV Tryd.prog _ _ _ _ _ hrv
  obtain ⟨k2,k3,sv2,hcy,h1c,hop2⟩:=repN_one hx0
  subst hcy
  have h1b:allOne [.lit (.int .u8 x.op),.lit (.int .i64 k2),.lit (.int .i64 k3),sv2]=true:=by simp [h1c]
  have HM:=Hide.mk (ok_len hM)
  clear hrows hrv hx0
  refine WC.enterP (noO_ok _ _) hG [] Tryd.func28 rfl (by decide +kernel) (Nat.le_of_ble_eq_true (by kernel_rfl)) ?_
  iterate 6 (all_goals try (first | with_reducible refine splitI (fun h=>?_) (fun h=>?_) | with_reducible refine splitBI (fun h=>?_) (fun h=>?_) | simp (config:={ maxSteps:=1000000 }) (disch:=first | assumption | omega | (simp; done) | fail) [Tryd.results28, *]))
  refine WC.mono (mCheck_w HM.out _ _ _ (HR.out.mono (by omega) fun q hq=>by simp (disch:=omega) only [gput_lt])) ?_
  rintro _ rfl
  rw [h0]
  iterate 6 (all_goals try (first | with_reducible refine splitI (fun h=>?_) (fun h=>?_) | with_reducible refine splitBI (fun h=>?_) (fun h=>?_) | simp (config:={ maxSteps:=1000000 }) (disch:=first | assumption | omega | (simp; done) | fail) [Tryd.results28, *]))
  refine WC.mono (checked_yes _ _ _ x hx hv hsm _ _ _ (by simp (disch:=omega) only [gput_lt]; exact hops) (by omega) (repN_mono (by omega) (fun a ha=>(by simp (disch:=omega) only [gput_lt])) HX.out)) ?_
  rintro _ ⟨g1,n1,rfl,hn1,hg1⟩
  have HG:=Hide.mk hg1
  clear hg1
  iterate 6 (all_goals try (first | with_reducible refine splitI (fun h=>?_) (fun h=>?_) | with_reducible refine splitBI (fun h=>?_) (fun h=>?_) | simp (config:={ maxSteps:=1000000 }) (disch:=first | assumption | omega | (simp; done) | fail) [Tryd.results28, *]))
  refine ⟨_,_,⟨rfl,rfl⟩,by omega,fun b hb=>?_⟩
  rw [HG.out b (by omega)]
  simp (disch:=omega) only [gput_lt]
def boolC (N z:Nat) : List AV:=(List.range N).map fun s=>.lit (.bool (z.testBit s))
def boolK (N z k:Nat) : List AV:=(List.range N).map fun s=>.lit (.bool (decide (s < k) && z.testBit s))
theorem boolK_len (N z k:Nat) : (boolK N z k).length=N:=by unfold boolK; rw [List.length_map,List.length_range]
theorem boolC_len (N z:Nat) : (boolC N z).length=N:=by unfold boolC; rw [List.length_map,List.length_range]
theorem boolK_zero (N z:Nat) : boolK N z 0=List.replicate N (.lit (.bool false)):=by
  unfold boolK
  apply List.ext_getElem
  · simp
  · intro i h1 h2; simp
theorem boolK_end (N z:Nat) : boolK N z N=boolC N z:=by
  unfold boolK boolC
  refine List.map_congr_left fun s hs=>?_
  rw [decide_eq_true (List.mem_range.1 hs)]; rfl
theorem boolK_at (N z k i:Nat) : (boolK N z k)[i]?=if i < N then some (.lit (.bool (decide (i < k) && z.testBit i))) else none:=by
  unfold boolK
  rw [List.getElem?_map]
  split
  · rename_i h; rw [List.getElem?_range h]; rfl
  · rename_i h; rw [List.getElem?_eq_none (by rw [List.length_range]; omega)]; rfl
theorem boolK_set (N z k:Nat) (hk:k < N) : (boolK N z k).set k (.lit (.bool (z.testBit k)))=boolK N z (k+1):=by
  apply List.ext_getElem?
  intro i
  rw [List.getElem?_set,boolK_at,boolK_at,boolK_len]
  split
  · rename_i e; subst e
    rw [if_pos hk,decide_eq_true (Nat.lt_succ_self _)]
    first | rfl | (rw [if_pos hk]; rfl)
  · rename_i e
    rw [show decide (i < k+1)=decide (i < k) by rw [decide_eq_decide]; omega]
theorem Sat_yes {M:MachM} (hM:M.ok) (x:NodeM) (hx:sizeN x≤1000000) (hv:validM M.rows.length M.inp M.out x=true) (hsm:(smallM x 64).1=true) (g:Nat→Option Blk) (n:Nat) (ms xs:List AV) (hops:g 0=some opsB) (hn0:0 < n) (hr:RepM g n M ms) (hx0:repN g n x xs) :
    WC 6 Tryd.prog 11 [.agg ms,.agg xs] ⟨.fn g,n⟩ fun r=>∃ A z g' n',r=.ret (.tup [.sl A 0 M.rows.length M.rows.length,.lit (.int .i64 0)]) ⟨.fn g',n'⟩∧n≤n'∧(∀ b,b < n→g' b=g b)∧n≤A∧A < n'∧g' A=some (.cells (boolC M.rows.length z) true 0)∧semN M x (sOf z):=by
  have HR:=Hide.mk hr
  have HX:=Hide.mk hx0
  obtain ⟨rv,svs,rfl,hrows,hrv⟩:=hr
  have h1r:=hrv.one
  have h1a:allOne [.lit (.int .i64 M.inp),.lit (.int .i64 M.out),rv]=true:=by simp [h1r]
  have hlen:=@lenV Tryd.prog _ _ _ _ _ hrv
  obtain ⟨k2,k3,sv2,hcy,h1c,hop2⟩:=repN_one hx0
  subst hcy
  have h1b:allOne [.lit (.int .u8 x.op),.lit (.int .i64 k2),.lit (.int .i64 k3),sv2]=true:=by simp [h1c]
  have h64:M.rows.length≤64:=hM.2.2.2.2.2.1
  have hz64:(M.rows.length:Int)≤1048576:=by omega
  clear hrows hrv hx0
  refine WC.enterP (noO_ok _ _) hG pl11 Tryd.func11 rfl (by decide +kernel) (Nat.le_of_ble_eq_true (by kernel_rfl)) ?_
  iterate 6 (all_goals try (first | with_reducible refine splitI (fun h=>?_) (fun h=>?_) | with_reducible refine splitBI (fun h=>?_) (fun h=>?_) | simp (config:={ maxSteps:=1000000 }) (disch:=first | assumption | omega | (simp; done) | fail) [Tryd.results11, *]))
  refine WC.mono (Check_yes hM x hx hv hsm _ _ _ _ (by simp (disch:=omega) only [gput_lt]; exact hops) (by omega) (HR.out.mono (by omega) fun q hq=>by simp (disch:=omega) only [gput_lt]) (repN_mono (by omega) (fun a ha=>(by simp (disch:=omega) only [gput_lt])) HX.out)) ?_
  rintro _ ⟨g1,n1,rfl,hn1,hg1⟩
  have HG:Hide (∀ b,b < n→g1 b=g b):=⟨fun b hb=>by rw [hg1 b (by omega)]; simp (disch:=omega) only [gput_lt]⟩
  have e0:g1 n=some (.cells [.lit (.int .i64 M.inp),.lit (.int .i64 M.out),rv] true 0):=by rw [hg1 n (by omega)]; simp (disch:=omega) only [gput_lt,gput_eq]
  have e1:g1 (n+1)=some (.cells [.lit (.int .u8 x.op),.lit (.int .i64 k2),.lit (.int .i64 k3),sv2] true 0):=by rw [hg1 (n+1) (by omega)]; simp (disch:=omega) only [gput_eq]
  clear hg1
  iterate 6 (all_goals try (first | with_reducible refine splitI (fun h=>?_) (fun h=>?_) | with_reducible refine splitBI (fun h=>?_) (fun h=>?_) | simp (config:={ maxSteps:=1000000 }) (disch:=first | assumption | omega | (simp; done) | fail) [Tryd.results11, *]))
  refine WC.mono (graphOf_w hM _ _ _ (HR.out.mono (by omega) fun q hq=>HG.out q hq)) ?_
  rintro _ ⟨cs,g2,n2,rfl,hn2,hg2,hgok⟩
  have HG2:Hide (∀ b,b < n→g2 b=g b):=⟨fun b hb=>by rw [hg2 b (by omega)]; exact HG.out b hb⟩
  have d0:=(hg2 n (by omega)).trans e0
  have d1:=(hg2 (n+1) (by omega)).trans e1
  have HGOK:=Hide.mk hgok
  obtain ⟨rv',nv',hcs,h1r',h1v'⟩:=hgok.one
  subst hcs
  clear hg2 e0 e1 hgok
  iterate 6 (all_goals try (first | with_reducible refine splitI (fun h=>?_) (fun h=>?_) | with_reducible refine splitBI (fun h=>?_) (fun h=>?_) | simp (config:={ maxSteps:=1000000 }) (disch:=first | assumption | omega | (simp; done) | fail) [Tryd.results11, *]))
  refine WC.mono (sat_w hM (sizeN x) x (Nat.le_refl _) hv _ _ _ _ ((HG2.out 0 hn0).trans hops) (by omega) HGOK.out (repN_mono (by omega) (fun a ha=>HG2.out a ha) HX.out)) ?_
  rintro _ ⟨z,rfl,hz,hsem⟩
  have HSEM:=Hide.mk hsem
  clear hsem
  iterate 6 (all_goals try (first | with_reducible refine splitI (fun h=>?_) (fun h=>?_) | with_reducible refine splitBI (fun h=>?_) (fun h=>?_) | simp (config:={ maxSteps:=1000000 }) (disch:=first | assumption | omega | (simp; done) | fail) [Tryd.results11, *]))
  refine LX.ind (fun m gf H'=>∃ (k:Nat) (g' : Nat→Option Blk),k≤M.rows.length∧m=M.rows.length - k∧H'=⟨.fn g',n2+1⟩∧(∀ q,q < n2→g' q=g2 q)∧g' n2=some (.cells (boolK M.rows.length z k) true 0) ∧
    gf 7=some (.lit (.int .u64 (z:Int)))∧gf 8=some (.sl n2 0 M.rows.length M.rows.length)∧gf 25=some (.lit (.int .i64 M.rows.length))∧gf 26=some (.lit (.int .i64 k))) (m0:=M.rows.length) ?_ ?_
  · refine ⟨0,_,Nat.zero_le _,rfl,rfl,fun q hq=>?_,?_,by simp,by simp,by simp,by simp⟩
    · simp (disch:=omega) only [gput_lt]
    · rw [boolK_zero]
      simp (disch:=omega) only [gput_eq]
      try rfl
  rintro m gf H' ⟨k,g3,hk,rfl,rfl,hg3,hA,w7,w8,w25,w26⟩ ih
  have HG3:=Hide.mk hg3
  clear hg3
  refine LX.roundP (noO_ok _ _) hG pl11 (by decide +kernel) ?_
  by_cases hlt:k < M.rows.length
  · have hltI:(k:Int) < (M.rows.length:Int):=by omega
    have hk63:k≤63:=by omega
    have hul:=boolK_len M.rows.length z k
    have hset:=boolK_set M.rows.length z k hlt
    have HW:=Hide.mk (has_w z k hz hk63)
    have HSET:=Hide.mk hset
    clear hset
    generalize boolK M.rows.length z k=L at *
    generalize z.testBit k=bb at HW HSET
    have hkL:k < L.length:=by omega
    cases bb
    · have hkl:k+[(.lit (.bool false) : AV)].length≤L.length:=hkL
      iterate 6 (all_goals try (first | with_reducible refine splitI (fun h=>?_) (fun h=>?_) | with_reducible refine splitBI (fun h=>?_) (fun h=>?_) | simp (config:={ maxSteps:=1000000 }) (disch:=first | assumption | omega | (simp; done) | fail) [Tryd.results11, *]))
      refine WC.mono (HW.out _) ?_
      rintro _ rfl
      iterate 6 (all_goals try (first | with_reducible refine splitI (fun h=>?_) (fun h=>?_) | with_reducible refine splitBI (fun h=>?_) (fun h=>?_) | simp (config:={ maxSteps:=1000000 }) (disch:=first | assumption | omega | (simp; done) | fail) [Tryd.results11, *]))
      refine ih.out (M.rows.length - (k+1)) _ _ (by omega) ⟨k+1,_,by omega,rfl,rfl,fun q hq=>?_,?_,by simp [*],by simp [*],by simp [*],by simp⟩
      · simp (disch:=omega) only [gput_ne]
        exact HG3.out q hq
      · simp (disch:=omega) only [gput_eq]
        rw [← HSET.out,put_set hkL]
    · have hkl:k+[(.lit (.bool true) : AV)].length≤L.length:=hkL
      iterate 6 (all_goals try (first | with_reducible refine splitI (fun h=>?_) (fun h=>?_) | with_reducible refine splitBI (fun h=>?_) (fun h=>?_) | simp (config:={ maxSteps:=1000000 }) (disch:=first | assumption | omega | (simp; done) | fail) [Tryd.results11, *]))
      refine WC.mono (HW.out _) ?_
      rintro _ rfl
      iterate 6 (all_goals try (first | with_reducible refine splitI (fun h=>?_) (fun h=>?_) | with_reducible refine splitBI (fun h=>?_) (fun h=>?_) | simp (config:={ maxSteps:=1000000 }) (disch:=first | assumption | omega | (simp; done) | fail) [Tryd.results11, *]))
      refine ih.out (M.rows.length - (k+1)) _ _ (by omega) ⟨k+1,_,by omega,rfl,rfl,fun q hq=>?_,?_,by simp [*],by simp [*],by simp [*],by simp⟩
      · simp (disch:=omega) only [gput_ne]
        exact HG3.out q hq
      · simp (disch:=omega) only [gput_eq]
        rw [← HSET.out,put_set hkL]
  · have hltI:¬(k:Int) < (M.rows.length:Int):=by omega
    have hk2:k=M.rows.length:=by omega
    have HK2:=Hide.mk hk2
    clear hk2
    iterate 6 (all_goals try (first | with_reducible refine splitI (fun h=>?_) (fun h=>?_) | with_reducible refine splitBI (fun h=>?_) (fun h=>?_) | simp (config:={ maxSteps:=1000000 }) (disch:=first | assumption | omega | (simp; done) | fail) [Tryd.results11, *]))
    refine ⟨_,z,_,_,⟨rfl,rfl,rfl⟩,by omega,fun q hq=>by rw [HG3.out q (by omega)]; exact HG2.out q hq,by omega,by omega,?_,HSEM.out⟩
    rw [← boolK_end]
    have:=hA
    rw [HK2.out] at this
    exact this
end Go.Ai
end
section
namespace Go.Ai
open Go.Proofs
set_option maxRecDepth 10000
set_option maxHeartbeats 40000000
theorem rSat_w {M:MachM} (hM:M.ok) : ∀ m,RSatW M m:=by
  intro m
  induction m with
  | zero=>intro x hx; cases x; unfold sizeN at hx; omega
  | succ m ih =>
    intro x hx hv g n ms xs hr hx0
    cases x with
    | mk op a b subs =>
    have v1:op < 15:=by
      have h:=hv
      unfold validM at h
      simp only [Bool.and_eq_true,decide_eq_true_eq] at h
      exact h.1
    rcases op_cases v1 with rfl | rfl | rfl | rfl | rfl | rfl | rfl | rfl | rfl | rfl | rfl | rfl | rfl | rfl | rfl
    · exact rsem0_w hM ih a b subs hx hv g n ms xs hr hx0
    · exact rsem1_w hM ih a b subs hx hv g n ms xs hr hx0
    · exact rsem2_w hM ih a b subs hx hv g n ms xs hr hx0
    · exact rsem3_w hM ih a b subs hx hv g n ms xs hr hx0
    · exact rsem4_w hM ih a b subs hx hv g n ms xs hr hx0
    · exact rsem5_w hM ih a b subs hx hv g n ms xs hr hx0
    · exact rsem6_w hM ih a b subs hx hv g n ms xs hr hx0
    · exact rsem7_w hM ih a b subs hx hv g n ms xs hr hx0
    · exact rsem8_w hM ih a b subs hx hv g n ms xs hr hx0
    · exact rsem9_w hM ih a b subs hx hv g n ms xs hr hx0
    · exact rsem10_w hM ih a b subs hx hv g n ms xs hr hx0
    · exact rsem11_w hM ih a b subs hx hv g n ms xs hr hx0
    · exact rsem12_w hM ih a b subs hx hv g n ms xs hr hx0
    · exact rsem13_w hM ih a b subs hx hv g n ms xs hr hx0
    · exact rsem14_w hM ih a b subs hx hv g n ms xs hr hx0
theorem boolC_at (N z i:Nat) : (boolC N z)[i]?=if i < N then some (.lit (.bool (z.testBit i))) else none:=by
  unfold boolC
  rw [List.getElem?_map]
  split
  · rename_i h; rw [List.getElem?_range h]; rfl
  · rename_i h; rw [List.getElem?_eq_none (by rw [List.length_range]; omega)]; rfl
theorem truths_w (N z:Nat) (X:SetS) (hN:N≤1000000) (A B:Nat) (g:Nat→Option Blk) (n:Nat) (hA:g A=some (.cells (boolC N z) true 0)) (hB:g B=some (.cells (intC N X) true 0)) (h:eqS N (sOf z) X) :
    WC 6 Tryd.prog 12 [.sl A 0 N N,.sl B 0 N N] ⟨.fn g,n⟩ fun r=>r=.ret (.lit (.int .i64 1)) ⟨.fn g,n⟩:=by
  have HE:=Hide.mk h
  have hlA:=boolC_len N z
  have hlB:=intC_len N X
  clear h
  refine WC.enterP (noO_ok _ _) hG pl12 Tryd.func12 rfl (by decide +kernel) (Nat.le_of_ble_eq_true (by kernel_rfl)) ?_
  iterate 6 (all_goals try (first | with_reducible refine splitI (fun h=>?_) (fun h=>?_) | with_reducible refine splitBI (fun h=>?_) (fun h=>?_) | simp (config:={ maxSteps:=1000000 }) (disch:=first | assumption | omega | (simp; done) | fail) [Tryd.results12, *]))
  refine LX.ind (fun m gf H'=>∃ (k:Nat),k≤N∧m=N - k∧H'=⟨.fn g,n⟩∧gf 0=some (.sl A 0 N N)∧gf 1=some (.sl B 0 N N)∧gf 5=some (.lit (.int .i64 k))) (m0:=N) ?_ ?_
  · exact ⟨0,Nat.zero_le _,rfl,rfl,by simp,by simp,by simp⟩
  rintro m gf H' ⟨k,hk,rfl,rfl,w0,w1,w5⟩ ih
  refine LX.roundP (noO_ok _ _) hG pl12 (by decide +kernel) ?_
  by_cases hlt:k < N
  · have hltI:(k:Int) < (N:Int):=by omega
    have hatA:=boolC_at N z k
    have hatB:=intC_at N X k
    rw [if_pos hlt] at hatA hatB
    have hkA:k < (boolC N z).length:=by omega
    have hkB:k < (intC N X).length:=by omega
    have hgA:(boolC N z)[k]'hkA=.lit (.bool (z.testBit k)):=by
      rw [List.getElem?_eq_getElem hkA] at hatA
      exact Option.some.inj hatA
    have hgB:(intC N X)[k]'hkB=.lit (.int .i64 (b01 (X k))):=by
      rw [List.getElem?_eq_getElem hkB] at hatB
      exact Option.some.inj hatB
    have he:z.testBit k=X k:=HE.out k hlt
    rw [he] at hgA
    clear hatA hatB he
    cases hx:X k
    all_goals
      rw [hx] at hgA hgB
      simp only [b01] at hgB
      iterate 6 (all_goals try (first | with_reducible refine splitI (fun h=>?_) (fun h=>?_) | with_reducible refine splitBI (fun h=>?_) (fun h=>?_) | simp (config:={ maxSteps:=1000000 }) (disch:=first | assumption | omega | (simp; done) | fail) [Tryd.results12, *]))
      refine ih.out (N - (k+1)) _ _ (by omega) ⟨k+1,by omega,rfl,rfl,by simp [*],by simp [*],by simp⟩
  · have hltI:¬(k:Int) < (N:Int):=by omega
    iterate 6 (all_goals try (first | with_reducible refine splitI (fun h=>?_) (fun h=>?_) | with_reducible refine splitBI (fun h=>?_) (fun h=>?_) | simp (config:={ maxSteps:=1000000 }) (disch:=first | assumption | omega | (simp; done) | fail) [Tryd.results12, *]))
end Go.Ai
end
section
namespace Go.Ai
open Go.Proofs
set_option maxRecDepth 10000
set_option maxHeartbeats 40000000
end Go.Ai
end
section
namespace Go.Proofs
open Go.Shelf
end Go.Proofs
end
section
namespace Go.Ai
open Go.Proofs
set_option maxRecDepth 10000
set_option maxHeartbeats 40000000
def truthM (b:Bool) : Int:=if b then 1 else 0
theorem truthM_t:truthM true=1:=(rfl)
theorem truthM_f:truthM false=0:=(rfl)
attribute [simp] truthM_t truthM_f
end Go.Ai
end
section
namespace Go.Ai
open Go.Proofs
set_option maxRecDepth 10000
set_option maxHeartbeats 40000000
end Go.Ai
end
section
namespace Go.Ai
open Go.Proofs
set_option maxRecDepth 10000
theorem Sim.old {B G:Nat} {ρ:Rn} {H:Mem} {w w' : World} (s:Sim B G ρ H w) (h:RowKit.Below w.heap.size w w') : Sim B G ρ H w' :=
  s.other h.size fun a x b o k hx hr=>h.block b (s.at hx hr).lt
end Go.Ai
end
section
namespace Go.Ai
open Go.Proofs
set_option maxRecDepth 10000
set_option maxHeartbeats 40000000
theorem if_144:ifaceT Tryd.prog 144=true:=by kernel_rfl
attribute [simp] if_144
def parB (s:ByteArray) (k:Nat) : Blk:=.cells [.lit (.string s),.lit (.string (tokB s k)),.lit (.int .i64 (k:Nat))] true 0
structure PAt (s:ByteArray) (p:Nat) (g:Nat→Option Blk) (n k:Nat) : Prop where
  ops:g 0=some opsB
  pw:g 1=some (.cells bP false 0)
  e2:g 2=some (.cells bX false 0)
  e3:g 3=some (.cells bY false 0)
  p0:3 < p
  pn:p < n
  cell:g p=some (parB s k)
  le:k≤s.size
theorem PAt.step {s:ByteArray} {p n n' k k' : Nat} {g g' : Nat→Option Blk} (h:PAt s p g n k) (hn:n≤n') (hg:∀ a,a < n→a≠p→g' a=g a) (hc:g' p=some (parB s k')) (hk:k'≤s.size) : PAt s p g' n' k':=by
  have h1:=h.p0
  have h2:=h.pn
  exact ⟨(hg 0 (by omega) (by omega)).trans h.ops,(hg 1 (by omega) (by omega)).trans h.pw,(hg 2 (by omega) (by omega)).trans h.e2,(hg 3 (by omega) (by omega)).trans h.e3,h1,by omega,hc,hk⟩
theorem PAt.keep {s:ByteArray} {p n n' k:Nat} {g g' : Nat→Option Blk} (h:PAt s p g n k) (hn:n≤n') (hg:∀ a,a < n→g' a=g a) : PAt s p g' n' k :=
  h.step hn (fun a ha _=>hg a ha) ((hg p h.pn).trans h.cell) h.le
end Go.Ai
end
section
namespace Go.Ai
open Go.Proofs
set_option maxRecDepth 10000
set_option maxHeartbeats 40000000
end Go.Ai
end
section
namespace Go.Ai
open Go.Proofs
set_option maxRecDepth 10000
set_option maxHeartbeats 40000000
end Go.Ai
end
section
namespace Go.Ai
open Go.Proofs
set_option maxRecDepth 10000
set_option maxHeartbeats 40000000
end Go.Ai
end
section
namespace Go.Ai
open Go.Proofs
set_option maxRecDepth 10000
set_option maxHeartbeats 40000000
end Go.Ai
end
section
namespace Go.Ai
open Go.Proofs
set_option maxRecDepth 10000
set_option maxHeartbeats 40000000
end Go.Ai
end
section
namespace Go.Ai
open Go.Proofs
set_option maxRecDepth 10000
set_option maxHeartbeats 40000000
def ResAt (pos:List Nat) (res:ParR) (x:NodeM) (j:Nat) (e:Int) : Prop :=
  match res with
  | .ok y k=>e=1∧x=y∧pos[j]?=some k
  | .err k=>e=0∧pos[j]?=some k
theorem ResAt.has {pos:List Nat} {res:ParR} {x:NodeM} {j:Nat} {e:Int} (h:ResAt pos res x j e) : ∃ k,pos[j]?=some k:=by
  cases res with
  | ok y k=>exact ⟨k,h.2.2⟩
  | err k=>exact ⟨k,h.2⟩
theorem ResAt.ok {pos:List Nat} {res:ParR} {x:NodeM} {j:Nat} (h:ResAt pos res x j 1) : ∃ y k,res=.ok y k∧x=y∧pos[j]?=some k:=by
  cases res with
  | ok y k=>exact ⟨y,k,rfl,h.2.1,h.2.2⟩
  | err k=>exact absurd h.1 (by decide)
end Go.Ai
end
section
namespace Go.Ai
open Go.Proofs
set_option maxRecDepth 10000
end Go.Ai
end
section
namespace Go.Ai
open Go.Proofs
set_option maxRecDepth 10000
set_option maxHeartbeats 4000000
section
variable {P:Program} {O:CallF} {L:LoopF} {ops:Array Oper} {l:List Oper} {fr:Fr} {u:Mode} {H H' : Mem} {d:Option Tmp} {op:Op} {t:TypeId} {p:String} {af:Array Edge}
end
section
variable {P:Program} {W:WF} {Q:Out→Prop} {fr:Fr} {H:Mem} {ev:Ev} {d:Option Tmp} {ty:TypeId} {p:String} {af:Array Edge} {g:Option (Nat×Bool)}
noncomputable def dfrS (P:Program) (H:Mem) (ev:Ev) (o:Oper) (args:Option (List AV)) (f:Option AV) : R:=match args,f with
  | some args,some (.func fn first cap)=>.dfr fn cap (first++args) H
  | _,_=>opV P H ev o
theorem op_defer {f:Operand} {args:Array Operand} {at_:Array TypeId} : opV P H ev ⟨d,.defer ⟨.value f,args,at_⟩,ty,p,af,g⟩=dfrS P H ev ⟨d,.defer ⟨.value f,args,at_⟩,ty,p,af,g⟩ (evals ev args.toList) (ev f):=by
  unfold dfrS
  split
  · rename_i l fn first cap h1 h2
    show deferOp H ev ⟨.value f,args,at_⟩=_
    unfold deferOp
    dsimp only
    rw [h1]
    dsimp only
    rw [h2]
  · rfl
theorem dfrS_congr {tk:Nat} (_h0:tick=tk) {o:Oper} {args args' : Option (List AV)} {f f' : Option AV} (h1:args=args') (h2:f=f') : dfrS P H ev o args f=dfrS P H ev o args' f':=by rw [h1,h2]
attribute [congr] dfrS_congr
theorem dfrS_some {o:Oper} {args first cap:List AV} {fn:Fn} : dfrS P H ev o (some args) (some (.func fn first cap))=.dfr fn cap (first++args) H:=(rfl)
theorem afterW_dfr {o:Oper} {k:Fr→Mem→Prop} {fn:Fn} {cap args:List AV} : afterW W o fr k Q (.dfr fn cap args H)=k ((fr.defer (fn,cap,args)).put o.dst (.lit undef)) H:=(rfl)
theorem fr_defer {gf:Nat→Option AV} {ds:List Dfr} {x:Dfr} : (Fr.f gf ds).defer x=Fr.f gf (x :: ds):=(rfl)
attribute [simp] op_defer dfrS_some afterW_dfr fr_defer
end
theorem lastW_ret {P:Program} {fn:Func} {fr:Fr} {K:COut→Prop} {H:Mem} : lastW P fn fr K .returning H=endW P fn.results.toList K fr H:=by
  unfold lastW resultsA endW
  dsimp only
  rcases resVars P fr H fn.results.toList with _ | l
  · rfl
  · match l with
    | []=>rfl
    | [_]=>rfl
    | _ :: _ :: _=>rfl
theorem leaveX_nil {G:Nat} {P:Program} {O:CallF} {fn:Func} {K:COut→Prop} {H:Mem} {gf:Nat→Option AV} : leaveX G P O fn K (.ret (.f gf []) H)=endW P fn.results.toList K (.f gf []) H:=lastW_ret
attribute [simp] leaveX_nil
end Go.Ai
end
section
namespace Go.Ai
open Go.Proofs
set_option maxRecDepth 10000
set_option maxHeartbeats 40000000
end Go.Ai
end
section
namespace Go.Ai
open Go.Proofs
set_option maxRecDepth 10000
set_option maxHeartbeats 40000000
end Go.Ai
end
section
namespace Go.Ai
open Go.Proofs
set_option maxRecDepth 10000
set_option maxHeartbeats 40000000
end Go.Ai
end
section
namespace Go.Ai
open Go.Proofs
set_option maxRecDepth 10000
set_option maxHeartbeats 40000000
end Go.Ai
end
section
namespace Go.Ai
open Go.Proofs
set_option maxRecDepth 10000
set_option maxHeartbeats 40000000
end Go.Ai
end
section
namespace Go.Ai
open Go.Proofs
set_option maxRecDepth 10000
set_option maxHeartbeats 40000000
end Go.Ai
end
section
namespace Go.Ai
open Go.Proofs
set_option maxRecDepth 10000
set_option maxHeartbeats 40000000
def u16Cells (l:List Nat) : List AV:=l.map fun (c:Nat)=>.lit (.int .u16 (c:Int))
theorem MOf_w (st inp out:Nat) (part:Bool) (es:List Nat) (ev:AV) (g:Nat→Option Blk) (n:Nat) (hst:st < 256) (hinp:inp < 256) (hout:out < 256) (hes:SliceA g n ev es.length (u16Cells es)) (heb:∀ c∈es,c < 65536) :
    WC 6 Tryd.prog 29 [.agg [.lit (.int .u8 st),.lit (.int .u8 inp),.lit (.int .u8 out),.lit (.bool part),ev]] ⟨.fn g,n⟩ fun r=>∃ cs g' n',r=.ret (.agg cs) ⟨.fn g',n'⟩∧n≤n'∧(∀ b,b < n→g' b=g b)∧FreshM g' n n' (machOf st inp out part es) cs:=by
  have h1e:=hes.one
  have h1a:allOne [.lit (.int .u8 st),.lit (.int .u8 inp),.lit (.int .u8 out),.lit (.bool part),ev]=true:=by simp [h1e]
  have HE:=Hide.mk hes
  have HB:=Hide.mk heb
  clear hes heb
  have hm1:(st:Int).tmod 6=((st % 6:Nat) : Int):=(Int.ofNat_tmod st 6).symm
  have hm2:(inp:Int).tmod 3=((inp % 3:Nat) : Int):=(Int.ofNat_tmod inp 3).symm
  have hm3:(out:Int).tmod 3=((out % 3:Nat) : Int):=(Int.ofNat_tmod out 3).symm
  have HM:Hide (machOf st inp out part es=⟨1+((inp % 3:Nat) : Int),1+((out % 3:Nat) : Int),(List.range (1+st % 6)).map (rowM part es (1+st % 6) (1+inp % 3) (1+out % 3))⟩):=⟨rfl⟩
  have ha:=Nat.mod_lt st (show 0 < 6 by omega)
  have hb:=Nat.mod_lt inp (show 0 < 3 by omega)
  have hc:=Nat.mod_lt out (show 0 < 3 by omega)
  generalize machOf st inp out part es=M at *
  generalize st % 6=a at *
  generalize inp % 3=b at *
  generalize out % 3=c at *
  refine WC.enterP (noO_ok _ _) hG pl29 Tryd.func29 rfl (by decide +kernel) (Nat.le_of_ble_eq_true (by kernel_rfl)) ?_
  iterate 6 (all_goals try (first | with_reducible refine splitI (fun h=>?_) (fun h=>?_) | with_reducible refine splitBI (fun h=>?_) (fun h=>?_) | simp (config:={ maxSteps:=1000000 }) (disch:=first | assumption | omega | (simp; done) | fail) [Tryd.results29, *]))
  refine LX.ind (fun m gf H'=>∃ (s n' : Nat) (g' gk:Nat→Option Blk) (A:Nat) (rv:AV) (svs:List AV),s≤1+a∧m=1+a - s∧H'=⟨.fn g',n'⟩∧n+1+1+1≤n'∧(∀ b,b < n→g' b=g b)∧g' n=some (.cells [.lit (.int .u8 st),.lit (.int .u8 inp),.lit (.int .u8 out),.lit (.bool part),ev] true 0)∧g' (n+1)=some (.cells [.lit (.int .i64 0),.lit (.int .i64 0),.lit (.slice none 0 0)] true 0)∧g' (n+1+1)=some (.cells [.lit (.int .i64 (1+(b:Int))),.lit (.int .i64 (1+(c:Int))),rv] true 0) ∧
    GrowV g' (n+1+1+1) n' A rv s 1 svs∧RowsE gk n' ((List.range s).map (rowM part es (1+a) (1+b) (1+c))) svs∧(∀ q z,gk q=some z→g' q=some z∧q≠A∧n+1+1+1≤q∧q < n')∧gf 1=some (.ptr n 0)∧gf 2=some (.ptr (n+1) 0)∧gf 3=some (.lit (.int .i64 (1+(a:Int))))∧gf 4=some (.ptr (n+1+1) 0)∧gf 5=some (.lit (.int .i64 s))) (m0:=1+a) ?_ ?_
  · refine ⟨0,_,_,fun _=>none,0,_,[],by omega,rfl,rfl,by omega,fun q hq=>?_,?_,?_,?_,.inl ⟨rfl,rfl,rfl⟩,rfl,fun q z h=>(by cases h),by simp,by simp,by simp,by simp,by simp⟩
    · simp (disch:=omega) only [gput_lt]
    · simp (disch:=omega) only [gput_lt,gput_eq]
    · simp (disch:=omega) only [gput_lt,gput_eq]
    · simp (disch:=omega) only [gput_lt,gput_eq]
  rintro m gf H' ⟨s,n1,g1,gk,A,rv,svs,hs,rfl,rfl,hn1,hg1,e0,e1,e2,hA,hrows,hk,w1,w2,w3,w4,w5⟩ ih
  have HG1:=Hide.mk hg1
  have HA:=Hide.mk hA
  have HK:=Hide.mk hk
  have HR:=Hide.mk hrows
  clear hg1 hA hk hrows
  refine LX.roundP (noO_ok _ _) hG pl29 (by decide +kernel) ?_
  by_cases hlt:s < 1+a
  · have hltI:(s:Int) < 1+(a:Int):=by omega
    iterate 6 (all_goals try (first | with_reducible refine splitI (fun h=>?_) (fun h=>?_) | with_reducible refine splitBI (fun h=>?_) (fun h=>?_) | simp (config:={ maxSteps:=1000000 }) (disch:=first | assumption | omega | (simp; done) | fail) [Tryd.results29, *]))
    refine LX.ind (fun m gf H'=>∃ (j n' : Nat) (g' : Nat→Option Blk) (B:Nat) (sv:AV) (rr:List AV),j≤1+b∧m=1+b - j∧H'=⟨.fn g',n'⟩∧n1≤n'∧(∀ q,q < n1→g' q=g1 q) ∧
      GrowV g' n1 n' B sv j 2 rr∧Hide (rr=rowC ((List.range j).map fun i=>edgeM part (1+a) (1+c) (es.getD (s * (1+b)+i) 0)))∧gf 1=some (.ptr n 0)∧gf 2=some (.ptr (n+1) 0)∧gf 3=some (.lit (.int .i64 (1+(a:Int))))∧gf 4=some (.ptr (n+1+1) 0)∧gf 5=some (.lit (.int .i64 s))∧gf 6=some sv∧gf 7=some (.lit (.int .i64 j))) (m0:=1+b) ?_ ?_
    · refine ⟨0,_,_,0,_,_,by omega,rfl,rfl,by omega,fun q hq=>rfl,.inl ⟨rfl,rfl,rfl⟩,⟨rfl⟩,by simp [*],by simp [*],by simp [*],by simp [*],by simp [*],by simp,by simp⟩
    rintro m gf H' ⟨j,n',g',B,sv,rr,hj,rfl,rfl,hn',hg',hB,hrr,v1,v2,v3,v4,v5,v6,v7⟩ ihj
    have HG:=Hide.mk hg'
    have HBv:=Hide.mk hB
    clear hg' hB
    have f0:=(HG.out n (by omega)).trans e0
    have f2:=(HG.out (n+1+1) (by omega)).trans e2
    refine LX.roundP (noO_ok _ _) hG pl29 (by decide +kernel) ?_
    by_cases hjt:j < 1+b
    · have hjtI:(j:Int) < 1+(b:Int):=by omega
      have hp:s * (1+b)≤15:=Nat.le_trans (Nat.mul_le_mul (show s≤5 by omega) (show 1+b≤3 by omega)) (by omega)
      have hmul:(s:Int) * (1+(b:Int))=((s * (1+b) : Nat) : Int):=by simp
      generalize hpe:s * (1+b)=p at *
      have hvl:es.getD (p+j) 0 < 65536:=by
        rw [List.getD_eq_getElem?_getD]
        cases hq:es[p+j]? with
        | none=>simp
        | some x=>exact HB.out x (List.mem_of_getElem? hq)
      generalize hv:es.getD (p+j) 0=v at *
      have hq4:(v:Int).tdiv 4=((v / 4:Nat) : Int):=rfl
      have hr4:(v:Int).tmod 4=((v % 4:Nat) : Int):=(Int.ofNat_tmod v 4).symm
      generalize hqe:v / 4=q at *
      generalize hre:v % 4=r at *
      have hqa:(q:Int).tmod (1+(a:Int))=((q % (1+a) : Nat) : Int):=by rw [show (1+(a:Int))=((1+a:Nat) : Int) by omega]; exact (Int.ofNat_tmod q (1+a)).symm
      have hqb:(q:Int).tdiv (1+(a:Int))=((q / (1+a) : Nat) : Int):=by rw [show (1+(a:Int))=((1+a:Nat) : Int) by omega]; rfl
      have hql:q / (1+a)≤q:=Nat.div_le_self _ _
      generalize hde:q / (1+a)=d at *
      have hdc:(d:Int).tmod (1+(c:Int))=((d % (1+c) : Nat) : Int):=by rw [show (1+(c:Int))=((1+c:Nat) : Int) by omega]; exact (Int.ofNat_tmod d (1+c)).symm
      have hEd:Hide (edgeM part (1+a) (1+c) v=if part=true∧r=3 then (-1,-1) else (((q % (1+a) : Nat) : Int),((d % (1+c) : Nat) : Int))):=⟨by rw [← hre,← hde,← hqe]; rfl⟩
      have hz:v=0→q % (1+a)=0∧d % (1+c)=0∧r=0:=fun e=>by
        have e1:q=0:=by rw [← hqe,e]
        have e2:d=0:=by rw [← hde,e1]; simp
        have e3:r=0:=by rw [← hre,e]
        exact ⟨by rw [e1]; simp,by rw [e2]; simp,e3⟩
      have HZ:=Hide.mk hz
      clear hz
      generalize q % (1+a)=x at *
      generalize d % (1+c)=y at *
      have hql2:q≤v:=by omega
      have hlen:∀ {H:Mem} {e' : Ev} {o:Oper} {c' : Call} {e:TypeId},lenS Tryd.prog H e' o c' (some (.slice e)) (some [ev])=.val (.lit (.int .i64 es.length)) H:=by
        intro H e' o c' e
        rcases HE.out with ⟨h1,rfl | rfl⟩ | ⟨a2,off,c2,_,rfl,_⟩
        · rw [h1]; rfl
        · rw [h1]; rfl
        · rfl
      have hEr:Hide (rowC (List.map (fun i=>edgeM part (1+a) (1+c) (es.getD (p+i) 0)) (List.range (j+1)))=rr++[.lit (.int .i64 (edgeM part (1+a) (1+c) v).1),.lit (.int .i64 (edgeM part (1+a) (1+c) v).2)]):=⟨by rw [List.range_succ,List.map_append,List.map_singleton,hv,rowC_snoc,hrr.out]⟩
      have hdv:d≤v:=by omega
      clear hqe hre hde hql
      by_cases hin:p+j < es.length
      · have hinI:(p:Int)+(j:Int) < (es.length:Int):=by omega
        rcases HE.out with ⟨h1,_⟩ | ⟨a2,off,c2,ha2,rfl,hrow⟩
        · omega
        have hnum:=(hrow.mono ((HG.out a2 (by omega)).trans (HG1.out a2 ha2))).one (k:=p+j) (s:=1) (by simp only [u16Cells,List.length_map]; exact hin)
        have hcell:(u16Cells es)[p+j]'(by simp only [u16Cells,List.length_map]; exact hin)=.lit (.int .u16 (v:Int)):=by simp only [u16Cells,List.getElem_map]; rw [← hv,List.getD_eq_getElem?_getD,List.getElem?_eq_getElem hin]; rfl
        rw [hcell] at hnum
        clear hv hcell hrow
        have htn:((p:Int)+(j:Int)).toNat=p+j:=by omega
        rcases HBv.out with hB0 | ⟨hpos,hsv,hB1,hB2,hB3,hB4⟩
        · obtain ⟨hj0,hnil,hsv⟩:=hB0
          subst hsv
          have HJ:=Hide.mk (And.intro hj0 hnil)
          clear hj0 hnil
          cases part <;> by_cases hr3:r=3
          all_goals
            first
              | have hrI:(r:Int)=3:=by omega
              | have hrI:¬(r:Int)=3:=by omega
            iterate 6 (all_goals try (first | with_reducible refine splitI (fun h=>?_) (fun h=>?_) | with_reducible refine splitBI (fun h=>?_) (fun h=>?_) | simp (config:={ maxSteps:=1000000 }) (disch:=first | assumption | omega | (simp; done) | fail) [Tryd.results29, *]))
            refine ihj.out (1+b - (j+1)) _ _ (by omega) ⟨j+1,n'+1+1,_,n'+1,.slq (n'+1) 0 (j+1) 0,_,by omega,rfl,rfl,by omega,fun q hq=>?_,.mk gput_eq (by omega) (by omega) ?_,⟨?_⟩,by simp [*],by simp [*],by simp [*],by simp [*],by simp [*],by rw [HJ.out.1]; simp [*],by simp⟩
            · simp (disch:=omega) only [gput_lt,gput_ne]
              exact HG.out q hq
            · rw [HJ.out.1]; simp [*]
            · rw [hEr.out,hEd.out]
              rw [HJ.out.2]; simp [*]
        · subst hsv
          have hj6:j≤1000000:=by omega
          cases part <;> by_cases hr3:r=3
          all_goals
            first
              | have hrI:(r:Int)=3:=by omega
              | have hrI:¬(r:Int)=3:=by omega
            iterate 6 (all_goals try (first | with_reducible refine splitI (fun h=>?_) (fun h=>?_) | with_reducible refine splitBI (fun h=>?_) (fun h=>?_) | simp (config:={ maxSteps:=1000000 }) (disch:=first | assumption | omega | (simp; done) | fail) [Tryd.results29, *]))
            refine ihj.out (1+b - (j+1)) _ _ (by omega) ⟨j+1,n'+1+1,_,n'+1,.slq (n'+1) 0 (j+1) 0,_,by omega,rfl,rfl,by omega,fun q hq=>?_,.mk gput_eq (by omega) (by omega) ?_,⟨?_⟩,by simp [*],by simp [*],by simp [*],by simp [*],by simp [*],by simp [*],by simp⟩
            · simp (disch:=omega) only [gput_lt,gput_ne]
              exact HG.out q hq
            · simp [*]; omega
            · rw [hEr.out,hEd.out]
              simp [*]
      · have hinI:¬(p:Int)+(j:Int) < (es.length:Int):=by omega
        have hv0:v=0:=by
          rw [← hv,List.getD_eq_getElem?_getD,List.getElem?_eq_none (by omega)]; rfl
        obtain ⟨hx0,hy0,hr0⟩:=HZ.out hv0
        clear hv hq4 hr4 hqa hqb hdc
        rcases HBv.out with hB0 | ⟨hpos,hsv,hB1,hB2,hB3,hB4⟩
        · obtain ⟨hj0,hnil,hsv⟩:=hB0
          subst hsv
          have HJ:=Hide.mk (And.intro hj0 hnil)
          clear hj0 hnil
          cases part
          all_goals
            iterate 6 (all_goals try (first | with_reducible refine splitI (fun h=>?_) (fun h=>?_) | with_reducible refine splitBI (fun h=>?_) (fun h=>?_) | simp (config:={ maxSteps:=1000000 }) (disch:=first | assumption | omega | (simp; done) | fail) [Tryd.results29, *]))
            refine ihj.out (1+b - (j+1)) _ _ (by omega) ⟨j+1,n'+1+1,_,n'+1,.slq (n'+1) 0 (j+1) 0,_,by omega,rfl,rfl,by omega,fun q hq=>?_,.mk gput_eq (by omega) (by omega) ?_,⟨?_⟩,by simp [*],by simp [*],by simp [*],by simp [*],by simp [*],by rw [HJ.out.1]; simp [*],by simp⟩
            · simp (disch:=omega) only [gput_lt,gput_ne]
              exact HG.out q hq
            · rw [HJ.out.1]; simp [*]
            · rw [hEr.out,hEd.out]
              rw [HJ.out.2]; simp [*]
        · subst hsv
          have hj6:j≤1000000:=by omega
          cases part
          all_goals
            iterate 6 (all_goals try (first | with_reducible refine splitI (fun h=>?_) (fun h=>?_) | with_reducible refine splitBI (fun h=>?_) (fun h=>?_) | simp (config:={ maxSteps:=1000000 }) (disch:=first | assumption | omega | (simp; done) | fail) [Tryd.results29, *]))
            refine ihj.out (1+b - (j+1)) _ _ (by omega) ⟨j+1,n'+1+1,_,n'+1,.slq (n'+1) 0 (j+1) 0,_,by omega,rfl,rfl,by omega,fun q hq=>?_,.mk gput_eq (by omega) (by omega) ?_,⟨?_⟩,by simp [*],by simp [*],by simp [*],by simp [*],by simp [*],by simp [*],by simp⟩
            · simp (disch:=omega) only [gput_lt,gput_ne]
              exact HG.out q hq
            · simp [*]; omega
            · rw [hEr.out,hEd.out]
              simp [*]
    · have Hj2:Hide (j=1+b):=⟨by omega⟩
      have hjtI:¬(j:Int) < 1+(b:Int):=by omega
      have hs6:s≤1000000:=by omega
      rcases HBv.out with ⟨h0,_⟩ | ⟨hpos,hsv,hB1,hB2,hB3,hB4⟩
      · omega
      subst hsv
      have HB4:=Hide.mk hB4
      clear hB4
      have HR2:Hide (RowsE (gput gk B (some (.cells rr true 2))) (n'+1+1) ((List.range (s+1)).map (rowM part es (1+a) (1+b) (1+c))) (svs++[.slq B 0 j 0])):=⟨by
        rw [List.range_succ,List.map_append,List.map_singleton]
        refine RowsE.snoc ?_ (HR.out.ext (by omega) fun q z hq hz=>(gput_lt (by omega)).trans hz)
        rw [show (rowM part es (1+a) (1+b) (1+c) s).length=j by unfold rowM; simp [Hj2.out]]
        refine .inr ⟨B,0,by omega,.inr ⟨0,rfl⟩,rr,true,2,gput_eq,?_,?_⟩
        · rw [show rowC (rowM part es (1+a) (1+b) (1+c) s)=rr by rw [hrr.out,Hj2.out]; rfl]; simp
        · rw [show rowC (rowM part es (1+a) (1+b) (1+c) s)=rr by rw [hrr.out,Hj2.out]; rfl]; simp⟩
      have HK2:Hide (∀ q z,gput gk B (some (.cells rr true 2)) q=some z→g' q=some z∧q≠n'∧q≠n'+1∧q≠n+1+1∧n+1+1+1≤q∧q < n'∧(A < n1→q≠A)):=⟨fun q z hz=>by
        rcases gput_v hz with ⟨rfl,h⟩ | ⟨_,hz⟩
        · cases h; exact ⟨hB3,by omega,by omega,by omega,by omega,hB2,by omega⟩
        · obtain ⟨k1,k2,k3,k4⟩:=HK.out q z hz
          exact ⟨(HG.out q k4).trans k1,by omega,by omega,by omega,k3,by omega,fun _=>k2⟩⟩
      rcases HA.out with hA0 | ⟨hspos,hrv,hA1,hA2,hA3,hA4⟩
      · obtain ⟨hs0,hnil,hrv⟩:=hA0
        subst hrv
        have HJ:=Hide.mk (And.intro hs0 hnil)
        clear hs0 hnil
        iterate 6 (all_goals try (first | with_reducible refine splitI (fun h=>?_) (fun h=>?_) | with_reducible refine splitBI (fun h=>?_) (fun h=>?_) | simp (config:={ maxSteps:=1000000 }) (disch:=first | assumption | omega | (simp; done) | fail) [Tryd.results29, *]))
        refine ih.out (1+a - (s+1)) _ _ (by omega) ⟨s+1,n'+1+1,_,_,n'+1,.slq (n'+1) 0 (s+1) 0,svs++[.slq B 0 j 0],by omega,rfl,rfl,by omega,fun q hq=>?_,?_,?_,?_,.mk ?_ (by omega) (by omega) ?_,HR2.out,fun q z hz=>?_,by simp [*],by simp [*],by simp [*],by simp [*],by simp [*]⟩
        · simp (disch:=omega) only [gput_lt,gput_ne]
          rw [HG.out q (by omega)]
          exact HG1.out q hq
        · simp (disch:=omega) only [gput_lt,gput_ne]
          exact f0
        · simp (disch:=omega) only [gput_lt,gput_ne]
          rw [HG.out (n+1) (by omega)]
          exact e1
        · rw [HJ.out.1]; simp [*]
        · rw [HJ.out.2]; simp (disch:=omega) [gput_ne,gput_eq]
        · rw [HJ.out.1,HJ.out.2]; simp [*]
        · obtain ⟨k1,k2,k3,k4,k5,k6,k7⟩:=HK2.out q z hz
          refine ⟨?_,k3,k5,by omega⟩
          simp (disch:=omega) only [gput_lt,gput_ne]
          exact k1
      · subst hrv
        have hA5:=(HG.out A hA2).trans hA3
        iterate 6 (all_goals try (first | with_reducible refine splitI (fun h=>?_) (fun h=>?_) | with_reducible refine splitBI (fun h=>?_) (fun h=>?_) | simp (config:={ maxSteps:=1000000 }) (disch:=first | assumption | omega | (simp; done) | fail) [Tryd.results29, *]))
        refine ih.out (1+a - (s+1)) _ _ (by omega) ⟨s+1,n'+1+1,_,_,n'+1,.slq (n'+1) 0 (s+1) 0,svs++[.slq B 0 j 0],by omega,rfl,rfl,by omega,fun q hq=>?_,?_,?_,?_,.mk ?_ (by omega) (by omega) ?_,HR2.out,fun q z hz=>?_,by simp [*],by simp [*],by simp [*],by simp [*],by simp [*]⟩
        · simp (disch:=omega) only [gput_lt,gput_ne]
          rw [HG.out q (by omega)]
          exact HG1.out q hq
        · simp (disch:=omega) only [gput_lt,gput_ne]
          exact f0
        · simp (disch:=omega) only [gput_lt,gput_ne]
          rw [HG.out (n+1) (by omega)]
          exact e1
        · simp [*]
        · simp (disch:=omega) [gput_ne,gput_eq]
        · simp [*]
        · obtain ⟨k1,k2,k3,k4,k5,k6,k7⟩:=HK2.out q z hz
          refine ⟨?_,k3,k5,by omega⟩
          have k8:=k7 hA2
          simp (disch:=omega) only [gput_lt,gput_ne]
          exact k1
  · have hltI:¬(s:Int) < 1+(a:Int):=by omega
    have hs2:s=1+a:=by omega
    have h1r:=HA.out.one
    have h1m:allOne [.lit (.int .i64 (1+(b:Int))),.lit (.int .i64 (1+(c:Int))),rv]=true:=by simp [h1r]
    have hlen:svs.length=s:=by rw [HR.out.len]; simp
    have HREP:Hide (RepM (fun q=>if q=A∧n+1+1+1≤A∧A < n1 then g1 A else gk q) n1 M [.lit (.int .i64 (1+(b:Int))),.lit (.int .i64 (1+(c:Int))),rv]):=⟨by
      rw [HM.out]
      refine ⟨rv,svs,rfl,?_,?_⟩
      · show RowsE _ n1 ((List.range (1+a)).map _) svs
        have hrs:=HR.out
        rw [hs2] at hrs
        refine hrs.ext (Nat.le_refl _) fun q z _ hz=>?_
        obtain ⟨k1,k2,k3,k4⟩:=HK.out q z hz
        show (if q=A∧n+1+1+1≤A∧A < n1 then g1 A else gk q)=some z
        rw [if_neg (fun h=>k2 h.1)]; exact hz
      · show SliceV _ n1 rv ((List.range (1+a)).map _).length svs
        rw [List.length_map,List.length_range,← hs2]
        refine HA.out.slice.ext (Nat.le_refl _) fun q z _ hz=>?_
        have hz' : (if q=A∧n+1+1+1≤A∧A < n1 then g1 q else none)=some z:=hz
        show (if q=A∧n+1+1+1≤A∧A < n1 then g1 A else gk q)=some z
        split at hz'
        · rename_i h
          rw [if_pos h,← h.1]; exact hz'
        · cases hz'⟩
    clear hs2 hlen
    iterate 6 (all_goals try (first | with_reducible refine splitI (fun h=>?_) (fun h=>?_) | with_reducible refine splitBI (fun h=>?_) (fun h=>?_) | simp (config:={ maxSteps:=1000000 }) (disch:=first | assumption | omega | (simp; done) | fail) [Tryd.results29, *]))
    refine ⟨_,_,_,⟨rfl,rfl,rfl⟩,by omega,fun q hq=>?_,_,fun q z hz=>?_,HREP.out⟩
    · rw [gput_lt (by omega)]; exact HG1.out q hq
    · have hz' : (if q=A∧n+1+1+1≤A∧A < n1 then g1 A else gk q)=some z:=hz
      split at hz'
      · rename_i h
        obtain ⟨rfl,h2,h3⟩:=h
        exact ⟨by rw [gput_ne (by omega)]; exact hz',by omega,h3⟩
      · obtain ⟨k1,k2,k3,k4⟩:=HK.out q z hz'
        exact ⟨by rw [gput_ne (by omega)]; exact k1,by omega,k4⟩
end Go.Ai
end
