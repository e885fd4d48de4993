/- A small verified interpreter over names, its proofs, and what was proved with it. No condition. -/
import Derived.Test.YtfhkfifjbgcpiaaDoorPC1
set_option linter.all false
set_option linter.deprecated false
section
namespace Go.Ai
open Go.Proofs
set_option maxRecDepth 10000
set_option maxHeartbeats 4000000
def outM (is:Bool) (n:Int) : Int×Bool:=if is=true ∧ -2147483648≤n∧n≤2147483648 then (n,true) else (0,false)
def argM (l:List (Int×Bool)) (i:Nat) : Int:=(l.getD i (0,true)).1
mutual
def evalM (vals:List Int) : NodeM→Int×Bool
  | .mk op k subs=>if op=0 then (k,true) else if op=1 then (vals.getD k.toNat 0,true) else
    outM ((evalL vals subs).all (·.2)) (doM op (argM (evalL vals subs) 0) (argM (evalL vals subs) 1))
def evalL (vals:List Int) : List NodeM→List (Int×Bool)
  | []=>[]
  | x :: l=>evalM vals x :: evalL vals l
end
theorem subs12 (op:Nat) (h2:2≤op) (h12:op < 12) : (rowAt op).subs=1∨(rowAt op).subs=2:=by
  have h:([2,3,4,5,6,7,8,9,10,11].all fun op=>decide ((rowAt op).subs=1) || decide ((rowAt op).subs=2))=true:=by decide
  have:=List.all_eq_true.1 h op (by simp; omega)
  simpa using this
theorem fn_cell (op:Nat) (h2:2≤op) (h12:op < 12) : (rowAt op).cells[6]?=some (.lit (.func (.func (doF op)) #[] #[])):=by
  have hop:op=2∨op=3∨op=4∨op=5∨op=6∨op=7∨op=8∨op=9∨op=10∨op=11:=by omega
  rcases hop with rfl | rfl | rfl | rfl | rfl | rfl | rfl | rfl | rfl | rfl <;> rfl
theorem eval_w:∀ (m:Nat),m≤1000000→∀ (x:NodeM),sizeN x≤m→∀ (g:Nat→Option Blk) (n:Nat) (cs:List AV) (tv:AV) (vals:List Int),g 0=some opsB→0 < n→repN g n x cs→SliceV g n tv vals.length (intCells vals)→vals.length≤1000000 →
    shapedM vals.length x=true →
    WC 6 Tryd.prog 43 [.agg cs,tv] ⟨.fn g,n⟩ fun r=>r=.ret (.tup [.lit (.int .i64 (evalM vals x).1),.lit (.bool (evalM vals x).2)]) ⟨.fn g,n⟩:=by
  intro m
  induction m with
  | zero=>intro _ x hx; cases x; unfold sizeN at hx; omega
  | succ m ihm =>
    intro hm x hx g n cs tv vals hg hn hr htv hl hsh
    have IH:=Hide.mk ihm
    clear ihm
    refine WC.drop1 rfl ?_
    cases x with
    | mk op q subs =>
      generalize hret:evalM vals (.mk op q subs)=ret
      have HRET:=Hide.mk hret
      clear hret
      have HSH:=Hide.mk hsh
      simp only [shapedM,Bool.and_eq_true,decide_eq_true_eq] at hsh
      obtain ⟨h12,hsubs,hq0,hq1,hshl⟩:=hsh
      obtain ⟨kq,rfl⟩:=Int.eq_ofNat_of_zero_le hq0
      have h3:=most_iff.1 hq1
      obtain ⟨hop,sv,rfl,hsv⟩:=hr
      have h1c:oneC sv=true:=by rcases hsv with ⟨_,rfl | rfl⟩ | ⟨a,off,r,_,⟨c,rfl⟩ | ⟨c,rfl⟩,_⟩ <;> rfl
      have h1a:allOne [.lit (.int .u8 op),.lit (.int .i64 kq),sv]=true:=by simp [h1c]
      have HTV:=Hide.mk htv
      by_cases h0:op=0
      · subst h0
        have hv:ret=(↑kq,true):=by rw [← HRET.out,evalM,if_pos rfl]
        subst hv
        clear hsubs h3 hq1 hq0 hop htv hsv hshl hg
        refine WC.enterP (noO_ok _ _) hG6 pl43 Tryd.func43 rfl (by decide +kernel) (Nat.le_of_ble_eq_true (by kernel_rfl)) ?_
        iterate 12 (all_goals try (first | with_reducible refine splitI (fun h=>?_) (fun h=>?_) | with_reducible refine splitBI (fun h=>?_) (fun h=>?_) | simp (disch:=first | assumption | omega | (simp; done) | fail) [Tryd.results43, *]))
        exact ⟨Nat.le_succ _,fun b hb=>gput_lt hb⟩
      by_cases h1:op=1
      · subst h1
        have hkl:kq < vals.length:=by omega
        have hv:ret=(vals[kq],true):=by rw [← HRET.out,evalM,if_neg h0,if_pos rfl]; simp [hkl]
        subst hv
        rcases htv with ⟨kl0,_⟩ | ⟨b,off2,hb,htv,hr2⟩
        · omega
        have hint:=hr2.one (k:=kq) (s:=1) (by simp only [intCells,List.length_map]; exact hkl)
        have hintv:(intCells vals)[kq]'(by simp only [intCells,List.length_map]; exact hkl)=.lit (.int .i64 vals[kq]):=by simp [intCells]
        rw [hintv] at hint
        clear hsubs h3 hq1 hq0 hop hsv hshl hg hr2 hintv
        rcases htv with ⟨c,rfl⟩ | ⟨c,rfl⟩
        all_goals
          refine WC.enterP (noO_ok _ _) hG6 pl43 Tryd.func43 rfl (by decide +kernel) (Nat.le_of_ble_eq_true (by kernel_rfl)) ?_
          iterate 12 (all_goals try (first | with_reducible refine splitI (fun h=>?_) (fun h=>?_) | with_reducible refine splitBI (fun h=>?_) (fun h=>?_) | simp (disch:=first | assumption | omega | (simp; done) | fail) [Tryd.results43, *]))
          exact ⟨Nat.le_succ _,fun b hb=>gput_lt hb⟩
      have h2:2≤op:=by omega
      have hfn:loadB (some (false,1)) (some opsB) (op * 7+6)=some (.lit (.func (.func (doF op)) #[] #[])):=(ops_cell op 6 h12 (by omega)).trans (fn_cell op h2 h12)
      have hbody:=do_body op h2 h12
      have hv:ret=outM ((evalL vals subs).all (·.2)) (doM op (argM (evalL vals subs) 0) (argM (evalL vals subs) 1)):=by rw [← HRET.out,evalM,if_neg h0,if_neg h1]
      have HV:=Hide.mk hv
      clear hv
      have h1i:¬(op:Int)=1:=by omega
      have hopI:(op:Int) < 12:=by omega
      have hsz:sizeL subs≤m:=by unfold sizeN at hx; omega
      have HDO:Hide (∀ (a b:Int) (H:Mem),WC 6 Tryd.prog (doF op) [.lit (.int .i64 a),.lit (.int .i64 b)] H fun r=>r=.ret (.lit (.int .i64 (doM op a b))) H):=⟨fun a b H=>do_w op h2 h12 a b H⟩
      rcases hsv with ⟨hsub,_⟩ | ⟨a,off,r,han,hsl,hrow,hrep⟩
      · exfalso
        rcases subs12 op h2 h12 with hs1 | hs1 <;> (rw [hsub,hs1] at hsubs; simp at hsubs)
      rcases subs12 op h2 h12 with hs1 | hs1
      · have hone:subs.length=1:=by omega
        obtain ⟨y,rfl⟩:=List.length_eq_one_iff.1 hone
        obtain ⟨c1,r1,rfl,hy1,hr1⟩:=hrep
        have hr1' : r1=[]:=hr1
        subst hr1'
        obtain ⟨op2,k2,sv2,hcy,h2c⟩:=repN_one hy1
        subst hcy
        have h2a:allOne [.lit (.int .u8 op2),.lit (.int .i64 k2),sv2]=true:=by simp [h2c]
        have hrow1:=hrow.agg (k:=0) (s:=3) (by simp)
        simp only [Nat.add_zero,List.append_nil,List.drop_zero,List.take] at hrow1
        have hsy:shapedM vals.length y=true:=by simp only [shapedL,Bool.and_eq_true] at hshl; exact hshl.1
        have HY:=Hide.mk hy1
        have HSY:=Hide.mk hsy
        clear hsubs h3 hq1 hq0 hop hshl hrow hy1 hsy hs1 htv h2 hr1
        have IHY:Hide (∀ (g' : Nat→Option Blk) (n' : Nat),g' 0=some opsB→0 < n'→repN g' n' y [.lit (.int .u8 op2),.lit (.int .i64 k2),sv2]→SliceV g' n' tv vals.length (intCells vals) →
          WC 6 Tryd.prog 43 [.agg [.lit (.int .u8 op2),.lit (.int .i64 k2),sv2],tv] ⟨.fn g',n'⟩ fun r=>r=.ret (.tup [.lit (.int .i64 (evalM vals y).1),.lit (.bool (evalM vals y).2)]) ⟨.fn g',n'⟩) :=
          ⟨fun g' n' q1 q2 q3 q4=>IH.out (by omega) y (by unfold sizeL at hsz; omega) g' n' _ tv vals q1 q2 q3 q4 hl HSY.out⟩
        have HV2:Hide (ret=outM ((evalM vals y).2 && true) (doM op (evalM vals y).1 0)):=⟨by rw [HV.out]; simp [evalL,argM]⟩
        generalize evalM vals y=e1 at IHY HV2
        obtain ⟨v1,b1⟩:=e1
        rcases hsl with ⟨c,rfl⟩ | ⟨c,rfl⟩
        all_goals
          refine WC.enterP (noO_ok _ _) hG6 pl43 Tryd.func43 rfl (by decide +kernel) (Nat.le_of_ble_eq_true (by kernel_rfl)) ?_
          iterate 12 (all_goals try (first | with_reducible refine splitI (fun h=>?_) (fun h=>?_) | with_reducible refine splitBI (fun h=>?_) (fun h=>?_) | simp (disch:=first | assumption | omega | (simp; done) | fail) [Tryd.results43, *]))
          refine LX.roundP (noO_ok _ _) hG6 pl43 (by decide +kernel) ?_
          iterate 12 (all_goals try (first | with_reducible refine splitI (fun h=>?_) (fun h=>?_) | with_reducible refine splitBI (fun h=>?_) (fun h=>?_) | simp (disch:=first | assumption | omega | (simp; done) | fail) [Tryd.results43, *]))
          refine WC.mono (IHY.out _ _ ((gput_lt (by omega)).trans ((gput_lt (by omega)).trans ((gput_lt (by omega)).trans hg))) (by omega)
            (repN_mono (b':=n+1+1+1) (by omega) (fun a ha=>(gput_lt (by omega)).trans ((gput_lt (by omega)).trans (gput_lt ha))) HY.out) (HTV.out.mono (b':=n+1+1+1) (by omega) (fun a ha=>(gput_lt (by omega)).trans ((gput_lt (by omega)).trans (gput_lt ha))))) ?_
          rintro _ rfl
          iterate 12 (all_goals try (first | with_reducible refine splitI (fun h=>?_) (fun h=>?_) | with_reducible refine splitBI (fun h=>?_) (fun h=>?_) | simp (disch:=first | assumption | omega | (simp; done) | fail) [Tryd.results43, *]))
          all_goals
            refine LX.roundP (noO_ok _ _) hG6 pl43 (by decide +kernel) ?_
            iterate 14 (all_goals try (first | with_reducible refine splitI (fun h=>?_) (fun h=>?_) | with_reducible refine splitBI (fun h=>?_) (fun h=>?_) | simp (disch:=first | assumption | omega | (simp; done) | fail) [Tryd.results43, *]))
            refine WC.mono (HDO.out _ _ _) ?_
            rintro _ rfl
            generalize hdo:doM op v1 0=dv at HV2
            have HDV:=Hide.mk hdo
            clear hdo
            iterate 12 (all_goals try (first | with_reducible refine splitI (fun h=>?_) (fun h=>?_) | with_reducible refine splitBI (fun h=>?_) (fun h=>?_) | simp (disch:=first | assumption | omega | (simp; done) | fail) [Tryd.results43, *]))
          all_goals
            have e:=HV2.out
            refine ⟨_,⟨⟨?_,?_⟩,rfl⟩,⟨by dsimp only; omega,fun b hb=>?_⟩⟩
            · rw [e]; unfold outM; split
              · rename_i hh; first | rfl | (exfalso; simp [*] at hh <;> omega)
              · rename_i hh; first | rfl | (exfalso; apply hh; simp [*] <;> omega)
            · rw [e]; unfold outM; split
              · rename_i hh; first | rfl | (exfalso; simp [*] at hh <;> omega)
              · rename_i hh; first | rfl | (exfalso; apply hh; simp [*] <;> omega)
            · have hb' : b < n:=hb
              show gput _ _ _ _=_
              simp (disch:=omega) only [gput_lt]
              rfl
      · have htwo:subs.length=2:=by omega
        obtain ⟨y,z,rfl⟩ : ∃ y z,subs=[y,z]:=by
          match subs,htwo with
          | [y,z],_=>exact ⟨y,z,rfl⟩
        obtain ⟨c1,r1,rfl,hy1,c2,r2,rfl,hz1,hr2⟩:=hrep
        have hr2' : r2=[]:=hr2
        subst hr2'
        obtain ⟨op2,k2,sv2,hcy,h2c⟩:=repN_one hy1
        subst hcy
        obtain ⟨op3,k3,sv3,hcz,h3c⟩:=repN_one hz1
        subst hcz
        have h2a:allOne [.lit (.int .u8 op2),.lit (.int .i64 k2),sv2]=true:=by simp [h2c]
        have h3a:allOne [.lit (.int .u8 op3),.lit (.int .i64 k3),sv3]=true:=by simp [h3c]
        have hrow1:=hrow.agg (k:=0) (s:=3) (by simp)
        have hrow2:=hrow.agg (k:=3) (s:=3) (by simp)
        simp only [Nat.add_zero,List.append_nil,List.drop_zero,List.take,List.cons_append,List.nil_append,List.drop_succ_cons] at hrow1 hrow2
        simp only [shapedL,Bool.and_eq_true] at hshl
        have hsy:shapedM vals.length y=true:=hshl.1
        have hsz' : shapedM vals.length z=true:=hshl.2.1
        have HY:=Hide.mk hy1
        have HZ:=Hide.mk hz1
        have HSY:=Hide.mk hsy
        have HSZ:=Hide.mk hsz'
        clear hsubs h3 hq1 hq0 hop hshl hrow hy1 hz1 hsy hsz' hs1 htv h2 hr2
        have IHY:Hide (∀ (g' : Nat→Option Blk) (n' : Nat),g' 0=some opsB→0 < n'→repN g' n' y [.lit (.int .u8 op2),.lit (.int .i64 k2),sv2]→SliceV g' n' tv vals.length (intCells vals) →
          WC 6 Tryd.prog 43 [.agg [.lit (.int .u8 op2),.lit (.int .i64 k2),sv2],tv] ⟨.fn g',n'⟩ fun r=>r=.ret (.tup [.lit (.int .i64 (evalM vals y).1),.lit (.bool (evalM vals y).2)]) ⟨.fn g',n'⟩) :=
          ⟨fun g' n' q1 q2 q3 q4=>IH.out (by omega) y (by unfold sizeL at hsz; omega) g' n' _ tv vals q1 q2 q3 q4 hl HSY.out⟩
        have IHZ:Hide (∀ (g' : Nat→Option Blk) (n' : Nat),g' 0=some opsB→0 < n'→repN g' n' z [.lit (.int .u8 op3),.lit (.int .i64 k3),sv3]→SliceV g' n' tv vals.length (intCells vals) →
          WC 6 Tryd.prog 43 [.agg [.lit (.int .u8 op3),.lit (.int .i64 k3),sv3],tv] ⟨.fn g',n'⟩ fun r=>r=.ret (.tup [.lit (.int .i64 (evalM vals z).1),.lit (.bool (evalM vals z).2)]) ⟨.fn g',n'⟩) :=
          ⟨fun g' n' q1 q2 q3 q4=>IH.out (by omega) z (by unfold sizeL sizeL at hsz; omega) g' n' _ tv vals q1 q2 q3 q4 hl HSZ.out⟩
        have HV2:Hide (ret=outM ((evalM vals y).2 && (evalM vals z).2) (doM op (evalM vals y).1 (evalM vals z).1)):=⟨by rw [HV.out]; simp [evalL,argM]⟩
        generalize evalM vals y=e1 at IHY HV2
        generalize evalM vals z=e2 at IHZ HV2
        obtain ⟨v1,b1⟩:=e1
        obtain ⟨v2,b2⟩:=e2
        rcases hsl with ⟨c,rfl⟩ | ⟨c,rfl⟩
        all_goals
          refine WC.enterP (noO_ok _ _) hG6 pl43 Tryd.func43 rfl (by decide +kernel) (Nat.le_of_ble_eq_true (by kernel_rfl)) ?_
          iterate 12 (all_goals try (first | with_reducible refine splitI (fun h=>?_) (fun h=>?_) | with_reducible refine splitBI (fun h=>?_) (fun h=>?_) | simp (disch:=first | assumption | omega | (simp; done) | fail) [Tryd.results43, *]))
          refine LX.roundP (noO_ok _ _) hG6 pl43 (by decide +kernel) ?_
          iterate 12 (all_goals try (first | with_reducible refine splitI (fun h=>?_) (fun h=>?_) | with_reducible refine splitBI (fun h=>?_) (fun h=>?_) | simp (disch:=first | assumption | omega | (simp; done) | fail) [Tryd.results43, *]))
          refine WC.mono (IHY.out _ _ ((gput_lt (by omega)).trans ((gput_lt (by omega)).trans ((gput_lt (by omega)).trans hg))) (by omega)
            (repN_mono (b':=n+1+1+1) (by omega) (fun a ha=>(gput_lt (by omega)).trans ((gput_lt (by omega)).trans (gput_lt ha))) HY.out) (HTV.out.mono (b':=n+1+1+1) (by omega) (fun a ha=>(gput_lt (by omega)).trans ((gput_lt (by omega)).trans (gput_lt ha))))) ?_
          rintro _ rfl
          iterate 12 (all_goals try (first | with_reducible refine splitI (fun h=>?_) (fun h=>?_) | with_reducible refine splitBI (fun h=>?_) (fun h=>?_) | simp (disch:=first | assumption | omega | (simp; done) | fail) [Tryd.results43, *]))
          all_goals
            refine LX.roundP (noO_ok _ _) hG6 pl43 (by decide +kernel) ?_
            iterate 14 (all_goals try (first | with_reducible refine splitI (fun h=>?_) (fun h=>?_) | with_reducible refine splitBI (fun h=>?_) (fun h=>?_) | simp (disch:=first | assumption | omega | (simp; done) | fail) [Tryd.results43, *]))
          all_goals
            refine WC.mono (IHZ.out _ _ (by simp (disch:=omega) only [gput_lt]; exact hg) (by omega) (repN_mono (by omega) (fun a ha=>by simp (disch:=omega) only [gput_lt]) HZ.out)
              (HTV.out.mono (by omega) (fun a ha=>by simp (disch:=omega) only [gput_lt]))) ?_
            rintro _ rfl
            iterate 12 (all_goals try (first | with_reducible refine splitI (fun h=>?_) (fun h=>?_) | with_reducible refine splitBI (fun h=>?_) (fun h=>?_) | simp (disch:=first | assumption | omega | (simp; done) | fail) [Tryd.results43, *]))
          all_goals
            refine LX.roundP (noO_ok _ _) hG6 pl43 (by decide +kernel) ?_
            iterate 14 (all_goals try (first | with_reducible refine splitI (fun h=>?_) (fun h=>?_) | with_reducible refine splitBI (fun h=>?_) (fun h=>?_) | simp (disch:=first | assumption | omega | (simp; done) | fail) [Tryd.results43, *]))
            refine WC.mono (HDO.out _ _ _) ?_
            rintro _ rfl
            generalize hdo:doM op v1 v2=dv at HV2
            have HDV:=Hide.mk hdo
            clear hdo
            iterate 12 (all_goals try (first | with_reducible refine splitI (fun h=>?_) (fun h=>?_) | with_reducible refine splitBI (fun h=>?_) (fun h=>?_) | simp (disch:=first | assumption | omega | (simp; done) | fail) [Tryd.results43, *]))
          all_goals
            have e:=HV2.out
            refine ⟨_,⟨⟨?_,?_⟩,rfl⟩,⟨by dsimp only; omega,fun b hb=>?_⟩⟩
            · rw [e]; unfold outM; split
              · rename_i hh; first | rfl | (exfalso; simp [*] at hh <;> omega)
              · rename_i hh; first | rfl | (exfalso; apply hh; simp [*] <;> omega)
            · rw [e]; unfold outM; split
              · rename_i hh; first | rfl | (exfalso; simp [*] at hh <;> omega)
              · rename_i hh; first | rfl | (exfalso; apply hh; simp [*] <;> omega)
            · have hb' : b < n:=hb
              show gput _ _ _ _=_
              simp (disch:=omega) only [gput_lt]
              rfl
end Go.Ai
end
section
namespace Go.Ai
open Go.Proofs
set_option maxRecDepth 10000
set_option maxHeartbeats 4000000
def evalTop (vs:List VarM) (x:NodeM) (vals:List Int) : Int×Bool×Int :=
  if checkM vs x≠0 then (0,false,checkM vs x) else if checkValuesM vs vals≠0 then (0,false,checkValuesM vs vals) else ((evalM vals x).1,(evalM vals x).2,0)
theorem checkM_ok {vs:List VarM} {x:NodeM} (h:checkM vs x=0) : shapedM vs.length x=true:=by
  unfold checkM at h
  split at h
  · omega
  · split at h
    · omega
    · split at h
      · omega
      · rename_i h3; simpa using h3
theorem checkValuesM_ok {vs:List VarM} {vals:List Int} (h:checkValuesM vs vals=0) : vals.length=vs.length:=by
  unfold checkValuesM at h
  split at h
  · omega
  · split at h
    · omega
    · rename_i h2; simpa using h2
theorem Eval_w (vs:List VarM) (x:NodeM) (vals:List Int) (g:Nat→Option Blk) (n:Nat) (sv tv:AV) (cs:List AV) (hg:g 0=some opsB) (hn0:0 < n) (hsv:SliceV g n sv vs.length (vs.flatMap VarM.cells)) (htv:SliceV g n tv vals.length (intCells vals))
    (hn:vs.length≤1000000) (hm:vals.length≤1000000) (hx:sizeN x≤1000000) (hrep:repN g n x cs) :
    WC 6 Tryd.prog 22 [sv,.agg cs,tv] ⟨.fn g,n⟩ fun r=>r=.ret (.tup [.lit (.int .i64 (evalTop vs x vals).1),.lit (.bool (evalTop vs x vals).2.1),.lit (.int .i64 (evalTop vs x vals).2.2)]) ⟨.fn g,n⟩:=by
  refine WC.drop1 rfl ?_
  generalize hret:evalTop vs x vals=ret
  have HRET:=Hide.mk hret
  clear hret
  obtain ⟨k2,sv2,hcy,h1c,hop2⟩:=repN_op hrep
  subst hcy
  have h1a:allOne [.lit (.int .u8 x.op),.lit (.int .i64 k2),sv2]=true:=by simp [h1c]
  have HSV:=Hide.mk hsv
  have HTV:=Hide.mk htv
  have HREP:=Hide.mk hrep
  clear hsv htv hrep
  refine WC.enterP (noO_ok _ _) hG6 [] Tryd.func22 rfl (by decide +kernel) (Nat.le_of_ble_eq_true (by kernel_rfl)) ?_
  iterate 12 (all_goals try (first | with_reducible refine splitI (fun h=>?_) (fun h=>?_) | with_reducible refine splitBI (fun h=>?_) (fun h=>?_) | simp (disch:=first | assumption | omega | (simp; done) | fail) [Tryd.results22, *]))
  refine WC.mono (check_w vs x _ _ _ _ (by simp (disch:=omega) only [gput_lt]; exact hg) (by omega) (HSV.out.mono (by omega) (fun a ha=>by simp (disch:=omega) only [gput_lt])) hn hx (repN_mono (by omega) (fun a ha=>by simp (disch:=omega) only [gput_lt]) HREP.out)) ?_
  rintro _ rfl
  generalize hck:checkM vs x=ck
  have HCK:=Hide.mk hck
  clear hck
  iterate 12 (all_goals try (first | with_reducible refine splitI (fun h=>?_) (fun h=>?_) | with_reducible refine splitBI (fun h=>?_) (fun h=>?_) | simp (disch:=first | assumption | omega | (simp; done) | fail) [Tryd.results22, *]))
  · have hck0:checkM vs x=0:=by rw [HCK.out]; exact h
    refine WC.mono (checkValues_w vs vals _ _ _ _ (by omega) (HSV.out.mono (by omega) (fun a ha=>by simp (disch:=omega) only [gput_lt])) (HTV.out.mono (by omega) (fun a ha=>by simp (disch:=omega) only [gput_lt])) hn hm) ?_
    rintro _ rfl
    have HRET2:Hide (ret=if checkValuesM vs vals≠0 then (0,false,checkValuesM vs vals) else ((evalM vals x).1,(evalM vals x).2,0)):=⟨by rw [← HRET.out,evalTop,if_neg (by rw [hck0]; simp)]⟩
    have HCV:Hide (checkValuesM vs vals=0→vals.length=vs.length):=⟨checkValuesM_ok⟩
    have HSH:Hide (shapedM vs.length x=true):=⟨checkM_ok hck0⟩
    generalize checkValuesM vs vals=cv at HRET2 HCV
    clear hck0
    iterate 12 (all_goals try (first | with_reducible refine splitI (fun h=>?_) (fun h=>?_) | with_reducible refine splitBI (fun h=>?_) (fun h=>?_) | simp (disch:=first | assumption | omega | (simp; done) | fail) [Tryd.results22, *]))
    · have hcv:cv=0:=h
      have hlen:=HCV.out hcv
      refine WC.mono (eval_w 1000000 (Nat.le_refl _) x hx _ _ _ tv vals (by simp (disch:=omega) only [gput_lt]; exact hg) (by omega) (repN_mono (by omega) (fun a ha=>by simp (disch:=omega) only [gput_lt]) HREP.out) (HTV.out.mono (by omega) (fun a ha=>by simp (disch:=omega) only [gput_lt])) hm (by rw [hlen]; exact HSH.out)) ?_
      rintro _ rfl
      have HRET3:Hide (ret=((evalM vals x).1,(evalM vals x).2,0)):=⟨by rw [HRET2.out,if_neg (by rw [hcv]; simp)]⟩
      generalize evalM vals x=e1 at HRET3
      obtain ⟨v1,b1⟩:=e1
      have hr:=HRET3.out
      dsimp only at hr
      subst hr
      clear hlen
      iterate 12 (all_goals try (first | with_reducible refine splitI (fun h=>?_) (fun h=>?_) | with_reducible refine splitBI (fun h=>?_) (fun h=>?_) | simp (disch:=first | assumption | omega | (simp; done) | fail) [Tryd.results22, *]))
      all_goals exact ⟨Nat.le_succ _,fun b hb=>gput_lt hb⟩
    · have hr:ret=(0,false,cv):=by rw [HRET2.out,if_pos h]
      subst hr
      exact ⟨_,⟨⟨rfl,rfl,rfl⟩,rfl⟩,⟨Nat.le_succ _,fun b hb=>gput_lt hb⟩⟩
  · have hr:ret=(0,false,ck):=by rw [← HRET.out,evalTop,if_pos (by rw [HCK.out]; exact h),HCK.out]
    subst hr
    exact ⟨_,⟨⟨rfl,rfl,rfl⟩,rfl⟩,⟨Nat.le_succ _,fun b hb=>gput_lt hb⟩⟩
end Go.Ai
end
