/- A small verified interpreter over names, its proofs, and what was proved with it. No condition. -/
import Derived.Test.YtiddfilinnbhaaaGreatDoorRows
import Derived.WalkKit
import Derived.Shelf.RegionOpenPlain
import Derived.Lib.UnsafeStr
import Derived.Lib.Builder
import Derived.Lib.Strings
import Derived.Test.YtiddfilinnbhaaaGreatDoorO08
import Derived.Test.YtiddfilinnbhaaaGreatDoorO07
import Derived.Test.YtiddfilinnbhaaaGreatDoorO05
import Derived.Test.YtiddfilinnbhaaaGreatDoorO06
set_option linter.all false
set_option linter.deprecated false
section
namespace Go.Ai
open Go.Proofs
set_option maxRecDepth 10000
set_option maxHeartbeats 40000000
theorem stood92:Tryz.prog.stoodInHeld 92=false:=by kernel_rfl
theorem equal_int {P:Program} {d:Nat} {t:TypeId} {k:IntKind} {a b:Int} (ht:P.underlying t=some (.int k)) : pureV P (Op.equalIn (d+1) t (.int k a) (.int k b))=some (a == b):=by
 unfold Op.equalIn
 refine (pureV_then (m:=underlying t) (pureV_underlying ht)).trans ?_
 dsimp only
 rw [if_pos rfl]
 rfl
theorem equal_edge (a b c d:Int) : pureV Tryz.prog (Op.equal 92 (.agg #[.int .i64 a,.int .i64 b]) (.agg #[.int .i64 c,.int .i64 d]))=some (a == c && b == d):=by
 unfold Op.equal
 show pureV Tryz.prog (Op.equalIn (9998+1+1) 92 _ _)=_
 rw [Op.equalIn]
 refine (pureV_then (m:=underlying 92) (pureV_underlying Tryz.underlying92)).trans ?_
 dsimp only
 refine (pureV_then (m:=program) (a:=Tryz.prog) rfl).trans ?_
 rw [if_neg (by rw [stood92]; decide)]
 have p0:∀ x y:Int,pureV Tryz.prog (part 3 #[Value.int IntKind.i64 x,Value.int IntKind.i64 y] 0)=some (.int .i64 x):=fun x y=>rfl
 have p1:∀ x y:Int,pureV Tryz.prog (part 3 #[Value.int IntKind.i64 x,Value.int IntKind.i64 y] 1)=some (.int .i64 y):=fun x y=>rfl
 simp only [List.forIn_toArray,List.forIn_cons,List.forIn_nil]
 have key:∀ (nm:String) (u v:Int) (m1 m2:Sem Value),nm ≠ "_"→pureV Tryz.prog m1=some (.int .i64 u)→pureV Tryz.prog m2=some (.int .i64 v) →
   pureV Tryz.prog (if nm ≠ "_" then do
    let x ← m1
    let y ← m2
    let z ← Op.equalIn (9998+1) 3 x y
    if (!z)=true then pure (ForInStep.done (some false,())) else pure (ForInStep.yield ((none:Option Bool),()))
   else pure (ForInStep.yield (none,())))=some (if (u == v)=true then ForInStep.yield (none,()) else ForInStep.done (some false,())):=by
  intro nm u v m1 m2 hn h1 h2
  rw [if_pos hn]
  refine (pureV_then h1).trans ((pureV_then h2).trans ((pureV_then (equal_int Tryz.underlying3)).trans ?_))
  cases (u == v) <;> rfl
 refine (pureV_then (a:=if (a == c && b == d)=true then ((none:Option Bool),()) else (some false,())) ?_).trans ?_
 ·refine (pureV_then (key "To" a c _ _ (by decide) (p0 a b) (p0 c d))).trans ?_
  cases (a == c)
  ·rfl
  ·refine (pureV_then (key "Out" b d _ _ (by decide) (p1 a b) (p1 c d))).trans ?_
   cases (b == d) <;> rfl
 ·cases (a == c) <;> cases (b == d) <;> rfl
theorem bin_edge {H:Mem} {ev:Ev} {d:Option Tmp} {ty rt:TypeId} {p:String} {af:Array Edge} {g:Option (Nat×Bool)} {x y:Operand} {a b a' b' : Int} (hx:ev x=some (.agg [.lit (.int .i64 a),.lit (.int .i64 b)])) (hy:ev y=some (.agg [.lit (.int .i64 a'),.lit (.int .i64 b')])) :
  binS Tryz.prog H ev ⟨d,.binOp .eql 92 x y rt,ty,p,af,g⟩ .eql 92 (some (.agg [.lit (.int .i64 a),.lit (.int .i64 b)])) (some (.agg [.lit (.int .i64 a'),.lit (.int .i64 b')]))=.val (.lit (.bool (decide (a=a') && decide (b=b')))) H:=by
 show oBin Tryz.prog H ev ⟨d,.binOp .eql 92 x y rt,ty,p,af,g⟩ .eql 92 (some (.agg [.lit (.int .i64 a),.lit (.int .i64 b)])) (some (.agg [.lit (.int .i64 a'),.lit (.int .i64 b')]))=_
 refine oBin_generic rfl ?_
 have h1:(Op.operands (.binOp .eql 92 x y rt)).toList=[x,y]:=rfl
 unfold generic
 dsimp only
 rw [h1]
 have l1:toLit (.agg [.lit (.int .i64 a),.lit (.int .i64 b)])=some (.agg #[.int .i64 a,.int .i64 b]):=rfl
 have l2:toLit (.agg [.lit (.int .i64 a'),.lit (.int .i64 b')])=some (.agg #[.int .i64 a',.int .i64 b']):=rfl
 simp only [List.all_cons,List.all_nil,hx,hy,l1,l2,Bool.and_true,if_true]
 have h2:∀ ρ:Operand→Value,ρ x=.agg #[.int .i64 a,.int .i64 b]→ρ y=.agg #[.int .i64 a',.int .i64 b']→pureV Tryz.prog (execOp ρ ⟨d,.binOp .eql 92 x y rt,ty,p,af,g⟩)=some (.value (.bool (decide (a=a') && decide (b=b')))):=by
  intro ρ e1 e2
  refine execOp_bin e1 e2 ?_ ?_
  ·unfold eqGuard; kernel_rfl
  ·show pureV Tryz.prog (do pure (Value.bool (← Op.equal 92 _ _)))=_
   exact (pureV_then (equal_edge a b a' b')).trans rfl
 rw [h2 _ (by simp only [hx,l1]) (by simp only [hy,l2])]
attribute [simp] bin_edge
theorem none_w (g:Nat→Option Blk) (n:Nat) : WC 3 Tryz.prog 108 [] ⟨.fn g,n⟩ fun r=>r=.ret (.agg [.lit (.int .i64 (-1)),.lit (.int .i64 (-1))]) ⟨.fn (gput g n (some (.cells [.lit (.int .i64 (-1)),.lit (.int .i64 (-1))] true 0))),n+1⟩:=by
 have h1a:allOne [.lit (.int .i64 (-1)),.lit (.int .i64 (-1))]=true:=by simp
 refine WC.enterP (noO_ok _ _) hG [] Tryz.func108 rfl (by decide +kernel) (Nat.le_of_ble_eq_true (by kernel_rfl)) ?_
 iterate 6 (all_goals try (first | with_reducible refine splitI (fun h=>?_) (fun h=>?_) | with_reducible refine splitBI (fun h=>?_) (fun h=>?_) | simp (config:={ maxSteps:=1000000 }) (disch:=first | assumption | omega | (simp; done) | fail) [Tryz.results108, *]))
theorem fits_w {M:MachM} (e:Int×Int) (g:Nat→Option Blk) (n:Nat) (ms:List AV) (hr:RepM g n M ms) :
  WC 3 Tryz.prog 86 [.agg ms,.agg [.lit (.int .i64 e.1),.lit (.int .i64 e.2)]] ⟨.fn g,n⟩ fun r=>r=.ret (.lit (.bool (edgeOK M.rows.length M.out e))) ⟨.fn g,n⟩:=by
 refine WC.drop1 rfl ?_
 obtain ⟨rv,svs,rfl,hrows,hrv⟩:=hr
 have h1r:=hrv.one
 have h1a:allOne [.lit (.int .i64 M.inp),.lit (.int .i64 M.out),rv]=true:=by simp [h1r]
 have hlen:=@lenV Tryz.prog _ _ _ _ _ hrv
 obtain ⟨to,out⟩:=e
 have h1e:allOne [.lit (.int .i64 to),.lit (.int .i64 out)]=true:=by simp
 clear hrows hrv
 refine WC.enterP (noO_ok _ _) hG pl86 Tryz.func86 rfl (by decide +kernel) (Nat.le_of_ble_eq_true (by kernel_rfl)) ?_
 by_cases t1:to = -1
 ·by_cases t2:out = -1
  ·iterate 6 (all_goals try (first | with_reducible refine splitI (fun h=>?_) (fun h=>?_) | with_reducible refine splitBI (fun h=>?_) (fun h=>?_) | simp (config:={ maxSteps:=1000000 }) (disch:=first | assumption | omega | (simp; done) | fail) [Tryz.results86, *]))
   refine WC.mono (none_w _ _) ?_
   rintro _ rfl
   iterate 6 (all_goals try (first | with_reducible refine splitI (fun h=>?_) (fun h=>?_) | with_reducible refine splitBI (fun h=>?_) (fun h=>?_) | simp (config:={ maxSteps:=1000000 }) (disch:=first | assumption | omega | (simp; done) | fail) [Tryz.results86, *]))
   refine ⟨_,⟨?_,rfl⟩,by show n≤n+1+1+1; omega,fun q hq=>?_⟩
   ·unfold edgeOK; simp [*]
   ·have hq' : q < n:=hq
    show gput _ _ _ _=g q
    simp (disch:=omega) only [gput_lt]
  ·have t3:¬(0:Int)≤to:=by omega
   iterate 6 (all_goals try (first | with_reducible refine splitI (fun h=>?_) (fun h=>?_) | with_reducible refine splitBI (fun h=>?_) (fun h=>?_) | simp (config:={ maxSteps:=1000000 }) (disch:=first | assumption | omega | (simp; done) | fail) [Tryz.results86, *]))
   refine WC.mono (none_w _ _) ?_
   rintro _ rfl
   iterate 6 (all_goals try (first | with_reducible refine splitI (fun h=>?_) (fun h=>?_) | with_reducible refine splitBI (fun h=>?_) (fun h=>?_) | simp (config:={ maxSteps:=1000000 }) (disch:=first | assumption | omega | (simp; done) | fail) [Tryz.results86, *]))
   refine ⟨_,⟨?_,rfl⟩,by show n≤n+1+1+1; omega,fun q hq=>?_⟩
   ·unfold edgeOK; simp [*]
   ·have hq' : q < n:=hq
    show gput _ _ _ _=g q
    simp (disch:=omega) only [gput_lt]
 have t1' : ¬(to = -1∧out = -1):=fun h=>t1 h.1
 by_cases t3:0≤to
 ·by_cases t4:to < (M.rows.length:Int)
  ·by_cases t5:0≤out
   ·by_cases t6:out < M.out
    ·iterate 6 (all_goals try (first | with_reducible refine splitI (fun h=>?_) (fun h=>?_) | with_reducible refine splitBI (fun h=>?_) (fun h=>?_) | simp (config:={ maxSteps:=1000000 }) (disch:=first | assumption | omega | (simp; done) | fail) [Tryz.results86, *]))
     refine WC.mono (none_w _ _) ?_
     rintro _ rfl
     iterate 6 (all_goals try (first | with_reducible refine splitI (fun h=>?_) (fun h=>?_) | with_reducible refine splitBI (fun h=>?_) (fun h=>?_) | simp (config:={ maxSteps:=1000000 }) (disch:=first | assumption | omega | (simp; done) | fail) [Tryz.results86, *]))
     refine ⟨_,⟨?_,rfl⟩,by show n≤n+1+1+1; omega,fun q hq=>?_⟩
     ·unfold edgeOK; simp [*]
     ·have hq' : q < n:=hq
      show gput _ _ _ _=g q
      simp (disch:=omega) only [gput_lt]
    ·iterate 6 (all_goals try (first | with_reducible refine splitI (fun h=>?_) (fun h=>?_) | with_reducible refine splitBI (fun h=>?_) (fun h=>?_) | simp (config:={ maxSteps:=1000000 }) (disch:=first | assumption | omega | (simp; done) | fail) [Tryz.results86, *]))
     refine WC.mono (none_w _ _) ?_
     rintro _ rfl
     iterate 6 (all_goals try (first | with_reducible refine splitI (fun h=>?_) (fun h=>?_) | with_reducible refine splitBI (fun h=>?_) (fun h=>?_) | simp (config:={ maxSteps:=1000000 }) (disch:=first | assumption | omega | (simp; done) | fail) [Tryz.results86, *]))
     refine ⟨_,⟨?_,rfl⟩,by show n≤n+1+1+1; omega,fun q hq=>?_⟩
     ·unfold edgeOK; simp [*]
     ·have hq' : q < n:=hq
      show gput _ _ _ _=g q
      simp (disch:=omega) only [gput_lt]
   ·iterate 6 (all_goals try (first | with_reducible refine splitI (fun h=>?_) (fun h=>?_) | with_reducible refine splitBI (fun h=>?_) (fun h=>?_) | simp (config:={ maxSteps:=1000000 }) (disch:=first | assumption | omega | (simp; done) | fail) [Tryz.results86, *]))
    refine WC.mono (none_w _ _) ?_
    rintro _ rfl
    iterate 6 (all_goals try (first | with_reducible refine splitI (fun h=>?_) (fun h=>?_) | with_reducible refine splitBI (fun h=>?_) (fun h=>?_) | simp (config:={ maxSteps:=1000000 }) (disch:=first | assumption | omega | (simp; done) | fail) [Tryz.results86, *]))
    refine ⟨_,⟨?_,rfl⟩,by show n≤n+1+1+1; omega,fun q hq=>?_⟩
    ·unfold edgeOK; simp [*]
    ·have hq' : q < n:=hq
     show gput _ _ _ _=g q
     simp (disch:=omega) only [gput_lt]
  ·iterate 6 (all_goals try (first | with_reducible refine splitI (fun h=>?_) (fun h=>?_) | with_reducible refine splitBI (fun h=>?_) (fun h=>?_) | simp (config:={ maxSteps:=1000000 }) (disch:=first | assumption | omega | (simp; done) | fail) [Tryz.results86, *]))
   refine WC.mono (none_w _ _) ?_
   rintro _ rfl
   iterate 6 (all_goals try (first | with_reducible refine splitI (fun h=>?_) (fun h=>?_) | with_reducible refine splitBI (fun h=>?_) (fun h=>?_) | simp (config:={ maxSteps:=1000000 }) (disch:=first | assumption | omega | (simp; done) | fail) [Tryz.results86, *]))
   refine ⟨_,⟨?_,rfl⟩,by show n≤n+1+1+1; omega,fun q hq=>?_⟩
   ·unfold edgeOK; simp [*]
   ·have hq' : q < n:=hq
    show gput _ _ _ _=g q
    simp (disch:=omega) only [gput_lt]
 ·iterate 6 (all_goals try (first | with_reducible refine splitI (fun h=>?_) (fun h=>?_) | with_reducible refine splitBI (fun h=>?_) (fun h=>?_) | simp (config:={ maxSteps:=1000000 }) (disch:=first | assumption | omega | (simp; done) | fail) [Tryz.results86, *]))
  refine WC.mono (none_w _ _) ?_
  rintro _ rfl
  iterate 6 (all_goals try (first | with_reducible refine splitI (fun h=>?_) (fun h=>?_) | with_reducible refine splitBI (fun h=>?_) (fun h=>?_) | simp (config:={ maxSteps:=1000000 }) (disch:=first | assumption | omega | (simp; done) | fail) [Tryz.results86, *]))
  refine ⟨_,⟨?_,rfl⟩,by show n≤n+1+1+1; omega,fun q hq=>?_⟩
  ·unfold edgeOK; simp [*]
  ·have hq' : q < n:=hq
   show gput _ _ _ _=g q
   simp (disch:=omega) only [gput_lt]
theorem mC1_w {M:MachM} (e:Int×Int) (p:Nat) (g:Nat→Option Blk) (n:Nat) (ms:List AV) (hr:RepM g n M ms) (hp:g p=some (.cells ms true 0)) (hpn:p < n) :
  WC 3 Tryz.prog 85 [.agg [.lit (.int .i64 e.1),.lit (.int .i64 e.2)],.ptr p 0] ⟨.fn g,n⟩ fun r=>r=.ret (.lit (.bool (!edgeOK M.rows.length M.out e))) ⟨.fn g,n⟩:=by
 refine WC.drop1 rfl ?_
 have h1e:allOne [.lit (.int .i64 e.1),.lit (.int .i64 e.2)]=true:=by simp
 have HR:=Hide.mk hr
 obtain ⟨rv,hms,h1r⟩:=hr.one
 subst hms
 have h1a:allOne [.lit (.int .i64 M.inp),.lit (.int .i64 M.out),rv]=true:=by simp [h1r]
 clear hr
 refine WC.enterP (noO_ok _ _) hG [] Tryz.func85 rfl (by decide +kernel) (Nat.le_of_ble_eq_true (by kernel_rfl)) ?_
 iterate 6 (all_goals try (first | with_reducible refine splitI (fun h=>?_) (fun h=>?_) | with_reducible refine splitBI (fun h=>?_) (fun h=>?_) | simp (config:={ maxSteps:=1000000 }) (disch:=first | assumption | omega | (simp; done) | fail) [Tryz.results85, *]))
 refine WC.mono (fits_w e _ _ _ (HR.out.mono (by omega) fun q hq=>gput_lt hq)) ?_
 rintro _ rfl
 iterate 6 (all_goals try (first | with_reducible refine splitI (fun h=>?_) (fun h=>?_) | with_reducible refine splitBI (fun h=>?_) (fun h=>?_) | simp (config:={ maxSteps:=1000000 }) (disch:=first | assumption | omega | (simp; done) | fail) [Tryz.results85, *]))
 all_goals exact ⟨Nat.le_succ n,fun b hb=>gput_lt hb⟩
theorem eIFunc_w {M:MachM} (row:List (Int×Int)) (hrl:row.length≤1000000) (sv:AV) (p:Nat) (g:Nat→Option Blk) (n:Nat) (ms:List AV) (hr:RepM g n M ms) (hp:g p=some (.cells ms true 0)) (hpn:p < n) (hsv:SliceV g n sv row.length (rowC row)) :
  WC 3 Tryz.prog 107 [sv,.func (.func 85) [] [.ptr p 0]] ⟨.fn g,n⟩ fun r=>∃ z:Int,r=.ret (.lit (.int .i64 z)) ⟨.fn g,n⟩∧decide (0≤z)=row.any fun e=>!edgeOK M.rows.length M.out e:=by
 have hlen:=@lenV Tryz.prog _ _ _ _ _ hsv
 have HR:=Hide.mk hr
 have HS:=Hide.mk hsv
 have HP:=Hide.mk hp
 clear hr hsv hp
 refine WC.enterP (noO_ok _ _) hG [] Tryz.func107 rfl (by decide +kernel) (Nat.le_of_ble_eq_true (by kernel_rfl)) ?_
 iterate 6 (all_goals try (first | with_reducible refine splitI (fun h=>?_) (fun h=>?_) | with_reducible refine splitBI (fun h=>?_) (fun h=>?_) | simp (config:={ maxSteps:=1000000 }) (disch:=first | assumption | omega | (simp; done) | fail) [Tryz.results107, *]))
 refine LX.ind (fun m gf H'=>∃ (k:Nat),k≤row.length∧m=row.length - k∧H'=⟨.fn g,n⟩∧(∀ e∈row.take k,edgeOK M.rows.length M.out e=true) ∧
  gf 0=some sv∧gf 1=some (.func (.func 85) [] [.ptr p 0])∧gf 7=some (.lit (.int .i64 row.length))∧gf 8=some (.lit (.int .i64 k))) (m0:=row.length) ?_ ?_
 ·exact ⟨0,Nat.zero_le _,rfl,rfl,by simp,by simp,by simp,by simp,by simp⟩
 rintro m gf H' ⟨k,hk,rfl,rfl,hpre,w0,w1,w7,w8⟩ ih
 have HPRE:=Hide.mk hpre
 clear hpre
 refine LX.roundP (noO_ok _ _) hG [] (by decide +kernel) ?_
 by_cases hlt:k < row.length
 ·have hltI:(k:Int) < (row.length:Int):=by omega
  rcases HS.out with ⟨h1,_⟩ | ⟨a2,off,ha2,hev,hrow⟩
  ·omega
  have hagg:=hrow.agg (k:=k * 2) (s:=2) (by rw [rowC_len]; omega)
  rw [rowC_at row k hlt] at hagg
  have htk:row.take (k+1)=row.take k++[row[k]]:=by rw [List.take_succ,List.getElem?_eq_getElem hlt]; rfl
  have hmem:=List.getElem_mem hlt
  have HT:=Hide.mk htk
  have HM:=Hide.mk hmem
  clear htk hmem hrow
  generalize row[k]=e at *
  have hmc:=mC1_w (M:=M) e p g n ms HR.out HP.out hpn
  have HMC:=Hide.mk hmc
  clear hmc
  cases hok:edgeOK M.rows.length M.out e with
  | true =>
   rcases hev with ⟨c2,rfl⟩ | ⟨c2,rfl⟩
   all_goals
    iterate 6 (all_goals try (first | with_reducible refine splitI (fun h=>?_) (fun h=>?_) | with_reducible refine splitBI (fun h=>?_) (fun h=>?_) | simp (config:={ maxSteps:=1000000 }) (disch:=first | assumption | omega | (simp; done) | fail) [Tryz.results107, *]))
    refine WC.mono HMC.out ?_
    rintro _ rfl
    rw [hok]
    iterate 6 (all_goals try (first | with_reducible refine splitI (fun h=>?_) (fun h=>?_) | with_reducible refine splitBI (fun h=>?_) (fun h=>?_) | simp (config:={ maxSteps:=1000000 }) (disch:=first | assumption | omega | (simp; done) | fail) [Tryz.results107, *]))
    refine ih.out (row.length - (k+1)) _ _ (by omega) ⟨k+1,by omega,rfl,rfl,fun e' he'=>?_,by simp [*],by simp [*],by simp [*],by simp⟩
    rw [HT.out] at he'
    rcases List.mem_append.1 he' with h | h
    ·exact HPRE.out e' h
    ·rw [List.mem_singleton.1 h]; exact hok
  | false =>
   rcases hev with ⟨c2,rfl⟩ | ⟨c2,rfl⟩
   all_goals
    iterate 6 (all_goals try (first | with_reducible refine splitI (fun h=>?_) (fun h=>?_) | with_reducible refine splitBI (fun h=>?_) (fun h=>?_) | simp (config:={ maxSteps:=1000000 }) (disch:=first | assumption | omega | (simp; done) | fail) [Tryz.results107, *]))
    refine WC.mono HMC.out ?_
    rintro _ rfl
    rw [hok]
    iterate 6 (all_goals try (first | with_reducible refine splitI (fun h=>?_) (fun h=>?_) | with_reducible refine splitBI (fun h=>?_) (fun h=>?_) | simp (config:={ maxSteps:=1000000 }) (disch:=first | assumption | omega | (simp; done) | fail) [Tryz.results107, *]))
    exact ⟨e.1,e.2,HM.out,hok⟩
 ·have hltI:¬(k:Int) < (row.length:Int):=by omega
  have hk2:k=row.length:=by omega
  have HK2:=Hide.mk hk2
  clear hk2
  iterate 6 (all_goals try (first | with_reducible refine splitI (fun h=>?_) (fun h=>?_) | with_reducible refine splitBI (fun h=>?_) (fun h=>?_) | simp (config:={ maxSteps:=1000000 }) (disch:=first | assumption | omega | (simp; done) | fail) [Tryz.results107, *]))
  have h0:=HPRE.out
  rw [HK2.out,List.take_length] at h0
  exact fun a b hab=>h0 _ hab
theorem eCFunc_w {M:MachM} (row:List (Int×Int)) (hrl:row.length≤1000000) (sv:AV) (p:Nat) (g:Nat→Option Blk) (n:Nat) (ms:List AV) (hr:RepM g n M ms) (hp:g p=some (.cells ms true 0)) (hpn:p < n) (hsv:SliceV g n sv row.length (rowC row)) :
  WC 3 Tryz.prog 84 [sv,.func (.func 85) [] [.ptr p 0]] ⟨.fn g,n⟩ fun r=>r=.ret (.lit (.bool (row.any fun e=>!edgeOK M.rows.length M.out e))) ⟨.fn g,n⟩:=by
 have HI:=Hide.mk (eIFunc_w row hrl sv p g n ms hr hp hpn hsv)
 clear hr hp hsv
 refine WC.enterP (noO_ok _ _) hG [] Tryz.func84 rfl (by decide +kernel) (Nat.le_of_ble_eq_true (by kernel_rfl)) ?_
 iterate 6 (all_goals try (first | with_reducible refine splitI (fun h=>?_) (fun h=>?_) | with_reducible refine splitBI (fun h=>?_) (fun h=>?_) | simp (config:={ maxSteps:=1000000 }) (disch:=first | assumption | omega | (simp; done) | fail) [Tryz.results84, *]))
 refine WC.mono HI.out ?_
 rintro _ ⟨z,rfl,hz⟩
 generalize (row.any fun e=>!edgeOK M.rows.length M.out e)=bb at *
 cases bb with
 | true =>
  have hz1:0≤z:=of_decide_eq_true hz
  clear hz
  iterate 6 (all_goals try (first | with_reducible refine splitI (fun h=>?_) (fun h=>?_) | with_reducible refine splitBI (fun h=>?_) (fun h=>?_) | simp (config:={ maxSteps:=1000000 }) (disch:=first | assumption | omega | (simp; done) | fail) [Tryz.results84, *]))
 | false =>
  have hz1:¬0≤z:=of_decide_eq_false hz
  clear hz
  iterate 6 (all_goals try (first | with_reducible refine splitI (fun h=>?_) (fun h=>?_) | with_reducible refine splitBI (fun h=>?_) (fun h=>?_) | simp (config:={ maxSteps:=1000000 }) (disch:=first | assumption | omega | (simp; done) | fail) [Tryz.results84, *]))
def mErr (M:MachM) : Int :=
 if M.inp > 16∨M.out > 16∨M.rows.length > 64 then 3 else if M.inp < 1∨M.out < 1∨M.rows.length < 1 then 1
 else if (∀ r∈M.rows,(r.length:Int)=M.inp∧(r.any fun e=>!edgeOK M.rows.length M.out e)=false) then 0 else 1
theorem mErr_ok {M:MachM} : mErr M=0↔M.ok:=by
 unfold mErr MachM.ok
 split
 ·constructor
  ·intro h; cases h
  ·intro h; omega
 split
 ·constructor
  ·intro h; cases h
  ·intro h; omega
 split
 ·rename_i h1 h2 h3
  refine ⟨fun _=>⟨by omega,by omega,by omega,by omega,by omega,by omega,fun r hr=>⟨(h3 r hr).1,fun e he=>?_⟩⟩,fun _=>rfl⟩
  have h4:=(h3 r hr).2
  rw [List.any_eq_false] at h4
  simpa using h4 e he
 ·rename_i h1 h2 h3
  constructor
  ·intro h; cases h
  ·intro h
   exfalso
   refine h3 fun r hr=>⟨(h.2.2.2.2.2.2 r hr).1,?_⟩
   rw [List.any_eq_false]
   intro e he
   rw [(h.2.2.2.2.2.2 r hr).2 e he]; decide
theorem mCheck_w {M:MachM} (hrl:∀ r∈M.rows,r.length≤1000000) (g:Nat→Option Blk) (n:Nat) (ms:List AV) (hr:RepM g n M ms) :
  WC 3 Tryz.prog 49 [.agg ms] ⟨.fn g,n⟩ fun r=>r=.ret (.lit (.int .i64 (mErr M))) ⟨.fn g,n⟩:=by
 refine WC.drop1 rfl ?_
 have HR:=Hide.mk hr
 obtain ⟨rv,svs,rfl,hrows,hrv⟩:=hr
 have h1r:=hrv.one
 have h1a:allOne [.lit (.int .i64 M.inp),.lit (.int .i64 M.out),rv]=true:=by simp [h1r]
 have hlen:=@lenV Tryz.prog _ _ _ _ _ hrv
 have HROW:=Hide.mk hrows
 have HRV:=Hide.mk hrv
 have HRL:=Hide.mk hrl
 have hsl:=hrows.len
 clear hrows hrv hrl
 refine WC.enterP (noO_ok _ _) hG [] Tryz.func49 rfl (by decide +kernel) (Nat.le_of_ble_eq_true (by kernel_rfl)) ?_
 by_cases a1:(16:Int) < M.inp
 ·have hm:mErr M=3:=by unfold mErr; rw [if_pos (by omega)]
  rw [hm]
  iterate 6 (all_goals try (first | with_reducible refine splitI (fun h=>?_) (fun h=>?_) | with_reducible refine splitBI (fun h=>?_) (fun h=>?_) | simp (config:={ maxSteps:=1000000 }) (disch:=first | assumption | omega | (simp; done) | fail) [Tryz.results49, *]))
  exact ⟨Nat.le_succ n,fun b hb=>gput_lt hb⟩
 by_cases a2:(16:Int) < M.out
 ·have hm:mErr M=3:=by unfold mErr; rw [if_pos (by omega)]
  rw [hm]
  iterate 6 (all_goals try (first | with_reducible refine splitI (fun h=>?_) (fun h=>?_) | with_reducible refine splitBI (fun h=>?_) (fun h=>?_) | simp (config:={ maxSteps:=1000000 }) (disch:=first | assumption | omega | (simp; done) | fail) [Tryz.results49, *]))
  exact ⟨Nat.le_succ n,fun b hb=>gput_lt hb⟩
 by_cases a3:(64:Int) < (M.rows.length:Int)
 ·have hm:mErr M=3:=by unfold mErr; rw [if_pos (by omega)]
  rw [hm]
  iterate 6 (all_goals try (first | with_reducible refine splitI (fun h=>?_) (fun h=>?_) | with_reducible refine splitBI (fun h=>?_) (fun h=>?_) | simp (config:={ maxSteps:=1000000 }) (disch:=first | assumption | omega | (simp; done) | fail) [Tryz.results49, *]))
  exact ⟨Nat.le_succ n,fun b hb=>gput_lt hb⟩
 by_cases b1:M.inp < 1
 ·have hm:mErr M=1:=by unfold mErr; rw [if_neg (by omega),if_pos (by omega)]
  rw [hm]
  iterate 6 (all_goals try (first | with_reducible refine splitI (fun h=>?_) (fun h=>?_) | with_reducible refine splitBI (fun h=>?_) (fun h=>?_) | simp (config:={ maxSteps:=1000000 }) (disch:=first | assumption | omega | (simp; done) | fail) [Tryz.results49, *]))
  exact ⟨Nat.le_succ n,fun b hb=>gput_lt hb⟩
 by_cases b2:M.out < 1
 ·have hm:mErr M=1:=by unfold mErr; rw [if_neg (by omega),if_pos (by omega)]
  rw [hm]
  iterate 6 (all_goals try (first | with_reducible refine splitI (fun h=>?_) (fun h=>?_) | with_reducible refine splitBI (fun h=>?_) (fun h=>?_) | simp (config:={ maxSteps:=1000000 }) (disch:=first | assumption | omega | (simp; done) | fail) [Tryz.results49, *]))
  exact ⟨Nat.le_succ n,fun b hb=>gput_lt hb⟩
 by_cases b3:(M.rows.length:Int) < 1
 ·have hm:mErr M=1:=by unfold mErr; rw [if_neg (by omega),if_pos (by omega)]
  rw [hm]
  iterate 6 (all_goals try (first | with_reducible refine splitI (fun h=>?_) (fun h=>?_) | with_reducible refine splitBI (fun h=>?_) (fun h=>?_) | simp (config:={ maxSteps:=1000000 }) (disch:=first | assumption | omega | (simp; done) | fail) [Tryz.results49, *]))
  exact ⟨Nat.le_succ n,fun b hb=>gput_lt hb⟩
 have hgo:mErr M=if (∀ r∈M.rows,(r.length:Int)=M.inp∧(r.any fun e=>!edgeOK M.rows.length M.out e)=false) then 0 else 1:=by unfold mErr; rw [if_neg (by omega),if_neg (by omega)]
 have HGO:=Hide.mk hgo
 clear hgo
 iterate 6 (all_goals try (first | with_reducible refine splitI (fun h=>?_) (fun h=>?_) | with_reducible refine splitBI (fun h=>?_) (fun h=>?_) | simp (config:={ maxSteps:=1000000 }) (disch:=first | assumption | omega | (simp; done) | fail) [Tryz.results49, *]))
 refine LX.ind (fun m gf H'=>∃ (k:Nat),k≤M.rows.length∧m=M.rows.length - k∧H'=⟨.fn (gput g n (some (.cells [.lit (.int .i64 M.inp),.lit (.int .i64 M.out),rv] true 0))),n+1⟩∧(∀ r∈M.rows.take k,(r.length:Int)=M.inp∧(r.any fun e=>!edgeOK M.rows.length M.out e)=false) ∧
  gf 1=some (.ptr n 0)∧gf 34=some rv∧gf 35=some (.lit (.int .i64 M.rows.length))∧gf 36=some (.lit (.int .i64 k))) (m0:=M.rows.length) ?_ ?_
 ·exact ⟨0,Nat.zero_le _,rfl,rfl,by simp,by simp,by simp,by simp,by simp⟩
 rintro m gf H' ⟨k,hk,rfl,rfl,hpre,w1,w34,w35,w36⟩ ih
 have HPRE:=Hide.mk hpre
 clear hpre
 refine LX.roundP (noO_ok _ _) hG [] (by decide +kernel) ?_
 by_cases hlt:k < M.rows.length
 ·have hltI:(k:Int) < (M.rows.length:Int):=by omega
  have hR:=HROW.out.at k hlt (by omega)
  rcases HRV.out with ⟨h1,_⟩ | ⟨a2',off,ha2,hev,hrow⟩
  ·omega
  have hcell:=(hrow.mono (g':=gput g n (some (.cells [.lit (.int .i64 M.inp),.lit (.int .i64 M.out),rv] true 0))) (gput_lt ha2)).one (k:=k) (s:=1) (by omega)
  rw [gput_lt ha2] at hcell
  have htk:M.rows.take (k+1)=M.rows.take k++[M.rows[k]]:=by rw [List.take_succ,List.getElem?_eq_getElem hlt]; rfl
  have hmem:=List.getElem_mem hlt
  have hrl:=HRL.out _ hmem
  have HT:=Hide.mk htk
  have HM:=Hide.mk hmem
  clear htk hmem hrow
  generalize svs[k]'(by omega)=sv at hR hcell
  generalize M.rows[k]=row at hR HT HM hrl
  have hlen2:=@lenV Tryz.prog _ _ _ _ _ hR
  have hcf:=eCFunc_w (M:=M) row hrl sv n (gput g n (some (.cells [.lit (.int .i64 M.inp),.lit (.int .i64 M.out),rv] true 0))) (n+1) _ (HR.out.mono (by omega) fun q hq=>gput_lt hq) gput_eq (by omega) (hR.mono (by omega) fun q hq=>gput_lt hq)
  have HCF:=Hide.mk hcf
  clear hcf hR
  by_cases hli:(row.length:Int)=M.inp
  ·cases hok:(row.any fun e=>!edgeOK M.rows.length M.out e) with
   | true =>
    rcases hev with ⟨c2,rfl⟩ | ⟨c2,rfl⟩
    all_goals
     iterate 6 (all_goals try (first | with_reducible refine splitI (fun h=>?_) (fun h=>?_) | with_reducible refine splitBI (fun h=>?_) (fun h=>?_) | simp (config:={ maxSteps:=1000000 }) (disch:=first | assumption | omega | (simp; done) | fail) [Tryz.results49, *]))
     refine WC.mono HCF.out ?_
     rintro _ rfl
     rw [hok]
     have hm:mErr M=1:=by rw [HGO.out,if_neg (fun h=>by have:=(h row HM.out).2; rw [hok] at this; cases this)]
     rw [hm]
     iterate 6 (all_goals try (first | with_reducible refine splitI (fun h=>?_) (fun h=>?_) | with_reducible refine splitBI (fun h=>?_) (fun h=>?_) | simp (config:={ maxSteps:=1000000 }) (disch:=first | assumption | omega | (simp; done) | fail) [Tryz.results49, *]))
     exact ⟨Nat.le_succ n,fun b hb=>gput_lt hb⟩
   | false =>
    rcases hev with ⟨c2,rfl⟩ | ⟨c2,rfl⟩
    all_goals
     iterate 6 (all_goals try (first | with_reducible refine splitI (fun h=>?_) (fun h=>?_) | with_reducible refine splitBI (fun h=>?_) (fun h=>?_) | simp (config:={ maxSteps:=1000000 }) (disch:=first | assumption | omega | (simp; done) | fail) [Tryz.results49, *]))
     refine WC.mono HCF.out ?_
     rintro _ rfl
     rw [hok]
     iterate 6 (all_goals try (first | with_reducible refine splitI (fun h=>?_) (fun h=>?_) | with_reducible refine splitBI (fun h=>?_) (fun h=>?_) | simp (config:={ maxSteps:=1000000 }) (disch:=first | assumption | omega | (simp; done) | fail) [Tryz.results49, *]))
     refine ih.out (M.rows.length - (k+1)) _ _ (by omega) ⟨k+1,by omega,rfl,rfl,fun e' he'=>?_,by simp [*],by simp [*],by simp [*],by simp⟩
     rw [HT.out] at he'
     rcases List.mem_append.1 he' with h | h
     ·exact HPRE.out e' h
     ·rw [List.mem_singleton.1 h]; exact ⟨hli,hok⟩
  ·rcases hev with ⟨c2,rfl⟩ | ⟨c2,rfl⟩
   all_goals
    have hm:mErr M=1:=by rw [HGO.out,if_neg (fun h=>hli (h row HM.out).1)]
    rw [hm]
    iterate 6 (all_goals try (first | with_reducible refine splitI (fun h=>?_) (fun h=>?_) | with_reducible refine splitBI (fun h=>?_) (fun h=>?_) | simp (config:={ maxSteps:=1000000 }) (disch:=first | assumption | omega | (simp; done) | fail) [Tryz.results49, *]))
    exact ⟨Nat.le_succ n,fun b hb=>gput_lt hb⟩
 ·have hltI:¬(k:Int) < (M.rows.length:Int):=by omega
  have hk2:k=M.rows.length:=by omega
  have hm:mErr M=0:=by
   rw [HGO.out,if_pos]
   have h0:=HPRE.out
   rw [hk2,List.take_length] at h0
   exact h0
  rw [hm]
  clear hk2
  iterate 6 (all_goals try (first | with_reducible refine splitI (fun h=>?_) (fun h=>?_) | with_reducible refine splitBI (fun h=>?_) (fun h=>?_) | simp (config:={ maxSteps:=1000000 }) (disch:=first | assumption | omega | (simp; done) | fail) [Tryz.results49, *]))
  exact ⟨Nat.le_succ n,fun b hb=>gput_lt hb⟩
end Go.Ai
end
section
namespace Go.Ai
open Go.Proofs
set_option maxRecDepth 10000
set_option maxHeartbeats 40000000
end Go.Ai
end
section
namespace Go.Ai
open Go.Proofs Go.RowKit
set_option maxHeartbeats 4000000
set_option maxRecDepth 100000
theorem string_run {w:World} {b g cap:Nat} {p:Value} {cur:Array Value} {l:List UInt8} (hb:w.heap[b]?=some (.cells #[p,.slice (some ⟨g,0,none⟩) l.length cap] 113 (0,0))) (hg:w.heap[g]?=some (.cells cur 5 (0,0)))
  (h0:l≠[]) (hcap:l.length≤cap) (hcs:cur.size=cap) (h63:l.length≤1000000) (hcell:∀ (j:Nat) (x:UInt8),l[j]?=some x→cur[j]?=some (Value.int .u8 x.toNat)) :
  Calls Tryz.prog 60 #[.pointer (some ⟨b,0,none⟩)] w fun e w'=>e=.returned (.string ⟨l.toArray⟩)∧w'=w.drew.freeze ⟨g,0,none⟩ l.length:=by
 have hl0:l.length≠0:=by simpa using h0
 have c1:w.drew.cell? ⟨b,1,none⟩=some (.slice (some ⟨g,0,none⟩) l.length cap):=by
  have:w.drew.heap[b]?=some (.cells #[p,.slice (some ⟨g,0,none⟩) l.length cap] 113 (0,0)):=hb
  rw [Lib.cell_of_heap this]; rfl
 have mixed:Tryz.prog.follows .mixedOrders=true:=by kernel_rfl
 have hSD:(Builtin.unsafeSliceData_ #[67] 155 #[.slice (some ⟨g,0,none⟩) l.length cap]).run Tryz.prog w.drew=.ok (.pointer (some ⟨g,0,none⟩)) w.drew :=
  Lib.run_unsafeSliceData_row _ _ _ _ _ _ (by omega)
 have hg' : w.drew.heap[g]?=some (.cells cur 5 (0,0)):=hg
 have hUS:(Builtin.unsafeString_ #[155,3] 9 #[.pointer (some ⟨g,0,none⟩),.int .i64 l.length]).run Tryz.prog w.drew=.ok (.string ⟨l.toArray⟩) (w.drew.freeze ⟨g,0,none⟩ l.length):=by
  refine Lib.run_unsafeString_row w.drew 155 3 9 5 Tryz.underlying155 (by kernel_rfl) g cur.size (by simp [World.shape?,hg']) l h0 (by omega) (by omega) ?_
  intro j x hx
  rw [show (⟨g,0,none⟩ : Addr).add j=⟨g,j,none⟩ by rw [add_none]; simp]
  rw [Lib.cell_of_heap hg']
  exact hcell j x hx
 go_enter Tryz.func60,Tryz.ntmps60
 go_wp2
 go_region_o
 all_goals (go_wp2; go_ret; exact ⟨rfl,rfl⟩)
def bytesG:List AV→Option (List UInt8)
 | []=>some []
 | .lit (.int .u8 (.ofNat k)) :: l=>match Nat.ble k 255,bytesG l with | true,some r=>some (UInt8.ofNat k :: r) | _,_=>none
 | _ :: _=>none
theorem bytesG_at:∀ {l:List AV} {bs:List UInt8},bytesG l=some bs→bs.length=l.length∧∀ (j:Nat) (x:UInt8),bs[j]?=some x→l[j]?=some (.lit (.int .u8 (x.toNat:Int)))
 | [],bs,h=>by cases h; exact ⟨rfl,fun j x h=>by simp at h⟩
 | .lit (.int .u8 (.ofNat k)) :: l,bs,h=>by
  unfold bytesG at h
  split at h
  ·rename_i r hk hr
   cases h
   obtain ⟨h1,h2⟩:=bytesG_at hr
   refine ⟨by simp [h1],fun j x hx=>?_⟩
   cases j with
   | zero =>
    have hk' : k≤255:=Nat.le_of_ble_eq_true hk
    have hx' : UInt8.ofNat k=x:=by simpa using hx
    subst hx'
    have:(UInt8.ofNat k).toNat=k:=by rw [UInt8.toNat_ofNat',Nat.mod_eq_of_lt (by omega)]
    rw [this]; rfl
   | succ j =>
    have:=h2 j x (by simpa using hx)
    simpa using this
  ·cases h
noncomputable def sStr (args:List AV) (H:Mem) : COut:=match args with
 | [.ptr a 0]=>(match H.get a with
  | some (.typ T [_,.slq g 0 n 0] true)=>(match H.get g with
   | some (.typ el l false)=>(match (Nat.beq T 113 && Nat.beq el 5) && (Nat.beq n (len l) && (Nat.blt 0 n && Nat.ble n 1000000)),bytesG l with
    | true,some bs=>H.setK g (.cells l false 0) fun H'=>.ret (.lit (.string ⟨bs.toArray⟩)) H'
    | _,_=>.bad)
   | _=>.bad)
  | _=>.bad)
 | _=>.bad
theorem freeze_heap {w:World} {g n:Nat} {cur:Array Value} {t:TypeId} {fz:Nat×Nat} (h:w.heap[g]?=some (.cells cur t fz)) :
  (∃ fz',(w.freeze ⟨g,0,none⟩ n).heap[g]?=some (.cells cur t fz'))∧(w.freeze ⟨g,0,none⟩ n).heap.size=w.heap.size∧∀ j,j≠g→(w.freeze ⟨g,0,none⟩ n).heap[j]?=w.heap[j]?:=by
 unfold World.freeze
 split
 ·exact ⟨⟨fz,h⟩,rfl,fun _ _=>rfl⟩
 ·refine ⟨?_,by simp,fun j hj=>?_⟩
  ·simp only [Array.getElem?_modify]
   rw [if_pos trivial,h]
   exact ⟨_,rfl⟩
  ·simp only [Array.getElem?_modify]
   rw [if_neg (fun e=>hj e.symm)]
theorem Sim.setR {B G:Nat} {ρ:Rn} {H:Mem} {w w' : World} (s:Sim B G ρ H w) {a:Nat} {x y:Blk} {b o k:Nat} (ha:H.get a=some x) (hr:ρ a=some (b,o,k)) (hown:x.own=true)
  (hsz:w.heap.size≤w'.heap.size) (hh:∀ b',b'≠b→b' < w.heap.size→w'.heap[b']?=w.heap[b']?) (hy:BR B ρ y b o k w') : Sim B G ρ (H.upd a y) w':=by
 refine ⟨?_,?_,fun j hj=>s.fresh j hj,?_,s.names,Nat.le_trans s.base hsz⟩
 ·intro j z hz
  rcases Mem.get_upd hz with ⟨rfl,rfl⟩ | ⟨hne,hz⟩
  ·exact .inr ⟨b,o,k,hr,hy⟩
  ·rcases s.blk j z hz with hn | ⟨b',o',k',hr',hb⟩
   ·exact .inl hn
   ·refine .inr ⟨b',o',k',hr',hb.mono (Sub.refl _) (hh b' ?_ hb.lt)⟩
    rintro rfl
    exact s.inj a j x z b' o k o' k' ha hz (Ne.symm hne) hown hr hr'
 ·intro j j' z z' b1 o1 k1 o2 k2 h h' hne ho hr1 hr2
  rcases Mem.get_upd h with ⟨e1,e2⟩ | ⟨hn1,g⟩
  ·rcases Mem.get_upd h' with ⟨e3,e4⟩ | ⟨hn2,g'⟩
   ·exact hne (e1.trans e3.symm)
   ·subst e1; exact s.inj j j' x z' b1 o1 k1 o2 k2 ha g' hne hown hr1 hr2
  ·rcases Mem.get_upd h' with ⟨e3,e4⟩ | ⟨hn2,g'⟩
   ·subst e3; exact s.inj j' j x z b1 o2 k2 o1 k1 ha g (Ne.symm hne) hown hr2 hr1
   ·exact s.inj j j' z z' b1 o1 k1 o2 k2 g g' hne ho hr1 hr2
 ·intro j z hj hz
  rcases Mem.get_upd hz with ⟨rfl,rfl⟩ | ⟨hne,hz⟩
  ·exact s.glob j x hj ha
  ·exact s.glob j z hj hz
theorem sStr_w (args:List AV) (H:Mem) (h:sStr args H≠.bad) : WC 3 Tryz.prog 60 args H fun r=>r=sStr args H:=by
 unfold sStr at h ⊢
 split at h
 ·rename_i a
  split at h
  ·rename_i T p g n hga
   split at h
   ·rename_i el l hgg
    split at h
    ·rename_i bs hc hbs
     simp only [Bool.and_eq_true] at hc
     have hT:T=113:=Nat.eq_of_beq_eq_true hc.1.1
     have hel:el=5:=Nat.eq_of_beq_eq_true hc.1.2
     have hn:n=l.length:=by rw [← len_eq]; exact Nat.eq_of_beq_eq_true hc.2.1
     have hn0:0 < n:=Nat.le_of_ble_eq_true hc.2.2.1
     have hn1:n≤1000000:=Nat.le_of_ble_eq_true hc.2.2.2
     subst hT hel
     intro B ρ us w s hv
     obtain ⟨u,us',hl,hvu,hnil⟩:=hv
     have hus' : us'=[]:=hnil
     subst hus'
     have hus:us=#[u]:=by rw [← Array.toArray_toList (xs:=us),hl]
     subst hus
     obtain ⟨b,o,k,hr,rfl⟩:=hvu
     obtain ⟨rfl,hB,c,hb,hcc,hex,_⟩:=s.at hga hr
     have hcs:c.size=2:=hex rfl
     obtain ⟨u0,hu0,_⟩:=hcc 0 _ rfl
     obtain ⟨u1,hu1,hv1⟩:=hcc 1 _ rfl
     obtain ⟨b2,o2,k2,hr2,hle2,rfl⟩:=hv1
     obtain ⟨rfl,hB2,c2,hb2,hcc2,_,hex2⟩:=s.at hgg hr2
     obtain ⟨hk2,hlk⟩:=hex2 rfl
     have hce:c=#[u0,.slice (some ⟨b2,0+0,none⟩) n (k2 - 0)]:=by
      apply Array.ext'
      have h2:c.toList.length=2:=hcs
      match hcl:c.toList,h2 with
      | [x,y],_ =>
       have e0:c[0]?=some x:=by rw [← Array.getElem?_toList,hcl]; rfl
       have e1:c[1]?=some y:=by rw [← Array.getElem?_toList,hcl]; rfl
       rw [e0] at hu0; rw [e1] at hu1
       cases hu0; cases hu1; rfl
     obtain ⟨hbl,hbat⟩:=bytesG_at hbs
     subst hce
     have hrun:=string_run (w:=w) (b:=b) (g:=b2) (cap:=k2) (p:=u0) (cur:=c2) (l:=bs) (by rw [hbl,← hn]; simpa using hb) hb2 (fun e=>by rw [e] at hbl; simp at hbl; omega) (by omega) hk2 (by omega)
      (fun j x hx=>by
       obtain ⟨u,hu,hvu⟩:=hcc2 j _ (hbat j x hx)
       rw [hu,show u=Value.int .u8 x.toNat from hvu])
     refine hrun.mono ?_
     rintro e w' ⟨rfl,rfl⟩
     obtain ⟨⟨fz',f1⟩,f2,f3⟩:=freeze_heap (n:=bs.length) (show w.drew.heap[b2]?=some (.cells c2 5 (0,0)) from hb2)
     rw [Mem.setK_eq]
     refine ⟨_,rfl,ρ,⟨fun _ _=>rfl,KD.turn (x:=.cells c2 5 (0,0)) hb2 rfl fun j hj=>f3 j hj,Lib.below_freeze (Below.drew (Below.refl B w)) (p:=⟨b2,0,none⟩) hB2 _⟩,?_,rfl,Nat.le_refl _⟩
     refine s.setR hgg hr2 rfl (by rw [f2]; exact Nat.le_refl _) (fun j hj _=>f3 j hj) ⟨c2,5,fz',f1,fun i v hi=>?_,fun h=>by cases h⟩
     obtain ⟨u,hu,hvu⟩:=hcc2 i v hi
     exact ⟨u,by rw [Nat.zero_add]; exact hu,hvu⟩
    ·exact absurd rfl h
   ·exact absurd rfl h
  ·exact absurd rfl h
 ·exact absurd rfl h
end Go.Ai
end
