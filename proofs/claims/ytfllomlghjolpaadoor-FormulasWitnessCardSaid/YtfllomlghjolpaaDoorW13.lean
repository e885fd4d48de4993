/- A small verified interpreter over names, its proofs, and what was proved with it. No condition. -/
import Derived.Test.YtfllomlghjolpaaDoorW10
import Derived.Test.YtfllomlghjolpaaDoorW11
import Derived.Test.YtfllomlghjolpaaDoorW12
import Derived.Test.YtfllomlghjolpaaDoorW06
import Derived.Test.YtfllomlghjolpaaDoorW07
import Derived.Test.YtfllomlghjolpaaDoorW08
set_option linter.all false
set_option linter.deprecated false
section
namespace Go.Ai
open Go.Proofs
set_option maxRecDepth 10000
set_option maxHeartbeats 40000000
end Go.Ai
end
section
namespace Go.Ai
open Go.Proofs
set_option maxRecDepth 10000
set_option maxHeartbeats 40000000
mutual
theorem small_ok' : ∀ (x:NodeM) (left:Int),(sizeN x:Int)≤left→smallM x left=(true,left - sizeN x)
 | .mk op k q subs,left,h=>by
  have h' : ((sizeL subs+1:Nat) : Int)≤left:=h
  unfold smallM
  rw [smallL_ok' subs (left - 1) (by omega)]
  unfold sizeN
  congr 1
  omega
theorem smallL_ok' : ∀ (l:List NodeM) (left:Int),(sizeL l:Int)≤left→smallL l left=(true,left - sizeL l)
 | [],left,h=>by
  unfold smallL
  simp only [sizeL] at h ⊢
  simp [show 0≤left by omega]
 | x :: l,left,h=>by
  have h' : ((sizeN x+sizeL l:Nat) : Int)≤left:=h
  unfold smallL
  rw [if_neg (by omega),small_ok' x left (by omega)]
  dsimp only
  rw [smallL_ok' l _ (by omega)]
  simp only [sizeL]
  congr 1
  omega
end
end Go.Ai
end
section
namespace Go.Ai
open Go.Proofs
set_option maxRecDepth 10000
set_option maxHeartbeats 40000000
theorem of_facts (st inp out:Nat) (codes:List Nat) : validM 10000 10000 10000 (ofF st inp out codes)=true∧(smallM (ofF st inp out codes) 64).1=true∧sizeN (ofF st inp out codes)≤12∧(textM (ofF st inp out codes)).size≤384∧parseM (textM (ofF st inp out codes))=(ofF st inp out codes,0,0):=by
 obtain ⟨h1,h2⟩:=ofF_ok st inp out codes
 have ha:=Nat.mod_lt st (show 0 < 6 by omega)
 have hb:=Nat.mod_lt inp (show 0 < 3 by omega)
 have hc:=Nat.mod_lt out (show 0 < 3 by omega)
 have hv:validM 10000 10000 10000 (ofF st inp out codes)=true:=valid_mono (by omega) (by omega) (by omega) _ h1
 have hs:(smallM (ofF st inp out codes) 64).1=true:=by rw [small_ok' _ 64 (by omega)]
 have ht:=text_size _ hv
 exact ⟨hv,hs,h2,by omega,parse_text hv hs (by omega)⟩
end Go.Ai
end
section
namespace Go.Ai
open Go.Proofs
set_option maxRecDepth 10000
set_option maxHeartbeats 40000000
theorem of_valid (st inp out:Nat) (part:Bool) (es codes:List Nat) : validM ((machOf st inp out part es).rows.length:Nat) (machOf st inp out part es).inp (machOf st inp out part es).out (ofF st inp out codes)=true:=by
 have h:=(ofF_ok st inp out codes).1
 have e1:(machOf st inp out part es).rows.length=1+st % 6:=by show ((List.range (1+st % 6)).map _).length=_; rw [List.length_map,List.length_range]
 have e2:(machOf st inp out part es).inp=((1+inp % 3:Nat) : Int):=by show 1+((inp % 3:Nat) : Int)=_; omega
 have e3:(machOf st inp out part es).out=((1+out % 3:Nat) : Int):=by show 1+((out % 3:Nat) : Int)=_; omega
 rw [e1,e2,e3]
 exact h
end Go.Ai
end
section
namespace Go.Ai
open Go.Proofs
set_option maxRecDepth 10000
set_option maxHeartbeats 40000000
theorem clip_slq (a off len d:Nat) (hl:0 < len) (H:Mem) : WC 6 Tryd.prog 66 [.slq a off len d] H fun r=>r=.ret (.sl a off len len) H:=by
 refine WC.ofFn ?_
 refine WC.enterP (noO_ok _ _) hG [] Tryd.func66 rfl (by decide +kernel) (Nat.le_of_ble_eq_true (by kernel_rfl)) ?_
 try simp (maxSteps:=999999) (disch:=first | assumption | omega | (simp; done) | fail) [Tryd.results66, *]
theorem clip_sl (a off len c:Nat) (hl:0 < len) (hc:len≤c) (H:Mem) : WC 6 Tryd.prog 66 [.sl a off len c] H fun r=>r=.ret (.sl a off len len) H:=by
 refine WC.ofFn ?_
 refine WC.enterP (noO_ok _ _) hG [] Tryd.func66 rfl (by decide +kernel) (Nat.le_of_ble_eq_true (by kernel_rfl)) ?_
 try simp (maxSteps:=999999) (disch:=first | assumption | omega | (simp; done) | fail) [Tryd.results66, *]
theorem clip_nil (H:Mem) : WC 6 Tryd.prog 66 [.lit (.slice none 0 0)] H fun r=>r=.ret (.lit (.slice none 0 0)) H:=by
 refine WC.ofFn ?_
 refine WC.enterP (noO_ok _ _) hG [] Tryd.func66 rfl (by decide +kernel) (Nat.le_of_ble_eq_true (by kernel_rfl)) ?_
 try simp (maxSteps:=999999) (disch:=first | assumption | omega | (simp; done) | fail) [Tryd.results66, *]
end Go.Ai
end
section
namespace Go.Ai
open Go.Proofs
set_option maxRecDepth 10000
set_option maxHeartbeats 40000000
def wordC (l:List Nat) : List AV:=l.map fun (x:Nat)=>.lit (.int .i64 (x:Int))
theorem wordC_len (l:List Nat) : (wordC l).length=l.length:=by unfold wordC; simp
theorem wordC_at (l:List Nat) (i:Nat) : (wordC l)[i]?=l[i]?.map fun (x:Nat)=>AV.lit (.int .i64 (x:Int)):=by unfold wordC; simp
def revK (l:List Nat) (k:Nat) : List Nat:=(List.range l.length).map fun p=>if p < k∨l.length - k≤p then l.getD (l.length - 1 - p) 0 else l.getD p 0
theorem revK_len (l:List Nat) (k:Nat) : (revK l k).length=l.length:=by unfold revK; simp
theorem revK_at (l:List Nat) (k i:Nat) (h:i < l.length) : (revK l k)[i]?=some (if i < k∨l.length - k≤i then l.getD (l.length - 1 - i) 0 else l.getD i 0):=by
 unfold revK; simp [h]
theorem revK_zero (l:List Nat) : revK l 0=l:=by
 refine List.ext_getElem? fun i=>?_
 by_cases h:i < l.length
 ·rw [revK_at l 0 i h]
  have:¬(i < 0∨l.length - 0≤i):=by omega
  rw [if_neg this,List.getD_eq_getElem?_getD,List.getElem?_eq_getElem h]; rfl
 ·rw [List.getElem?_eq_none (by rw [revK_len]; omega),List.getElem?_eq_none (by omega)]
theorem revK_end (l:List Nat) (k:Nat) (h:l.length≤2 * k+1) : revK l k=l.reverse:=by
 refine List.ext_getElem? fun i=>?_
 by_cases hi:i < l.length
 ·rw [revK_at l k i hi,List.getElem?_reverse hi]
  have hg:l.getD (l.length - 1 - i) 0=l[l.length - 1 - i]'(by omega):=by
   rw [List.getD_eq_getElem?_getD,List.getElem?_eq_getElem (by omega)]; rfl
  rw [List.getElem?_eq_getElem (by omega),← hg]
  split
  ·rfl
  ·rename_i hc
   have:i=l.length - 1 - i:=by omega
   rw [← this]
 ·rw [List.getElem?_eq_none (by rw [revK_len]; omega),List.getElem?_eq_none (by rw [List.length_reverse]; omega)]
theorem revK_swap (l:List Nat) (k:Nat) (h:2 * k+1 < l.length) : ((wordC (revK l k)).set k (.lit (.int .i64 (l.getD (l.length - 1 - k) 0:Nat)))).set (l.length - 1 - k) (.lit (.int .i64 (l.getD k 0:Nat)))=wordC (revK l (k+1)):=by
 refine List.ext_getElem? fun i=>?_
 by_cases hi:i < l.length
 ·rw [wordC_at,revK_at l (k+1) i hi]
  by_cases h1:l.length - 1 - k=i
  ·subst h1
   rw [List.getElem?_set_self (by rw [List.length_set,wordC_len,revK_len]; exact hi)]
   have:l.length - 1 - k < k+1∨l.length - (k+1)≤l.length - 1 - k:=by omega
   rw [if_pos this,show l.length - 1 - (l.length - 1 - k)=k by omega]; rfl
  ·rw [List.getElem?_set_ne h1]
   by_cases h2:k=i
   ·subst h2
    rw [List.getElem?_set_self (by rw [wordC_len,revK_len]; exact hi)]
    have:k < k+1∨l.length - (k+1)≤k:=by omega
    rw [if_pos this]; rfl
   ·rw [List.getElem?_set_ne h2,wordC_at,revK_at l k i hi]
    by_cases h3:i < k∨l.length - k≤i
    ·have:i < k+1∨l.length - (k+1)≤i:=by omega
     rw [if_pos h3,if_pos this]
    ·have:¬(i < k+1∨l.length - (k+1)≤i):=by omega
     rw [if_neg h3,if_neg this]
 ·rw [List.getElem?_eq_none (by simp [wordC_len,revK_len]; omega),List.getElem?_eq_none (by simp [wordC_len,revK_len]; omega)]
theorem rev_w (a d m:Nat) (l:List Nat) (hl:l.length≤1000000) (g:Nat→Option Blk) (hg:g a=some (.cells (wordC l) true 1)) (ha:a < m) :
  WC 6 Tryd.prog 65 [.slq a 0 l.length d] ⟨.fn g,m⟩ fun r=>∃ u g',r=.ret u ⟨.fn g',m⟩∧g' a=some (.cells (wordC l.reverse) true 1)∧∀ b,b≠a→g' b=g b:=by
 refine WC.enterP (noO_ok _ _) hG pl65 Tryd.func65 rfl (by decide +kernel) (Nat.le_of_ble_eq_true (by kernel_rfl)) ?_
 try simp (maxSteps:=999999) (disch:=first | assumption | omega | (simp; done) | fail) [Tryd.results65, *]
 refine LX.ind (fun q gf H'=>∃ (k:Nat) (gL:Nat→Option Blk),2 * k≤l.length+1∧q=l.length - k∧H'=⟨.fn gL,m⟩∧gL a=some (.cells (wordC (revK l k)) true 1)∧(∀ b,b≠a→gL b=g b) ∧
  gf 0=some (.slq a 0 l.length d)∧gf 2=some (.lit (.int .i64 (k:Int)))∧gf 3=some (.lit (.int .i64 ((l.length:Int) - 1 - k)))) (m0:=l.length) ?_ ?_
 ·exact ⟨0,g,by omega,by omega,rfl,by rw [revK_zero]; exact hg,fun _ _=>rfl,by simp,by simp,by simp⟩
 rintro q gf H' ⟨k,gL,hk,rfl,rfl,hgL,hot,w0,w2,w3⟩ ih
 have HO:=Hide.mk hot
 have HL:=Hide.mk hgL
 clear hot hgL
 refine LX.roundP (noO_ok _ _) hG pl65 (by decide +kernel) ?_
 by_cases hlt:2 * k+1 < l.length
 ·have hltI:(k:Int) < (l.length:Int) - 1 - k:=by omega
  have e1:((l.length:Int) - 1 - k).toNat=l.length - 1 - k:=by omega
  have hgL:=HL.out
  have c1:(wordC (revK l k))[k]?=some (.lit (.int .i64 ((l.getD k 0:Nat) : Int))):=by
   rw [wordC_at,revK_at l k k (by omega),if_neg (by omega)]; rfl
  have c2:(wordC (revK l k))[l.length - 1 - k]?=some (.lit (.int .i64 ((l.getD (l.length - 1 - k) 0:Nat) : Int))):=by
   rw [wordC_at,revK_at l k _ (by omega),if_neg (by omega)]; rfl
  have h5:(wordC (revK l k)).length=l.length:=by rw [wordC_len,revK_len]
  have h6:k < (wordC (revK l k)).length:=by omega
  have h7:l.length - 1 - k < (wordC (revK l k)).length:=by omega
  have hsw:=revK_swap l k hlt
  rw [List.getElem?_eq_getElem h6,Option.some.injEq] at c1
  rw [List.getElem?_eq_getElem h7,Option.some.injEq] at c2
  generalize wordC (revK l k)=L at *
  generalize l.getD k 0=v1 at *
  generalize l.getD (l.length - 1 - k) 0=v2 at *
  have h8:l.length - 1 - k < (L.set k (.lit (.int .i64 (v2:Int)))).length:=by rw [List.length_set]; exact h7
  have HS:=Hide.mk hsw
  clear hsw
  try simp (maxSteps:=999999) (disch:=first | assumption | omega | (simp; done) | fail) [Tryd.results65, *]
  refine ih.out (l.length - (k+1)) _ _ (by omega) ⟨k+1,_,by omega,rfl,rfl,?_,?_,?_,?_,?_⟩
  ·rw [← HS.out]; simp
  ·intro b hb
   rw [← HO.out b hb]
   exact if_neg hb
  ·simp [*]
  ·simp
  ·simp; omega
 ·have hltI:¬(k:Int) < (l.length:Int) - 1 - k:=by omega
  try simp (maxSteps:=999999) (disch:=first | assumption | omega | (simp; done) | fail) [Tryd.results65, *]
  exact ⟨_,gL,⟨rfl,rfl⟩,by rw [HL.out,revK_end l k (by omega)],fun b hb=>HO.out b hb⟩
end Go.Ai
end
section
namespace Go.Ai
open Go.Proofs
set_option maxRecDepth 10000
set_option maxHeartbeats 40000000
theorem im126:isImap Tryd.prog 126=some (.agg #[.int .i64 0,.int .i64 0]):=by kernel_rfl
attribute [simp] im126
def WordV (g:Nat→Option Blk) (lo hi:Nat) (v:AV) (w:List Nat) : Prop :=
 (w=[]∧v=.lit (.slice none 0 0))∨(w≠[]∧∃ A own z,v=.sl A 0 w.length w.length∧lo≤A∧A < hi∧g A=some (.cells (wordC w) own z))
def OrdV (g:Nat→Option Blk) (lo hi B:Nat) (v:AV) (l:List Nat) : Prop :=
 lo≤B∧B < hi∧((∃ own z,l.length=1∧v=.sl B 0 1 1∧g B=some (.cells (wordC l) own z))∨(v=.slq B 0 l.length 0∧g B=some (.cells (wordC l) true 1)))
theorem OrdV.keep {g g' : Nat→Option Blk} {lo hi hi2 B:Nat} {v:AV} {l:List Nat} (h:OrdV g lo hi B v l) (hh:hi≤hi2) (hg:lo≤B→B < hi→g' B=g B) : OrdV g' lo hi2 B v l:=by
 obtain ⟨h1,h2,h3⟩:=h
 refine ⟨h1,by omega,?_⟩
 rw [hg h1 h2]
 exact h3
theorem withOk_true (v:AV) (b:Bool) : withOk true v b=.tup [v,.lit (.bool b)]:=(rfl)
theorem withOk_false (v:AV) (b:Bool) : withOk false v b=v:=(rfl)
theorem cellsOf_zero2:cellsOf (.lit (.agg #[.int .i64 0,.int .i64 0]))=[.lit (.int .i64 0),.lit (.int .i64 0)]:=(rfl)
attribute [simp] withOk_true withOk_false cellsOf_zero2
theorem SliceV.ia {P:Program} {g:Nat→Option Blk} {b len:Nat} {sv:AV} {cs:List AV} (h:SliceV g b sv len cs) {k:Nat} (hk:k < len) (sz:Nat) :
  ∃ a off,a < b∧Row g a off cs∧∀ {H:Mem} {ev:Ev} {o:Oper} {t:TypeId},iaS P H ev o t (some (none,sz)) (some sv) (some (.lit (.int .i64 (k:Int))))=.val (.ptr a (off+k * sz)) H:=by
 rcases h with ⟨h1,_⟩ | ⟨a,off,ha,⟨c,rfl⟩ | ⟨c,rfl⟩,hrow⟩
 ·omega
 ·refine ⟨a,off,ha,hrow,?_⟩
  intro H ev o t
  rw [iaS_sl (by omega) (by omega)]
  simp
 ·refine ⟨a,off,ha,hrow,?_⟩
  intro H ev o t
  rw [iaS_slq (by omega) (by omega)]
  simp
theorem bRow_cons (b:Nat→Bool) (w:List Nat) (e:Int×Int) (es:List (Int×Int)) (i:Nat) (st:List (Nat×List Nat)) : bRow b w (e :: es) i st=if e.1 < 0 then bRow b w es (i+1) st
  else if b e.1.toNat then .inl (w++[i])
  else if e.1.toNat∈st.map (·.1) then bRow b w es (i+1) st
  else bRow b w es (i+1) (st++[(e.1.toNat,w++[i])]):=rfl
theorem wordC_snoc (l:List Nat) (x:Nat) : wordC (l++[x])=wordC l++[.lit (.int .i64 (x:Int))]:=by unfold wordC; simp
theorem wordC_one (l:List Nat) : allOne (wordC l)=true:=by
 unfold wordC
 induction l with
 | nil=>rfl
 | cons x l ih=>simpa [allOne] using ih
theorem rev1_w (a:Nat) (g:Nat→Option Blk) (n:Nat) : WC 6 Tryd.prog 65 [.sl a 0 1 1] ⟨.fn g,n⟩ fun r=>r=.ret (.tup []) ⟨.fn g,n⟩:=by
 refine WC.enterP (noO_ok _ _) hG pl65 Tryd.func65 rfl (by decide +kernel) (Nat.le_of_ble_eq_true (by kernel_rfl)) ?_
 try simp (maxSteps:=999999) (disch:=first | assumption | omega | (simp; done) | fail) [Tryd.results65, *]
 refine LX.ind (fun q gf H'=>H'=⟨.fn g,n⟩∧gf 0=some (.sl a 0 1 1)∧gf 2=some (.lit (.int .i64 0))∧gf 3=some (.lit (.int .i64 0))) (m0:=0) ?_ ?_
 ·exact ⟨rfl,by simp,by simp,by simp⟩
 rintro q gf H' ⟨rfl,w0,w2,w3⟩ ih
 refine LX.roundP (noO_ok _ _) hG pl65 (by decide +kernel) ?_
 try simp (maxSteps:=999999) (disch:=first | assumption | omega | (simp; done) | fail) [Tryd.results65, *]
theorem way_w {M:MachM} (hM:M.ok) {nx:List Nat} {all:Nat} (s a b:Nat) (steps:Int) (hs:s < M.rows.length) (ha:a < 18446744073709551616) (hb:b < 18446744073709551616) (g:Nat→Option Blk) (n:Nat) (cs:List AV) (hr:GOK g n M nx all cs) :
  WC 6 Tryd.prog 49 [.agg cs,.lit (.int .i64 s),.lit (.int .u64 a),.lit (.int .u64 b),.lit (.int .i64 steps)] ⟨.fn g,n⟩ fun r=>∃ v g' n',r=.ret v ⟨.fn g',n'⟩∧n≤n'∧(∀ q,q < n→g' q=g q)∧WordV g' n n' v ((wayM M s (fun u=>a.testBit u) (fun u=>b.testBit u) steps).getD []):=by
 obtain ⟨⟨rv,nv,rfl,⟨rv2,svs,e1,hrows,hrv⟩,hV⟩,hgr⟩:=hr
 cases e1
 have h1r:=hrv.one
 have h1v:=hV.one
 have h1a:allOne [.lit (.int .i64 M.inp),.lit (.int .i64 M.out),rv,nv,.lit (.int .u64 (all:Int))]=true:=by simp [h1r,h1v]
 have h64:M.rows.length≤64:=hM.2.2.2.2.2.1
 have hs63:s≤63:=by omega
 have hsl:=hrows.len
 have HROW:=Hide.mk hrows
 have HRV:=Hide.mk hrv
 have HM:=Hide.mk hM
 clear hrows hrv hV hgr hM
 have HRET:Hide (wayM M s (fun u=>a.testBit u) (fun u=>b.testBit u) steps=if steps=0∧b.testBit s=true then some [] else bfs M (fun u=>a.testBit u) (fun u=>b.testBit u) (M.rows.length+1) 0 [(s,[])]):=⟨rfl⟩
 generalize wayM M s (fun u=>a.testBit u) (fun u=>b.testBit u) steps=WM at *
 refine WC.enterP (noO_ok _ _) hG pl49 Tryd.func49 rfl (by decide +kernel) (Nat.le_of_ble_eq_true (by kernel_rfl)) ?_
 by_cases hq:steps=0∧b.testBit s=true
 ·obtain ⟨rfl,hbs⟩:=hq
  try simp (maxSteps:=999999) (disch:=first | assumption | omega | (simp; done) | fail) [Tryd.results49, *]
  refine WC.mono (has_w b s hb hs63 _) ?_
  rintro _ rfl
  try simp (maxSteps:=999999) (disch:=first | assumption | omega | (simp; done) | fail) [Tryd.results49, *]
  refine ⟨_,_,_,⟨rfl,rfl,rfl⟩,by omega,fun q hq=>gput_lt hq,Or.inl ⟨?_,rfl⟩⟩
  rw [HRET.out,if_pos ⟨rfl,hbs⟩]; rfl
 have hWM:=HRET.out
 rw [if_neg hq] at hWM
 have HWM:=Hide.mk hWM
 clear hWM HRET
 have hsplit:(¬steps=0)∨(steps=0∧b.testBit s=false):=by
  by_cases h0:steps=0
  ·right
   refine ⟨h0,?_⟩
   cases hbs:b.testBit s with
   | false=>rfl
   | true=>exact absurd ⟨h0,hbs⟩ hq
  ·exact Or.inl h0
 clear hq
 rcases hsplit with hst | ⟨hst,hbs⟩
 all_goals try (
  have h0:=hbs
  try simp (maxSteps:=999999) (disch:=first | assumption | omega | (simp; done) | fail) [Tryd.results49, *]
  refine WC.mono (has_w b s hb hs63 _) ?_
  rintro _ rfl)
 all_goals
  try simp (maxSteps:=999999) (disch:=first | assumption | omega | (simp; done) | fail) [Tryd.results49, *]
  refine LX.ind (fun m gf H'=>∃ (k n' : Nat) (gL:Nat→Option Blk) (st:List (Nat×List Nat)) (by_:List (Int×AV×Nat)) (c B:Nat) (ov:AV),k≤st.length∧m=M.rows.length+1 - k∧H'=⟨.fn gL,n'⟩∧n+1+1+1≤n'∧(∀ q,q < n→gL q=g q) ∧
   gL n=some (.cells [.lit (.int .i64 M.inp),.lit (.int .i64 M.out),rv,nv,.lit (.int .u64 (all:Int))] true 0)∧gL (n+1)=some (.map (imap by_) c)∧OrdV gL (n+1+1) n' B ov (st.map (·.1))∧BOK M.rows.length s st∧ByOK s st by_ ∧
   WM=bfs M (fun u=>a.testBit u) (fun u=>b.testBit u) (M.rows.length+1 - k) k st ∧
   gf 1=some (.lit (.int .i64 s))∧gf 2=some (.lit (.int .u64 a))∧gf 3=some (.lit (.int .u64 b))∧gf 5=some (.ptr n 0)∧gf 11=some (.map (n+1))∧gf 12=some ov∧gf 13=some (.lit (.int .i64 (k:Int)))) (m0:=M.rows.length+1) ?_ ?_
  ·refine ⟨0,_,_,[(s,[])],[],0,n+1+1,.sl (n+1+1) 0 1 1,by simp,rfl,rfl,by omega,fun q hq=>?_,?_,?_,⟨by omega,by omega,Or.inl ⟨true,0,rfl,rfl,?_⟩⟩,.start hs,.start,HWM.out,by simp,by simp,by simp,by simp,by simp,by simp,by simp⟩
   ·simp (disch:=omega) only [gput_lt]
   ·simp (disch:=omega) only [gput_lt,gput_eq]
   ·simp (disch:=omega) only [gput_lt,gput_eq]
    rfl
   ·simp only [gput_eq]
    rfl
  rintro m gf H' ⟨k,n1,g1,st,by_,c,B,ov,hk,rfl,rfl,hn1,hg1,e0,e1,hov,hbok,hby,hwm,w1,w2,w3,w5,w11,w12,w13⟩ ih
  have HG1:=Hide.mk hg1
  have HOV:=Hide.mk hov
  have HBK:=Hide.mk hbok
  have HBY:=Hide.mk hby
  have HW:=Hide.mk hwm
  clear hg1 hov hbok hby hwm
  have hstl:=HBK.out.len
  refine LX.roundP (noO_ok _ _) hG pl49 (by decide +kernel) ?_
  have hlen:∀ {H:Mem} {ev:Ev} {o:Oper} {c:Call} {e:TypeId},lenS Tryd.prog H ev o c (some (.slice e)) (some [ov])=.val (.lit (.int .i64 st.length)) H:=by
   intro H ev o c e
   obtain ⟨_,_,⟨_,_,h1,rfl,_⟩ | ⟨rfl,_⟩⟩:=HOV.out
   ·rw [List.length_map] at h1; rw [h1]; rfl
   ·rw [List.length_map]; rfl
  have h1o:oneC ov=true:=by
   obtain ⟨_,_,⟨_,_,h1,rfl,_⟩ | ⟨rfl,_⟩⟩:=HOV.out <;> rfl
  by_cases hlt:k < st.length
  ·have hltI:(k:Int) < (st.length:Int):=by omega
   obtain ⟨q,hq⟩ : ∃ q,st[k]?=some q:=⟨st[k],List.getElem?_eq_getElem hlt⟩
   have hqN:=HBK.out.lt q (List.mem_of_getElem? hq)
   have hq63:q.1≤63:=by omega
   have hcell:(wordC (st.map (·.1)))[k]?=some (.lit (.int .i64 (q.1:Int))):=by
    rw [wordC_at,List.getElem?_map,hq]; rfl
   have HQ:=Hide.mk hq
   clear hq
   obtain ⟨qs,qw⟩:=q
   dsimp only at hqN hq63 hcell HQ
   have hia:∃ own z,g1 B=some (.cells (wordC (st.map (·.1))) own z)∧∀ {H:Mem} {ev:Ev} {o:Oper} {t:TypeId},iaS Tryd.prog H ev o t (some (none,1)) (some ov) (some (.lit (.int .i64 (k:Int))))=.val (.ptr B k) H:=by
    obtain ⟨_,_,⟨own,z,h1,rfl,h2⟩ | ⟨rfl,h2⟩⟩:=HOV.out
    ·rw [List.length_map] at h1
     refine ⟨own,z,h2,?_⟩
     intro H ev o t
     rw [iaS_sl (by omega) (by omega)]
     simp
    ·refine ⟨true,1,h2,?_⟩
     intro H ev o t
     rw [List.length_map]
     rw [iaS_slq (by omega) (by omega)]
     simp
   obtain ⟨own,z,hgB,hia⟩:=hia
   have hkl:k < (wordC (st.map (·.1))).length:=by rw [wordC_len,List.length_map]; exact hlt
   rw [List.getElem?_eq_getElem hkl,Option.some.injEq] at hcell
   generalize hL:wordC (st.map (·.1))=L at *
   have HL:=Hide.mk hL
   have HGB:=Hide.mk hgB
   clear hL
   have hbst:Hide (WM=if a.testBit qs=true then (match bRow (fun u=>b.testBit u) qw (M.rows.getD qs []) 0 st with
    | .inl w=>some w
    | .inr st'=>bfs M (fun u=>a.testBit u) (fun u=>b.testBit u) (M.rows.length - k) (k+1) st') else bfs M (fun u=>a.testBit u) (fun u=>b.testBit u) (M.rows.length - k) (k+1) st):=by
    refine ⟨?_⟩
    rw [HW.out,show M.rows.length+1 - k=(M.rows.length - k)+1 by omega]
    show (match st[k]? with
     | none=>none
     | some q=>_)=_
    rw [HQ.out]
    rfl
   cases has:a.testBit qs with
   | false =>
    try simp (maxSteps:=999999) (disch:=first | assumption | omega | (simp; done) | fail) [Tryd.results49, *]
    refine WC.mono (has_w a qs ha hq63 _) ?_
    rintro _ rfl
    try simp (maxSteps:=999999) (disch:=first | assumption | omega | (simp; done) | fail) [Tryd.results49, *]
    refine ih.out (M.rows.length+1 - (k+1)) _ _ (by omega) ⟨k+1,n1,g1,st,by_,c,B,ov,by omega,rfl,rfl,hn1,HG1.out,e0,e1,by rw [← HL.out] at HGB; exact HOV.out,HBK.out,HBY.out,?_,by simp [*],by simp [*],by simp [*],by simp [*],by simp [*],by simp [*],by simp⟩
    rw [hbst.out,has,show M.rows.length+1 - (k+1)=M.rows.length - k by omega]
    rfl
   | true =>
    try simp (maxSteps:=999999) (disch:=first | assumption | omega | (simp; done) | fail) [Tryd.results49, *]
    refine WC.mono (has_w a qs ha hq63 _) ?_
    rintro _ rfl
    have hR:=HROW.out.at qs hqN (by omega)
    obtain ⟨a2,off,ha2,hrow,hia2⟩:=HRV.out.ia (P:=Tryd.prog) hqN 1
    have hcell:=(hrow.mono (HG1.out a2 ha2)).one (k:=qs) (s:=1) (by omega)
    rw [Nat.mul_one] at hia2
    have hgd:M.rows.getD qs []=M.rows[qs]:=by rw [List.getD_eq_getElem?_getD,List.getElem?_eq_getElem hqN]; rfl
    have hre:=ok_row_edge HM.out (List.getElem_mem hqN)
    have hltr:=edges_lt HM.out _ (List.getElem_mem hqN)
    have hr16:M.rows[qs].length≤16:=by
     have h1:=ok_row HM.out _ (List.getElem_mem hqN)
     have h2:M.inp≤16:=HM.out.2.1
     omega
    rw [hgd,has] at hbst
    rw [if_pos rfl] at hbst
    generalize svs[qs]'(by omega)=sv at hR hcell
    generalize M.rows[qs]=row at hR hre hr16 hbst hltr
    have HLTR:=Hide.mk hltr
    clear hltr
    clear hgd
    have hlen2:=@lenV Tryd.prog _ _ _ _ _ hR
    have h1sv:=hR.one
    have HRE:=Hide.mk hre
    have HRR:=Hide.mk hR
    clear hre hR hrow
    have hbo:=HBK.out
    have hbyo:=HBY.out
    try simp (maxSteps:=999999) (disch:=first | assumption | omega | (simp; done) | fail) [Tryd.results49, *]
    refine LX.ind (fun m gf H'=>∃ (j n' : Nat) (gL:Nat→Option Blk) (st2:List (Nat×List Nat)) (by_:List (Int×AV×Nat)) (c B:Nat) (ov:AV),j≤row.length∧m=row.length - j∧H'=⟨.fn gL,n'⟩∧n+1+1+1≤n'∧(∀ q,q < n→gL q=g q) ∧
     gL n=some (.cells [.lit (.int .i64 M.inp),.lit (.int .i64 M.out),rv,nv,.lit (.int .u64 (all:Int))] true 0)∧gL (n+1)=some (.map (imap by_) c)∧OrdV gL (n+1+1) n' B ov (st2.map (·.1))∧BOK M.rows.length s st2∧ByOK s st2 by_∧st2[k]?=some (qs,qw) ∧
     bRow (fun u=>b.testBit u) qw row 0 st=bRow (fun u=>b.testBit u) qw (row.drop j) j st2 ∧
     gf 1=some (.lit (.int .i64 s))∧gf 2=some (.lit (.int .u64 a))∧gf 3=some (.lit (.int .u64 b))∧gf 5=some (.ptr n 0)∧gf 11=some (.map (n+1))∧gf 12=some ov∧gf 13=some (.lit (.int .i64 (k:Int))) ∧
     gf 14=some (.lit (.int .i64 (qs:Int)))∧gf 49=some sv∧gf 50=some (.lit (.int .i64 row.length))∧gf 51=some (.lit (.int .i64 (j:Int)))) (m0:=row.length) ?_ ?_
    ·exact ⟨0,n1,g1,st,by_,c,B,ov,by omega,by omega,rfl,hn1,HG1.out,e0,e1,HOV.out,hbo,hbyo,HQ.out,by simp,by simp [*],by simp [*],by simp [*],by simp [*],by simp [*],by simp [*],by simp [*],by simp [*],by simp [*],by simp [*],by simp⟩
    clear hbo hbyo
    rintro m gf H' ⟨j,n2,g2,st2,by2,c2,B2,ov2,hj,rfl,rfl,hn2,hg2,d0,d1,hov2,hbok2,hby2,hq2,hbr,x1,x2,x3,x5,x11,x12,x13,x14,x49,x50,x51⟩ ihj
    have HG2:=Hide.mk hg2
    have HOV2:=Hide.mk hov2
    have HBK2:=Hide.mk hbok2
    have HBY2:=Hide.mk hby2
    have HQ2:=Hide.mk hq2
    have HBR:=Hide.mk hbr
    clear hg2 hov2 hbok2 hby2 hq2 hbr
    refine LX.roundP (noO_ok _ _) hG pl49 (by decide +kernel) ?_
    by_cases hjt:j < row.length
    ·have hjtI:(j:Int) < (row.length:Int):=by omega
     obtain ⟨a3,off3,ha3,hrow3,hia3⟩:=HRR.out.ia (P:=Tryd.prog) hjt 2
     have hagg:=(hrow3.mono (HG2.out a3 ha3)).agg (k:=j * 2) (s:=2) (by rw [rowC_len]; omega)
     rw [rowC_at row j hjt] at hagg
     have hre:=HRE.out _ (List.getElem_mem hjt)
     have HJM:=Hide.mk (List.getElem_mem hjt)
     have hdr:row.drop j=row[j] :: row.drop (j+1):=List.drop_eq_getElem_cons hjt
     have hbr:=HBR.out
     rw [hdr] at hbr
     generalize row[j]=e at hagg hre hbr HJM
     obtain ⟨to,out⟩:=e
     dsimp only at hagg hre
     have HBR2:=Hide.mk hbr
     clear hbr hrow3 hdr
     by_cases ht:to = -1
     ·subst ht
      try simp (maxSteps:=999999) (disch:=first | assumption | omega | (simp; done) | fail) [Tryd.results49, *]
      refine ihj.out (row.length - (j+1)) _ _ (by omega) ⟨j+1,n2+1,_,st2,by2,c2,B2,ov2,by omega,rfl,rfl,by omega,fun q hq=>?_,?_,?_,?_,HBK2.out,HBY2.out,HQ2.out,?_,by simp [*],by simp [*],by simp [*],by simp [*],by simp [*],by simp [*],by simp [*],by simp [*],by simp [*],by simp [*],by simp⟩
      ·rw [gput_lt (by omega)]; exact HG2.out q hq
      ·rw [gput_lt (by omega)]; exact d0
      ·rw [gput_lt (by omega)]; exact d1
      ·exact HOV2.out.keep (by omega) fun _ h=>gput_lt h
      ·rw [HBR2.out]; rfl
     ·obtain ⟨t,rfl⟩ : ∃ t:Nat,to=t:=⟨to.toNat,by omega⟩
      have ht63:t≤63:=by omega
      have HTL:Hide (t < M.rows.length):=⟨by have:=HLTR.out _ HJM.out; dsimp only at this; omega⟩
      have hneg:¬((t:Int) < 0):=by omega
      have hbr:=HBR2.out
      rw [bRow_cons] at hbr
      dsimp only at hbr
      rw [if_neg hneg,Int.toNat_natCast] at hbr
      clear HBR2 HBR
      cases hbt:b.testBit t with
      | true =>
       rw [hbt,if_pos rfl] at hbr
       have HBR3:=Hide.mk hbr
       clear hbr
       have hl2:=HBK2.out.len
       have hlw:∀ {q:Nat×List Nat} {i:Nat},st2[i]?=some q→q.2.length≤64:=fun {q i} hq=>by
        have h1:=HBK2.out.short i q hq
        have h2:i < st2.length:=by
         rcases Nat.lt_or_ge i st2.length with h | h
         ·exact h
         ·rw [List.getElem?_eq_none h] at hq; cases hq
        omega
       have hqwl:qw.length≤64:=hlw HQ2.out
       have HLW:Hide (∀ {q:Nat×List Nat} {i:Nat},st2[i]?=some q→q.2.length≤64):=⟨hlw⟩
       clear hlw
       try simp (maxSteps:=999999) (disch:=first | assumption | omega | (simp; done) | fail) [Tryd.results49, *]
       refine WC.mono (has_w b t hb ht63 _) ?_
       rintro _ rfl
       try simp (maxSteps:=999999) (disch:=first | assumption | omega | (simp; done) | fail) [Tryd.results49, *]
       refine LX.ind (fun m gf H'=>∃ (kk n' : Nat) (gL:Nat→Option Blk) (q:Nat×List Nat) (r:List Nat) (A:Nat) (wv:AV),st2[kk]?=some q∧kk=m∧H'=⟨.fn gL,n'⟩∧n2≤n'∧(∀ q,q < n→gL q=g q) ∧
        gL (n+1)=some (.map (imap by2) c2)∧OrdV gL n2 n' A wv r∧q.2++r.reverse=qw++[j] ∧
        gf 1=some (.lit (.int .i64 s))∧gf 11=some (.map (n+1))∧gf 14=some (.lit (.int .i64 (q.1:Int)))∧gf 17=some wv) (m0:=k) ?_ ?_
       ·refine ⟨k,_,_,(qs,qw),[j],n2+1,.sl (n2+1) 0 1 1,HQ2.out,rfl,rfl,by omega,fun q hq=>?_,?_,⟨by omega,by omega,Or.inl ⟨true,0,rfl,rfl,?_⟩⟩,rfl,by simp [*],by simp [*],by simp [*],by simp⟩
        ·rw [gput_lt (by omega),gput_lt (by omega)]; exact HG2.out q hq
        ·rw [gput_lt (by omega),gput_lt (by omega)]; exact d1
        ·simp only [gput_eq]; rfl
       rintro m gf H' ⟨kk,n3,g3,q,r,A,wv,hqq,rfl,rfl,hn3,hg3,f1,hov3,hwr,y1,y11,y14,y17⟩ ihw
       have HG3:=Hide.mk hg3
       have HQQ:=Hide.mk hqq
       have HWR:=Hide.mk hwr
       have hrl:r.length≤70:=by
        have:=congrArg List.length hwr
        simp only [List.length_append,List.length_reverse,List.length_singleton] at this
        omega
       obtain ⟨hA1,hA2,hov3⟩:=hov3
       have HOV3:=Hide.mk hov3
       have hq3N:=HBK2.out.lt q (List.mem_of_getElem? hqq)
       clear hg3 hqq hwr hov3
       refine LX.roundP (noO_ok _ _) hG pl49 (by decide +kernel) ?_
       by_cases hqs:q.1=s
       ·have hqsI:(q.1:Int)=(s:Int):=by omega
        have hkk:kk=0:=by
         have hnd:=HBK2.out.nd
         have h0:=HBK2.out.head
         have hq:=HQQ.out
         have hp0:=HBK2.out.pos
         have hkl:kk < st2.length:=by
          rcases Nat.lt_or_ge kk st2.length with h | h
          ·exact h
          ·rw [List.getElem?_eq_none h] at hq; cases hq
         have e1:(st2.map (·.1))[kk]?=(st2.map (·.1))[0]?:=by rw [List.getElem?_map,List.getElem?_map,hq,h0,Option.map_some,Option.map_some,hqs]
         exact (List.getElem?_inj (by rw [List.length_map]; exact hkl) hnd).1 e1
        have hfull:r.reverse=qw++[j]:=by
         have h0:=HBK2.out.head
         have hq:=HQQ.out
         rw [hkk,h0,Option.some.injEq] at hq
         have:=HWR.out
         rw [← hq] at this
         exact this
        have HFULL:=Hide.mk hfull
        clear hfull hkk
        have hrpos:0 < r.length:=by
         have:=congrArg List.length HFULL.out
         simp only [List.length_append,List.length_reverse,List.length_singleton] at this
         omega
        have hwmE:WM=some (qw++[j]):=by
         have h1:=HBR3.out
         have h2:=hbst.out
         rw [h1] at h2
         exact h2
        have HWME:=Hide.mk hwmE
        clear hwmE
        rcases HOV3.out with ⟨own3,z3,hl3,rfl,hgA⟩ | ⟨rfl,hgA⟩
        ·try simp (maxSteps:=999999) (disch:=first | assumption | omega | (simp; done) | fail) [Tryd.results49, *]
         refine WC.mono (rev1_w _ _ _) ?_
         rintro _ rfl
         try simp (maxSteps:=999999) (disch:=first | assumption | omega | (simp; done) | fail) [Tryd.results49, *]
         refine WC.mono (clip_sl _ _ _ _ (by omega) (by omega) _) ?_
         rintro _ rfl
         try simp (maxSteps:=999999) (disch:=first | assumption | omega | (simp; done) | fail) [Tryd.results49, *]
         refine ⟨_,_,_,⟨rfl,rfl,rfl⟩,by omega,HG3.out,Or.inr ⟨?_,A,own3,z3,?_,by omega,by omega,?_⟩⟩
         ·rw [HWME.out]; simp
         ·rw [HWME.out]
          have:=congrArg List.length HFULL.out
          rw [List.length_reverse] at this
          show _=AV.sl A 0 (qw++[j]).length (qw++[j]).length
          rw [← this,hl3]
         ·rw [HWME.out,hgA]
          show some (Blk.cells (wordC r) own3 z3)=some (Blk.cells (wordC (qw++[j])) own3 z3)
          have:r=r.reverse:=by
           cases r with
           | nil=>rfl
           | cons x r =>
            cases r with
            | nil=>rfl
            | cons y r=>simp at hl3
          rw [← HFULL.out,← this]
        ·try simp (maxSteps:=999999) (disch:=first | assumption | omega | (simp; done) | fail) [Tryd.results49, *]
         refine WC.mono (rev_w A 0 _ r (by omega) _ hgA (by omega)) ?_
         rintro _ ⟨u,g4,rfl,hgA4,hg4⟩
         have HG4:=Hide.mk hg4
         clear hg4
         try simp (maxSteps:=999999) (disch:=first | assumption | omega | (simp; done) | fail) [Tryd.results49, *]
         refine WC.mono (clip_slq _ _ _ _ (by omega) _) ?_
         rintro _ rfl
         try simp (maxSteps:=999999) (disch:=first | assumption | omega | (simp; done) | fail) [Tryd.results49, *]
         refine ⟨_,_,_,⟨rfl,rfl,rfl⟩,by omega,fun q hq=>by rw [HG4.out q (by omega)]; exact HG3.out q hq,Or.inr ⟨?_,A,true,1,?_,by omega,by omega,?_⟩⟩
         ·rw [HWME.out]; simp
         ·rw [HWME.out]
          have:=congrArg List.length HFULL.out
          rw [List.length_reverse] at this
          show _=AV.sl A 0 (qw++[j]).length (qw++[j]).length
          rw [← this]
         ·rw [HWME.out,hgA4,HFULL.out]; rfl
       ·have hqsI:¬(q.1:Int)=(s:Int):=by omega
        have hk0:0 < kk:=by
         rcases Nat.eq_zero_or_pos kk with h | h
         ·exfalso
          have h0:=HBK2.out.head
          have hq:=HQQ.out
          rw [h,h0,Option.some.injEq] at hq
          rw [← hq] at hqs
          exact hqs rfl
         ·exact h
        obtain ⟨k1,q1,i1,hk1,hq1,hqe,hig⟩:=HBY2.out.old kk q HQQ.out hk0
        have HQ1:=Hide.mk hq1
        have HQE:=Hide.mk hqe
        clear hq1 hqe
        rcases HOV3.out with ⟨own3,z3,hl3,rfl,hgA⟩ | ⟨rfl,hgA⟩
        ·have hwl3:(wordC r).length=1:=by rw [wordC_len]; exact hl3
         try simp (maxSteps:=999999) (disch:=first | assumption | omega | (simp; done) | fail) [Tryd.results49, *]
         refine ihw.out k1 _ _ hk1 ⟨k1,_,_,q1,r++[i1],n3+1,.slq (n3+1) 0 2 0,HQ1.out,rfl,rfl,by omega,fun q hq=>?_,?_,⟨by omega,by omega,Or.inr ⟨?_,?_⟩⟩,?_,by simp [*],by simp [*],by simp [*],by simp⟩
         ·rw [gput_lt (by omega),gput_lt (by omega)]; exact HG3.out q hq
         ·rw [gput_lt (by omega),gput_lt (by omega)]; exact f1
         ·rw [List.length_append,hl3]; rfl
         ·simp only [gput_eq]
          rw [wordC_snoc,List.take_of_length_le (by omega)]
         ·rw [List.reverse_append,← HWR.out,HQE.out]; simp
        ·have hwl3:(wordC r).length=r.length:=wordC_len r
         have h1w:allOne (wordC r)=true:=wordC_one r
         try simp (maxSteps:=999999) (disch:=first | assumption | omega | (simp; done) | fail) [Tryd.results49, *]
         refine ihw.out k1 _ _ hk1 ⟨k1,_,_,q1,r++[i1],n3+1,.slq (n3+1) 0 (r.length+1) 0,HQ1.out,rfl,rfl,by omega,fun q hq=>?_,?_,⟨by omega,by omega,Or.inr ⟨?_,?_⟩⟩,?_,by simp [*],by simp [*],by simp [*],by simp⟩
         ·rw [gput_lt (by omega),gput_ne (by omega),gput_lt (by omega)]; exact HG3.out q hq
         ·rw [gput_lt (by omega),gput_ne (by omega),gput_lt (by omega)]; exact f1
         ·rw [List.length_append]; rfl
         ·simp only [gput_eq]
          rw [wordC_snoc]
         ·rw [List.reverse_append,← HWR.out,HQE.out]; simp
      | false =>
       rw [hbt,if_neg (by decide)] at hbr
       by_cases hin:t∈st2.map (·.1)
       ·rw [if_pos hin] at hbr
        have HBR3:=Hide.mk hbr
        clear hbr
        by_cases hts:t=s
        ·subst hts
         have hig:=HBY2.out.new t (Or.inr rfl)
         try simp (maxSteps:=999999) (disch:=first | assumption | omega | (simp; done) | fail) [Tryd.results49, *]
         refine WC.mono (has_w b t hb ht63 _) ?_
         rintro _ rfl
         try simp (maxSteps:=999999) (disch:=first | assumption | omega | (simp; done) | fail) [Tryd.results49, *]
         refine ihj.out (row.length - (j+1)) _ _ (by omega) ⟨j+1,n2+1+1,_,st2,by2,c2,B2,ov2,by omega,rfl,rfl,by omega,fun q hq=>?_,?_,?_,?_,HBK2.out,HBY2.out,HQ2.out,?_,by simp [*],by simp [*],by simp [*],by simp [*],by simp [*],by simp [*],by simp [*],by simp [*],by simp [*],by simp [*],by simp⟩
         ·rw [gput_lt (by omega),gput_lt (by omega)]; exact HG2.out q hq
         ·rw [gput_lt (by omega),gput_lt (by omega)]; exact d0
         ·rw [gput_lt (by omega),gput_lt (by omega)]; exact d1
         ·exact HOV2.out.keep (by omega) fun _ h=>(gput_lt (by omega)).trans (gput_lt h)
         ·exact HBR3.out
        ·obtain ⟨j0,q0,hj0,hq0⟩ : ∃ (j0:Nat) (q0:Nat×List Nat),st2[j0]?=some q0∧q0.1=t:=by
          obtain ⟨q0,h1,h2⟩:=List.mem_map.1 hin
          obtain ⟨j0,h3⟩:=List.mem_iff_getElem?.1 h1
          exact ⟨j0,q0,h3,h2⟩
         have hj0p:0 < j0:=by
          rcases Nat.eq_zero_or_pos j0 with h | h
          ·subst h
           rw [HBK2.out.head] at hj0
           cases hj0
           exact absurd hq0.symm hts
          ·exact h
         obtain ⟨_,q1,i1,_,_,_,hig⟩:=HBY2.out.old j0 q0 hj0 hj0p
         rw [hq0] at hig
         clear hj0 hq0 hj0p
         try simp (maxSteps:=999999) (disch:=first | assumption | omega | (simp; done) | fail) [Tryd.results49, *]
         refine WC.mono (has_w b t hb ht63 _) ?_
         rintro _ rfl
         try simp (maxSteps:=999999) (disch:=first | assumption | omega | (simp; done) | fail) [Tryd.results49, *]
         refine ihj.out (row.length - (j+1)) _ _ (by omega) ⟨j+1,n2+1+1,_,st2,by2,c2,B2,ov2,by omega,rfl,rfl,by omega,fun q hq=>?_,?_,?_,?_,HBK2.out,HBY2.out,HQ2.out,?_,by simp [*],by simp [*],by simp [*],by simp [*],by simp [*],by simp [*],by simp [*],by simp [*],by simp [*],by simp [*],by simp⟩
         ·rw [gput_lt (by omega),gput_lt (by omega)]; exact HG2.out q hq
         ·rw [gput_lt (by omega),gput_lt (by omega)]; exact d0
         ·rw [gput_lt (by omega),gput_lt (by omega)]; exact d1
         ·exact HOV2.out.keep (by omega) fun _ h=>(gput_lt (by omega)).trans (gput_lt h)
         ·exact HBR3.out
       ·rw [if_neg hin] at hbr
        have HBR3:=Hide.mk hbr
        clear hbr
        have hig:=HBY2.out.new t (Or.inl hin)
        have hts:¬((t:Int)=(s:Int)):=by
         intro e
         refine hin ?_
         have:t=s:=by omega
         rw [this]
         exact List.mem_map.2 ⟨(s,[]),List.mem_of_getElem? HBK2.out.head,rfl⟩
        have HIN:=Hide.mk hin
        have ht:t < M.rows.length:=HTL.out
        have HK2:Hide (k < st2.length):=⟨by
         have:=HQ2.out
         rcases Nat.lt_or_ge k st2.length with h | h
         ·exact h
         ·rw [List.getElem?_eq_none h] at this; cases this⟩
        clear hin
        have hl2:=HBK2.out.len
        have hmapl:(st2.map (·.1)).length=st2.length:=List.length_map ..
        have hwl:(wordC (st2.map (·.1))).length=st2.length:=by rw [wordC_len,hmapl]
        obtain ⟨hB1,hB2,hov⟩:=HOV2.out
        rcases hov with ⟨own2,z2,hl1,rfl,hgB2⟩ | ⟨rfl,hgB2⟩
        ·try simp (maxSteps:=999999) (disch:=first | assumption | omega | (simp; done) | fail) [Tryd.results49, *]
         refine WC.mono (has_w b t hb ht63 _) ?_
         rintro _ rfl
         try simp (maxSteps:=999999) (disch:=first | assumption | omega | (simp; done) | fail) [Tryd.results49, *]
         refine ihj.out (row.length - (j+1)) _ _ (by omega) ⟨j+1,n2+1+1+1+1,_,st2++[(t,qw++[j])],by2++[((t:Int),.agg [.lit (.int .i64 (qs:Nat)),.lit (.int .i64 (j:Nat))],c2)],c2+1,n2+1+1+1,.slq (n2+1+1+1) 0 2 0,by omega,rfl,rfl,by omega,fun q hq=>?_,?_,?_,⟨by omega,by omega,Or.inr ⟨?_,?_⟩⟩,HBK2.out.snoc ht HIN.out (by have:=HBK2.out.short k _ HQ2.out; have:=HK2.out; rw [List.length_append]; simp only [List.length_singleton]; dsimp only at *; omega),HBY2.out.snoc HBK2.out HIN.out HQ2.out,?_,HBR3.out,by simp [*],by simp [*],by simp [*],by simp [*],by simp [*],by simp,by simp [*],by simp [*],by simp [*],by simp [*],by simp⟩
         ·rw [gput_lt (by omega),gput_lt (by omega),gput_lt (by omega),gput_lt (by omega),gput_lt (by omega)]; exact HG2.out q hq
         ·rw [gput_lt (by omega),gput_lt (by omega),gput_lt (by omega),gput_lt (by omega),gput_lt (by omega)]; exact d0
         ·rw [gput_lt (by omega),gput_lt (by omega)]; simp only [gput_eq]
         ·rw [List.length_map,List.length_append]; rw [List.length_map] at hl1; rw [hl1]; rfl
         ·simp only [gput_eq]
          rw [List.map_append,List.map_singleton,wordC_snoc,List.take_of_length_le (by omega)]
         ·rw [List.getElem?_append_left (by have:=HK2.out; omega)]; exact HQ2.out
        ·have h1w:allOne (wordC (st2.map (·.1)))=true:=wordC_one _
         have hst64:(st2.map (·.1)).length≤64:=by omega
         have hwl' : (wordC (st2.map (·.1))).length=(st2.map (·.1)).length:=wordC_len _
         try simp (maxSteps:=999999) (disch:=first | assumption | omega | (simp; done) | fail) [Tryd.results49, *]
         refine WC.mono (has_w b t hb ht63 _) ?_
         rintro _ rfl
         try simp (maxSteps:=999999) (disch:=first | assumption | omega | (simp; done) | fail) [Tryd.results49, *]
         refine ihj.out (row.length - (j+1)) _ _ (by omega) ⟨j+1,n2+1+1+1+1,_,st2++[(t,qw++[j])],by2++[((t:Int),.agg [.lit (.int .i64 (qs:Nat)),.lit (.int .i64 (j:Nat))],c2)],c2+1,n2+1+1+1,.slq (n2+1+1+1) 0 ((st2.map (·.1)).length+1) 0,by omega,rfl,rfl,by omega,fun q hq=>?_,?_,?_,⟨by omega,by omega,Or.inr ⟨?_,?_⟩⟩,HBK2.out.snoc ht HIN.out (by have:=HBK2.out.short k _ HQ2.out; have:=HK2.out; rw [List.length_append]; simp only [List.length_singleton]; dsimp only at *; omega),HBY2.out.snoc HBK2.out HIN.out HQ2.out,?_,HBR3.out,by simp [*],by simp [*],by simp [*],by simp [*],by simp [*],by simp,by simp [*],by simp [*],by simp [*],by simp [*],by simp⟩
         ·rw [gput_lt (by omega),gput_ne (by omega),gput_lt (by omega),gput_lt (by omega),gput_lt (by omega),gput_lt (by omega)]; exact HG2.out q hq
         ·rw [gput_lt (by omega),gput_ne (by omega),gput_lt (by omega),gput_lt (by omega),gput_lt (by omega),gput_lt (by omega)]; exact d0
         ·rw [gput_lt (by omega),gput_ne (by omega),gput_lt (by omega)]; simp only [gput_eq]
         ·rw [List.map_append,List.length_append]; rfl
         ·simp only [gput_eq]
          rw [List.map_append,List.map_singleton,wordC_snoc]
         ·rw [List.getElem?_append_left (by have:=HK2.out; omega)]; exact HQ2.out
    ·have hjtI:¬(j:Int) < (row.length:Int):=by omega
     have hj2:j=row.length:=by omega
     have HJ2:=Hide.mk hj2
     clear hj2
     try simp (maxSteps:=999999) (disch:=first | assumption | omega | (simp; done) | fail) [Tryd.results49, *]
     refine ih.out (M.rows.length+1 - (k+1)) _ _ (by omega) ⟨k+1,n2,g2,st2,by2,c2,B2,ov2,?_,rfl,rfl,hn2,HG2.out,d0,d1,HOV2.out,HBK2.out,HBY2.out,?_,by simp [*],by simp [*],by simp [*],by simp [*],by simp [*],by simp [*],by simp⟩
     ·have:=HQ2.out
      rcases Nat.lt_or_ge k st2.length with h | h
      ·omega
      ·rw [List.getElem?_eq_none h] at this; cases this
     ·have h1:=HBR.out
      rw [HJ2.out,List.drop_length] at h1
      rw [hbst.out,show M.rows.length+1 - (k+1)=M.rows.length - k by omega,h1]
      rfl
  ·have hltI:¬(k:Int) < (st.length:Int):=by omega
   try simp (maxSteps:=999999) (disch:=first | assumption | omega | (simp; done) | fail) [Tryd.results49, *]
   refine ⟨_,_,_,⟨rfl,rfl,rfl⟩,by omega,HG1.out,Or.inl ⟨?_,rfl⟩⟩
   have hnone:st[k]?=none:=List.getElem?_eq_none (by omega)
   rw [HW.out,show M.rows.length+1 - k=(M.rows.length - k)+1 by omega]
   unfold bfs
   rw [hnone]; rfl
end Go.Ai
end
section
namespace Go.Ai
open Go.Proofs
set_option maxRecDepth 10000
set_option maxHeartbeats 40000000
theorem im132:isImap Tryd.prog 132=some (.int .i64 0):=by kernel_rfl
attribute [simp] im132
def GwV (g:Nat→Option Blk) (lo hi:Nat) (v:AV) (w:List Nat) : Prop :=
 (w=[]∧v=.lit (.slice none 0 0))∨(w≠[]∧∃ A,v=.slq A 0 w.length 0∧lo≤A∧A < hi∧g A=some (.cells (wordC w) true 1))
theorem GwV.keep {g g' : Nat→Option Blk} {lo hi hi2:Nat} {v:AV} {l:List Nat} (h:GwV g lo hi v l) (hh:hi≤hi2) (hg:∀ B,lo≤B→B < hi→g' B=g B) : GwV g' lo hi2 v l:=by
 rcases h with h | ⟨h1,A,h2,h3,h4,h5⟩
 ·exact Or.inl h
 ·exact Or.inr ⟨h1,A,h2,h3,by omega,by rw [hg A h3 h4]; exact h5⟩
theorem GwV.one {g:Nat→Option Blk} {lo hi:Nat} {v:AV} {w:List Nat} (h:GwV g lo hi v w) : oneC v=true:=by
 rcases h with ⟨_,rfl⟩ | ⟨_,A,rfl,_⟩ <;> rfl
theorem clip_grow {g:Nat→Option Blk} {lo hi:Nat} {v:AV} {w:List Nat} (h:GwV g lo hi v w) : WC 6 Tryd.prog 66 [v] ⟨.fn g,hi⟩ fun r=>∃ v',r=.ret v' ⟨.fn g,hi⟩∧WordV g lo hi v' w:=by
 rcases h with ⟨h1,rfl⟩ | ⟨h1,A,rfl,h3,h4,h5⟩
 ·refine WC.mono (clip_nil _) ?_
  rintro _ rfl
  exact ⟨_,rfl,Or.inl ⟨h1,rfl⟩⟩
 ·refine WC.mono (clip_slq _ _ _ _ (List.length_pos_iff.2 h1) _) ?_
  rintro _ rfl
  exact ⟨_,rfl,Or.inr ⟨h1,A,true,1,rfl,h3,h4,h5⟩⟩
theorem WordV.lo {g:Nat→Option Blk} {lo lo' hi:Nat} {v:AV} {w:List Nat} (h:WordV g lo hi v w) (hl:lo'≤lo) : WordV g lo' hi v w:=by
 rcases h with h | ⟨h1,A,own,z,h2,h3,h4,h5⟩
 ·exact Or.inl h
 ·exact Or.inr ⟨h1,A,own,z,h2,by omega,h4,h5⟩
theorem firstIn_nil (t:Nat→Bool) (i:Nat) : firstIn t [] i=none:=rfl
theorem firstIn_cons (t:Nat→Bool) (e:Int×Int) (es:List (Int×Int)) (i:Nat) : firstIn t (e :: es) i=if 0≤e.1∧t e.1.toNat=true then some (i,e.1.toNat) else firstIn t es (i+1):=rfl
theorem lasso_w {M:MachM} (hM:M.ok) {nx:List Nat} {all:Nat} (s t:Nat) (hs:s < M.rows.length) (ht:t < 18446744073709551616) (hts:sOf t s=true) (heg:∀ u,u < M.rows.length→sOf t u=true→(firstIn (sOf t) (M.rows.getD u []) 0=none↔M.gr.ends u=true)) (g:Nat→Option Blk) (n:Nat) (cs:List AV) (hr:GOK g n M nx all cs) :
  WC 6 Tryd.prog 50 [.agg cs,.lit (.int .i64 s),.lit (.int .u64 t)] ⟨.fn g,n⟩ fun r=>∃ v g' n',r=.ret (.tup [v,.lit (.int .i64 (lassoM M (sOf t) (M.rows.length+1) s [] [s]).2)]) ⟨.fn g',n'⟩∧n≤n'∧(∀ q,q < n→g' q=g q)∧WordV g' n n' v (lassoM M (sOf t) (M.rows.length+1) s [] [s]).1:=by
 have HGK:=Hide.mk hr
 obtain ⟨⟨rv,nv,rfl,⟨rv2,svs,e1,hrows,hrv⟩,hV⟩,hgr⟩:=hr
 cases e1
 have h1r:=hrv.one
 have h1v:=hV.one
 have h1a:allOne [.lit (.int .i64 M.inp),.lit (.int .i64 M.out),rv,nv,.lit (.int .u64 (all:Int))]=true:=by simp [h1r,h1v]
 have h64:M.rows.length≤64:=hM.2.2.2.2.2.1
 have hsl:=hrows.len
 have HROW:=Hide.mk hrows
 have HRV:=Hide.mk hrv
 have HM:=Hide.mk hM
 have HGR:=Hide.mk hgr
 have HEG:=Hide.mk heg
 have hel:=hgr.ends_lt
 clear hrows hrv hV hgr hM heg
 have HLM:Hide (lassoM M (sOf t) (M.rows.length+1) s [] [s]=lassoM M (sOf t) (M.rows.length+1) s [] [s]):=⟨rfl⟩
 generalize hLM:lassoM M (sOf t) (M.rows.length+1) s [] [s]=LM
 have HLM:Hide (LM=lassoM M (sOf t) (M.rows.length+1) s [] [s]):=⟨hLM.symm⟩
 clear hLM
 refine WC.enterP (noO_ok _ _) hG pl50 Tryd.func50 rfl (by decide +kernel) (Nat.le_of_ble_eq_true (by kernel_rfl)) ?_
 try simp (maxSteps:=999999) (disch:=first | assumption | omega | (simp; done) | fail) [Tryd.results50, *]
 refine LX.ind (fun m gf H'=>∃ (u n' c:Nat) (gL:Nat→Option Blk) (w seen:List Nat) (by_:List (Int×AV×Nat)) (wv:AV),m+seen.length=M.rows.length+2∧H'=⟨.fn gL,n'⟩∧n+1+1≤n'∧(∀ q,q < n→gL q=g q) ∧
  gL n=some (.cells [.lit (.int .i64 M.inp),.lit (.int .i64 M.out),rv,nv,.lit (.int .u64 (all:Int))] true 0)∧gL (n+1)=some (.map (imap by_) c)∧GwV gL (n+1+1) n' wv w∧SeenOK M.rows.length u w seen∧LOK seen by_∧sOf t u=true ∧
  LM=lassoM M (sOf t) m u w seen∧gf 1=some (.lit (.int .i64 u))∧gf 2=some (.lit (.int .u64 t))∧gf 3=some (.ptr n 0)∧gf 8=some wv∧gf 9=some (.map (n+1))) (m0:=M.rows.length+1) ?_ ?_
 ·refine ⟨s,_,1,_,[],[s],[((s:Int),.lit (.int .i64 0),0)],.lit (.slice none 0 0),by simp,rfl,by omega,fun q hq=>?_,?_,?_,Or.inl ⟨rfl,rfl⟩,.start hs,LOK.start s 0,hts,HLM.out,by simp,by simp,by simp,by simp,by simp⟩
  ·simp (disch:=omega) only [gput_lt]
  ·simp (disch:=omega) only [gput_lt,gput_eq]
  ·simp only [gput_eq,List.nil_append]
 clear hts
 rintro m gf H' ⟨u,n1,c,g1,w,seen,by_,wv,hm,rfl,hn1,hg1,e0,e1,hwv,hsn,hlk,htu,hlm,w1,w2,w3,w8,w9⟩ ih
 have HG1:=Hide.mk hg1
 have HWV:=Hide.mk hwv
 have HSN:=Hide.mk hsn
 have HLK:=Hide.mk hlk
 have HTU:=Hide.mk htu
 have HLM1:=Hide.mk hlm
 have h1w:=hwv.one
 have huN:u < M.rows.length:=hsn.lt u hsn.last
 have hu63:u≤63:=by omega
 have hsb:=hsn.bound
 have hwl:=hsn.len
 have hGK1:=Hide.mk (HGK.out.mono (g':=g1) (n':=n1) (by omega) (fun a ha=>hg1 a ha))
 clear hg1 hwv hsn hlk htu hlm HLM
 obtain ⟨m,rfl⟩ : ∃ m',m=m'+1:=⟨m - 1,by omega⟩
 refine LX.roundP (noO_ok _ _) hG pl50 (by decide +kernel) ?_
 try simp (maxSteps:=999999) (disch:=first | assumption | omega | (simp; done) | fail) [Tryd.results50, *]
 refine WC.mono (ends_w _ _ _ hGK1.out) ?_
 rintro _ rfl
 try simp (maxSteps:=999999) (disch:=first | assumption | omega | (simp; done) | fail) [Tryd.results50, *]
 refine WC.mono (has_w _ u hel hu63 _) ?_
 rintro _ rfl
 have hee:(endsN nx all M.gr.n).testBit u=M.gr.ends u:=HGR.out.ends_eq u huN
 have hfi:=HEG.out u huN HTU.out
 have hlm:=HLM1.out
 unfold lassoM at hlm
 cases hfi1:firstIn (sOf t) (M.rows.getD u []) 0 with
 | none =>
  have he:=hfi.1 hfi1
  rw [hfi1] at hlm
  dsimp only at hlm
  have HLM2:=Hide.mk hlm
  rw [he] at hee
  clear hlm hfi hfi1 he
  try simp (maxSteps:=999999) (disch:=first | assumption | omega | (simp; done) | fail) [Tryd.results50, *]
  refine WC.mono (clip_grow HWV.out) ?_
  rintro _ ⟨v',rfl,hwo⟩
  have HWO:=Hide.mk hwo
  have h1v' : oneC v'=true:=by rcases hwo with ⟨_,rfl⟩ | ⟨_,A,own,z,rfl,_⟩ <;> rfl
  clear hwo
  try simp (maxSteps:=999999) (disch:=first | assumption | omega | (simp; done) | fail) [Tryd.results50, *]
  refine ⟨v',g1,n1,⟨⟨rfl,?_⟩,rfl,rfl⟩,by omega,HG1.out,?_⟩
  ·rw [HLM2.out]
  ·rw [HLM2.out]; exact HWO.out.lo (by omega)
 | some q =>
  obtain ⟨hqN,hqt⟩:=firstIn_lt HM.out huN hfi1
  rw [hfi1] at hlm
  dsimp only at hlm
  have he:M.gr.ends u=false:=by
   cases h:M.gr.ends u with
   | false=>rfl
   | true=>have:=hfi.2 h; rw [hfi1] at this; cases this
  rw [he] at hee
  have HLMQ:=Hide.mk hlm
  have HQT:=Hide.mk hqt
  clear hlm he hfi hqt
  have hR:=HROW.out.at u huN (by omega)
  obtain ⟨a2,off,ha2,hrow,hia2⟩:=HRV.out.ia (P:=Tryd.prog) huN 1
  have hcell:=(hrow.mono (HG1.out a2 ha2)).one (k:=u) (s:=1) (by omega)
  rw [Nat.mul_one] at hia2
  have hgd:M.rows.getD u []=M.rows[u]:=by rw [List.getD_eq_getElem?_getD,List.getElem?_eq_getElem huN]; rfl
  have hre:=ok_row_edge HM.out (List.getElem_mem huN)
  have hr16:M.rows[u].length≤16:=by
   have h1:=ok_row HM.out _ (List.getElem_mem huN)
   have h2:M.inp≤16:=HM.out.2.1
   omega
  rw [hgd] at hfi1
  generalize svs[u]'(by omega)=sv at hR hcell
  generalize M.rows[u]=row at hR hre hr16 hfi1
  clear hgd
  have hlen2:=@lenV Tryd.prog _ _ _ _ _ hR
  have h1sv:=hR.one
  have HRE:=Hide.mk hre
  have HRR:=Hide.mk hR
  have HF1:=Hide.mk hfi1
  clear hre hR hrow hfi1
  try simp (maxSteps:=999999) (disch:=first | assumption | omega | (simp; done) | fail) [Tryd.results50, *]
  refine LX.ind (fun m gf H'=>∃ (j n' : Nat) (gL:Nat→Option Blk),j≤row.length∧m=row.length - j∧H'=⟨.fn gL,n'⟩∧n1≤n'∧(∀ q,q < n1→gL q=g1 q)∧firstIn (sOf t) (row.drop j) j=some q ∧
   gf 1=some (.lit (.int .i64 u))∧gf 2=some (.lit (.int .u64 t))∧gf 3=some (.ptr n 0)∧gf 8=some wv∧gf 9=some (.map (n+1))∧gf 27=some sv∧gf 28=some (.lit (.int .i64 row.length))∧gf 29=some (.lit (.int .i64 (j:Int)))) (m0:=row.length) ?_ ?_
  ·exact ⟨0,n1,g1,by omega,by omega,rfl,by omega,fun _ _=>rfl,HF1.out,by simp [*],by simp [*],by simp [*],by simp [*],by simp [*],by simp,by simp,by simp⟩
  rintro mm gf H' ⟨j,n2,g2,hj,rfl,rfl,hn2,hg2,hfj,x1,x2,x3,x8,x9,x27,x28,x29⟩ ihj
  have HG2:=Hide.mk hg2
  have HFJ:=Hide.mk hfj
  clear hg2 hfj
  refine LX.roundP (noO_ok _ _) hG pl50 (by decide +kernel) ?_
  have hjt:j < row.length:=by
   rcases Nat.lt_or_ge j row.length with h | h
   ·exact h
   ·have:=HFJ.out
    rw [List.drop_eq_nil_of_le h,firstIn_nil] at this; cases this
  have hjtI:(j:Int) < (row.length:Int):=by omega
  obtain ⟨a3,off3,ha3,hrow3,hia3⟩:=HRR.out.ia (P:=Tryd.prog) hjt 2
  have hagg:=(hrow3.mono ((HG2.out a3 (by omega)).trans (HG1.out a3 ha3))).agg (k:=j * 2) (s:=2) (by rw [rowC_len]; omega)
  rw [rowC_at row j hjt] at hagg
  have hre:=HRE.out _ (List.getElem_mem hjt)
  have hfj:=HFJ.out
  rw [List.drop_eq_getElem_cons hjt,firstIn_cons] at hfj
  generalize row[j]=e at hagg hre hfj
  obtain ⟨to,out⟩:=e
  dsimp only at hagg hre hfj
  have HFJ2:=Hide.mk hfj
  clear hfj hrow3 HFJ
  have d0:g2 n=some (.cells [.lit (.int .i64 M.inp),.lit (.int .i64 M.out),rv,nv,.lit (.int .u64 (all:Int))] true 0):=by rw [HG2.out n (by omega)]; exact e0
  have d1:g2 (n+1)=some (.map (imap by_) c):=by rw [HG2.out (n+1) (by omega)]; exact e1
  by_cases ht1:to = -1
  ·subst ht1
   try simp (maxSteps:=999999) (disch:=first | assumption | omega | (simp; done) | fail) [Tryd.results50, *]
   refine ihj.out (row.length - (j+1)) _ _ (by omega) ⟨j+1,n2+1,_,by omega,rfl,rfl,by omega,fun q hq=>?_,?_,by simp [*],by simp [*],by simp [*],by simp [*],by simp [*],by simp [*],by simp [*],by simp⟩
   ·rw [gput_lt (by omega)]; exact HG2.out q hq
   ·have:=HFJ2.out
    rw [if_neg (by omega)] at this
    exact this
  ·obtain ⟨tt,rfl⟩ : ∃ tt:Nat,to=tt:=⟨to.toNat,by omega⟩
   have ht63:tt≤63:=by omega
   have hneg:¬((tt:Int) = -1):=by omega
   cases hbt:t.testBit tt with
   | false =>
    try simp (maxSteps:=999999) (disch:=first | assumption | omega | (simp; done) | fail) [Tryd.results50, *]
    refine WC.mono (has_w t tt ht ht63 _) ?_
    rintro _ rfl
    try simp (maxSteps:=999999) (disch:=first | assumption | omega | (simp; done) | fail) [Tryd.results50, *]
    refine ihj.out (row.length - (j+1)) _ _ (by omega) ⟨j+1,n2+1,_,by omega,rfl,rfl,by omega,fun q hq=>?_,?_,by simp [*],by simp [*],by simp [*],by simp [*],by simp [*],by simp [*],by simp [*],by simp⟩
    ·rw [gput_lt (by omega)]; exact HG2.out q hq
    ·have:=HFJ2.out
     rw [if_neg (by rw [Int.toNat_natCast]; show ¬(_∧t.testBit tt=true); rw [hbt]; simp)] at this
     exact this
   | true =>
    have hqe:q=(j,tt):=by
     have:=HFJ2.out
     rw [if_pos (by rw [Int.toNat_natCast]; exact ⟨by omega,hbt⟩),Int.toNat_natCast,Option.some.injEq] at this
     exact this.symm
    subst hqe
    dsimp only at hqN HQT HLMQ
    have HTT:Hide (sOf t tt=true):=⟨HQT.out⟩
    have httN:tt < M.rows.length:=hqN
    have hig:=HLK.out tt
    have hlm:=HLMQ.out
    have HSL:Hide (seen.length=w.length+1):=⟨hwl⟩
    rcases HWV.out with ⟨rfl,rfl⟩ | ⟨hwne,A,rfl,hA1,hA2,hgA⟩
    ·cases hk:seen.idxOf? tt with
     | some kq =>
      rw [hk] at hig hlm
      dsimp only [Option.map_some] at hig hlm
      have HLM2:=Hide.mk hlm
      clear hlm hk
      try simp (maxSteps:=999999) (disch:=first | assumption | omega | (simp; done) | fail) [Tryd.results50, *]
      refine WC.mono (has_w t tt ht ht63 _) ?_
      rintro _ rfl
      ·try simp (maxSteps:=999999) (disch:=first | assumption | omega | (simp; done) | fail) [Tryd.results50, *]
       refine WC.mono (clip_grow (lo:=n+1+1) (w:=[j]) (Or.inr ⟨by simp,n2+1+1,rfl,by omega,by omega,by simp only [gput_eq]; rfl⟩)) ?_
       rintro _ ⟨v',rfl,hwo⟩
       have HWO:=Hide.mk hwo
       have h1v' : oneC v'=true:=by rcases hwo with ⟨_,rfl⟩ | ⟨_,A,own,z,rfl,_⟩ <;> rfl
       clear hwo
       try simp (maxSteps:=999999) (disch:=first | assumption | omega | (simp; done) | fail) [Tryd.results50, *]
       refine ⟨v',_,_,⟨⟨rfl,?_⟩,rfl,rfl⟩,by omega,fun q hq=>?_,?_⟩
       ·rw [HLM2.out]
       ·rw [gput_lt (by omega),gput_lt (by omega),gput_lt (by omega),HG2.out q (by omega)]; exact HG1.out q hq
       ·rw [HLM2.out]; exact HWO.out.lo (by omega)
     | none =>
      rw [hk] at hig hlm
      dsimp only [Option.map_none] at hig hlm
      have HLM2:=Hide.mk hlm
      have HK:=Hide.mk hk
      clear hlm hk
      try simp (maxSteps:=999999) (disch:=first | assumption | omega | (simp; done) | fail) [Tryd.results50, *]
      refine WC.mono (has_w t tt ht ht63 _) ?_
      rintro _ rfl
      ·try simp (maxSteps:=999999) (disch:=first | assumption | omega | (simp; done) | fail) [Tryd.results50, *]
       refine ih.out m _ _ (by omega) ⟨tt,_,c+1,_,[j],seen++[tt],by_++[((tt:Int),.lit (.int .i64 ((seen.length:Nat) : Int)),c)],.slq (n2+1+1) 0 1 0,by rw [List.length_append]; simp only [List.length_singleton]; omega,rfl,by omega,fun q hq=>?_,?_,?_,Or.inr ⟨by simp,n2+1+1,rfl,by omega,by omega,?_⟩,HSN.out.snoc httN ((idx_none _ _).1 HK.out),HLK.out.snoc ((idx_none _ _).1 HK.out),HTT.out,HLM2.out,by simp [*],by simp [*],by simp [*],by simp [*],by simp [*]⟩
       ·rw [gput_ne (by omega),gput_lt (by omega),gput_lt (by omega),gput_lt (by omega),HG2.out q (by omega)]; exact HG1.out q hq
       ·rw [gput_ne (by omega),gput_lt (by omega),gput_lt (by omega),gput_lt (by omega),HG2.out n (by omega)]; exact e0
       ·simp only [gput_eq]; rw [HSL.out]; simp
       ·rw [gput_ne (by omega)]; simp only [gput_eq]; rfl
    ·have hgA2:g2 A=some (.cells (wordC w) true 1):=by rw [HG2.out A (by omega)]; exact hgA
     have h1ww:allOne (wordC w)=true:=wordC_one w
     have hwl' : (wordC w).length=w.length:=wordC_len w
     cases hk:seen.idxOf? tt with
     | some kq =>
      rw [hk] at hig hlm
      dsimp only [Option.map_some] at hig hlm
      have HLM2:=Hide.mk hlm
      clear hlm hk
      try simp (maxSteps:=999999) (disch:=first | assumption | omega | (simp; done) | fail) [Tryd.results50, *]
      refine WC.mono (has_w t tt ht ht63 _) ?_
      rintro _ rfl
      ·try simp (maxSteps:=999999) (disch:=first | assumption | omega | (simp; done) | fail) [Tryd.results50, *]
       refine WC.mono (clip_grow (lo:=n+1+1) (w:=(w++[j])) (Or.inr ⟨by simp,n2+1+1,by rw [List.length_append]; rfl,by omega,by omega,by simp only [gput_eq]; rw [wordC_snoc]⟩)) ?_
       rintro _ ⟨v',rfl,hwo⟩
       have HWO:=Hide.mk hwo
       have h1v' : oneC v'=true:=by rcases hwo with ⟨_,rfl⟩ | ⟨_,A,own,z,rfl,_⟩ <;> rfl
       clear hwo
       try simp (maxSteps:=999999) (disch:=first | assumption | omega | (simp; done) | fail) [Tryd.results50, *]
       refine ⟨v',_,_,⟨⟨rfl,?_⟩,rfl,rfl⟩,by omega,fun q hq=>?_,?_⟩
       ·rw [HLM2.out]
       ·rw [gput_lt (by omega),gput_ne (by omega),gput_lt (by omega),gput_lt (by omega),HG2.out q (by omega)]; exact HG1.out q hq
       ·rw [HLM2.out]; exact HWO.out.lo (by omega)
     | none =>
      rw [hk] at hig hlm
      dsimp only [Option.map_none] at hig hlm
      have HLM2:=Hide.mk hlm
      have HK:=Hide.mk hk
      clear hlm hk
      try simp (maxSteps:=999999) (disch:=first | assumption | omega | (simp; done) | fail) [Tryd.results50, *]
      refine WC.mono (has_w t tt ht ht63 _) ?_
      rintro _ rfl
      ·try simp (maxSteps:=999999) (disch:=first | assumption | omega | (simp; done) | fail) [Tryd.results50, *]
       refine ih.out m _ _ (by omega) ⟨tt,_,c+1,_,(w++[j]),seen++[tt],by_++[((tt:Int),.lit (.int .i64 ((seen.length:Nat) : Int)),c)],.slq (n2+1+1) 0 (w.length+1) 0,by rw [List.length_append]; simp only [List.length_singleton]; omega,rfl,by omega,fun q hq=>?_,?_,?_,Or.inr ⟨by simp,n2+1+1,by rw [List.length_append]; rfl,by omega,by omega,?_⟩,HSN.out.snoc httN ((idx_none _ _).1 HK.out),HLK.out.snoc ((idx_none _ _).1 HK.out),HTT.out,HLM2.out,by simp [*],by simp [*],by simp [*],by simp [*],by simp [*]⟩
       ·rw [gput_ne (by omega),gput_lt (by omega),gput_ne (by omega),gput_lt (by omega),gput_lt (by omega),HG2.out q (by omega)]; exact HG1.out q hq
       ·rw [gput_ne (by omega),gput_lt (by omega),gput_ne (by omega),gput_lt (by omega),gput_lt (by omega),HG2.out n (by omega)]; exact e0
       ·simp only [gput_eq]; rw [HSL.out]; simp
       ·rw [gput_ne (by omega)]; simp only [gput_eq]; rw [wordC_snoc]
end Go.Ai
end
section
namespace Go.Ai
open Go.Proofs
set_option maxRecDepth 10000
set_option maxHeartbeats 40000000
def WitR (M:MachM) (x:NodeM) (s:Int) (g:Nat→Option Blk) (n n' : Nat) (v:AV) (l e:Int) : Prop :=
  (¬(0≤s∧s < M.rows.length)∧v=.lit (.slice none 0 0)∧l=0∧e=1) ∨
  ((0≤s∧s < M.rows.length)∧¬(7≤x.op∧x.op≤10)∧v=.lit (.slice none 0 0)∧l=0∧e=15) ∨
  ((0≤s∧s < M.rows.length)∧(7≤x.op∧x.op≤10)∧∃ X,semN M x X ∧
    ((X s.toNat=false∧v=.lit (.slice none 0 0)∧l=0∧e=7) ∨
     (X s.toNat=true∧e=0 ∧
       ((x.op=7∧l = -1∧∃ y B w,x.subs=[y]∧semN M y B∧wayM M s.toNat (fun u=>decide (u=s.toNat)) B 1=some w∧WordV g n n' v w) ∨
        (x.op=8∧l = -1∧∃ y B w,x.subs=[y]∧semN M y B∧wayM M s.toNat allS B 0=some w∧WordV g n n' v w) ∨
        (x.op=10∧l = -1∧∃ y z A B w,x.subs=[y,z]∧semN M y A∧semN M z B∧wayM M s.toNat A B 0=some w∧WordV g n n' v w) ∨
        (x.op=9∧l=(lassoM M X (M.rows.length+1) s.toNat [] [s.toNat]).2∧WordV g n n' v (lassoM M X (M.rows.length+1) s.toNat [] [s.toNat]).1)))))
theorem repN_subs {g:Nat→Option Blk} {n:Nat} {x:NodeM} {c0 c1 c2 sv:AV} (h:repN g n x [c0,c1,c2,sv]) (hl:0 < x.subs.length) : ∃ r,SliceV g n sv x.subs.length r∧repL g n x.subs r:=by
 cases x with
 | mk op a b subs =>
  obtain ⟨_,sv',e,h2⟩:=h
  cases e
  have hl:0 < subs.length:=hl
  rcases h2 with ⟨rfl,_⟩ | ⟨a,off,r,h3,h4,h5,h6⟩
  ·exact absurd hl (by simp)
  ·exact ⟨r,Or.inr ⟨a,off,h3,h4,h5⟩,h6⟩
theorem sub_k {g:Nat→Option Blk} {n:Nat} {x:NodeM} {c0 c1 c2 sv:AV} (h:repN g n x [c0,c1,c2,sv]) (k:Nat) (hk:k < x.subs.length) :
  ∃ a off c,a < n∧loadB (some (true,4)) (g a) (off+k * 4)=some (.agg c)∧repN g n x.subs[k] c ∧
   ∀ {H:Mem} {ev:Ev} {o:Oper} {t:TypeId},iaS Tryd.prog H ev o t (some (none,4)) (some sv) (some (.lit (.int .i64 (k:Int))))=.val (.ptr a (off+k * 4)) H:=by
 obtain ⟨r,h1,h2⟩:=repN_subs h (by omega)
 obtain ⟨a,off,ha,hrow,hia⟩:=h1.ia (P:=Tryd.prog) hk 4
 have hl:=repL_len h2
 exact ⟨a,off,_,ha,hrow.agg (k:=k * 4) (s:=4) (by omega),repL_at h2 k hk,hia⟩
theorem WordV.one {g:Nat→Option Blk} {lo hi:Nat} {v:AV} {w:List Nat} (h:WordV g lo hi v w) : oneC v=true:=by
 rcases h with ⟨_,rfl⟩ | ⟨_,A,own,z,rfl,_⟩ <;> rfl
theorem wit_w {M:MachM} (hM:M.ok) (x:NodeM) (hx:sizeN x≤1000000) (hv:validM M.rows.length M.inp M.out x=true) (hsm:(smallM x 64).1=true) (s:Int) (g:Nat→Option Blk) (n:Nat) (ms xs:List AV) (hops:g 0=some opsB) (hn0:0 < n) (hr:RepM g n M ms) (hx0:repN g n x xs) :
  WC 6 Tryd.prog 21 [.agg ms,.agg xs,.lit (.int .i64 s)] ⟨.fn g,n⟩ fun r=>∃ v l e g' n',r=.ret (.tup [v,.lit (.int .i64 l),.lit (.int .i64 e)]) ⟨.fn g',n'⟩∧n≤n'∧(∀ b,b < n→g' b=g b)∧WitR M x s g' n n' v l e:=by
 have HR:=Hide.mk hr
 have HX:=Hide.mk hx0
 obtain ⟨rv,svs,rfl,hrows,hrv⟩:=hr
 have h1r:=hrv.one
 have h1a:allOne [.lit (.int .i64 M.inp),.lit (.int .i64 M.out),rv]=true:=by simp [h1r]
 have hlen:=@lenV Tryd.prog _ _ _ _ _ hrv
 obtain ⟨k2,k3,sv2,hcy,h1c,hop2⟩:=repN_one hx0
 subst hcy
 have h1b:allOne [.lit (.int .u8 x.op),.lit (.int .i64 k2),.lit (.int .i64 k3),sv2]=true:=by simp [h1c]
 have h64:M.rows.length≤64:=hM.2.2.2.2.2.1
 clear hrows hrv hx0
 refine WC.enterP (noO_ok _ _) hG pl21 Tryd.func21 rfl (by decide +kernel) (Nat.le_of_ble_eq_true (by kernel_rfl)) ?_
 try simp (maxSteps:=999999) (disch:=first | assumption | omega | (simp; done) | fail) [Tryd.results21, *]
 refine WC.mono (Check_yes hM x hx hv hsm _ _ _ _ (by simp (disch:=omega) only [gput_lt]; exact hops) (by omega) (HR.out.mono (by omega) fun q hq=>by simp (disch:=omega) only [gput_lt]) (repN_mono (by omega) (fun a ha=>(by simp (disch:=omega) only [gput_lt])) HX.out)) ?_
 rintro _ ⟨g1,n1,rfl,hn1,hg1⟩
 have HG:Hide (∀ b,b < n→g1 b=g b):=⟨fun b hb=>by rw [hg1 b (by omega)]; simp (disch:=omega) only [gput_lt]⟩
 have e0:g1 n=some (.cells [.lit (.int .i64 M.inp),.lit (.int .i64 M.out),rv] true 0):=by rw [hg1 n (by omega)]; simp (disch:=omega) only [gput_lt,gput_eq]
 have e1:g1 (n+1)=some (.cells [.lit (.int .u8 x.op),.lit (.int .i64 k2),.lit (.int .i64 k3),sv2] true 0):=by rw [hg1 (n+1) (by omega)]; simp (disch:=omega) only [gput_eq]
 clear hg1
 by_cases hs0:s < 0
 ·try simp (maxSteps:=999999) (disch:=first | assumption | omega | (simp; done) | fail) [Tryd.results21, *]
  refine ⟨_,_,_,_,_,⟨⟨rfl,rfl,rfl⟩,rfl,rfl⟩,by omega,HG.out,Or.inl ⟨by omega,rfl,rfl,rfl⟩⟩
 by_cases hsN:s ≥ (M.rows.length:Int)
 ·try simp (maxSteps:=999999) (disch:=first | assumption | omega | (simp; done) | fail) [Tryd.results21, *]
  refine ⟨_,_,_,_,_,⟨⟨rfl,rfl,rfl⟩,rfl,rfl⟩,by omega,HG.out,Or.inl ⟨by omega,rfl,rfl,rfl⟩⟩
 have hsN' : s < (M.rows.length:Int):=by omega
 have hsr:0≤s∧s < (M.rows.length:Int):=⟨by omega,by omega⟩
 have HSR:=Hide.mk hsr
 clear hsr
 by_cases ho7:(x.op:Int) < 7
 ·try simp (maxSteps:=999999) (disch:=first | assumption | omega | (simp; done) | fail) [Tryd.results21, *]
  refine ⟨_,_,_,_,_,⟨⟨rfl,rfl,rfl⟩,rfl,rfl⟩,by omega,HG.out,Or.inr (Or.inl ⟨HSR.out,by omega,rfl,rfl,rfl⟩)⟩
 by_cases ho10:(10:Int) < (x.op:Int)
 ·try simp (maxSteps:=999999) (disch:=first | assumption | omega | (simp; done) | fail) [Tryd.results21, *]
  refine ⟨_,_,_,_,_,⟨⟨rfl,rfl,rfl⟩,rfl,rfl⟩,by omega,HG.out,Or.inr (Or.inl ⟨HSR.out,by omega,rfl,rfl,rfl⟩)⟩
 obtain ⟨sn,rfl⟩ : ∃ sn:Nat,s=sn:=⟨s.toNat,by omega⟩
 have hsnN:sn < M.rows.length:=by omega
 have hsn63:sn≤63:=by omega
 try simp (maxSteps:=999999) (disch:=first | assumption | omega | (simp; done) | fail) [Tryd.results21, *]
 refine WC.mono (graphOf_w hM _ _ _ (HR.out.mono (by omega) fun q hq=>HG.out q hq)) ?_
 rintro _ ⟨cs,g2,n2,rfl,hn2,hg2,hgok⟩
 have HG2:Hide (∀ b,b < n→g2 b=g b):=⟨fun b hb=>by rw [hg2 b (by omega)]; exact HG.out b hb⟩
 have d0:=(hg2 n (by omega)).trans e0
 have d1:=(hg2 (n+1) (by omega)).trans e1
 have HGOK:=Hide.mk hgok
 obtain ⟨rv',nv',hcs,h1r',h1v'⟩:=hgok.one
 subst hcs
 have h1g:allOne [.lit (.int .i64 M.inp),.lit (.int .i64 M.out),rv',nv',.lit (.int .u64 (allK M.rows.length:Nat))]=true:=by simp [h1r',h1v']
 clear hg2 e0 e1 hgok
 try simp (maxSteps:=999999) (disch:=first | assumption | omega | (simp; done) | fail) [Tryd.results21, *]
 refine WC.mono (sat_w hM (sizeN x) x (Nat.le_refl _) hv _ _ _ _ (by rw [gput_lt (by omega)]; exact (HG2.out 0 hn0).trans hops) (by omega) (HGOK.out.mono (by omega) fun a ha=>gput_lt ha) (repN_mono (by omega) (fun a ha=>by rw [gput_lt (by omega)]; exact HG2.out a ha) HX.out)) ?_
 rintro _ ⟨z,rfl,hz,hsem⟩
 have HSEM:=Hide.mk hsem
 clear hsem
 try simp (maxSteps:=999999) (disch:=first | assumption | omega | (simp; done) | fail) [Tryd.results21, *]
 refine WC.mono (has_w z sn hz hsn63 _) ?_
 rintro _ rfl
 cases hzs:z.testBit sn with
 | false =>
  try simp (maxSteps:=999999) (disch:=first | assumption | omega | (simp; done) | fail) [Tryd.results21, *]
  refine ⟨_,_,_,_,_,⟨⟨rfl,rfl,rfl⟩,rfl,rfl⟩,by omega,fun q hq=>by rw [gput_lt (by omega)]; exact HG2.out q hq,Or.inr (Or.inr ⟨HSR.out,by omega,sOf z,HSEM.out,Or.inl ⟨hzs,rfl,rfl,rfl⟩⟩)⟩
 | true =>
  have hops4:x.op=7∨x.op=8∨x.op=9∨x.op=10:=by omega
  rcases hops4 with ho | ho | ho | ho
  ·obtain ⟨y,hys,yv,hysz⟩:=one_sub hv (Or.inl ho)
   obtain ⟨b0,off0,c0,hb0,hld0,hrp0,hia0⟩:=sub_k HX.out 0 (by rw [hys]; simp)
   have hyy0:x.subs[0]'(by rw [hys]; simp)=y:=by simp [hys]
   rw [hyy0] at hrp0
   simp only [Nat.zero_mul,Nat.add_zero,Int.natCast_zero] at hld0 hia0
   have hld0' : loadB (some (true,4)) (g2 b0) off0=some (.agg c0):=by rw [HG2.out b0 hb0]; exact hld0
   have HRP0:=Hide.mk hrp0
   clear hld0 hrp0
   try simp (maxSteps:=999999) (disch:=first | assumption | omega | (simp; done) | fail) [Tryd.results21, *]
   refine WC.mono (sat_w hM (sizeN x) y (by omega) yv _ _ _ _ (by rw [gput_lt (by omega)]; exact (HG2.out 0 hn0).trans hops) (by omega) (HGOK.out.mono (by omega) fun a ha=>gput_lt ha) (repN_mono (by omega) (fun a ha=>by rw [gput_lt (by omega)]; exact HG2.out a ha) HRP0.out)) ?_
   rintro _ ⟨z0,rfl,hz0,hsem0⟩
   have HSEM0:=Hide.mk hsem0
   clear hsem0
   try simp (maxSteps:=999999) (disch:=first | assumption | omega | (simp; done) | fail) [Tryd.results21, *]
   obtain ⟨w,hw1,hw2⟩:=wit7 hM ho hys hsnN HSEM.out HSEM0.out hzs
   have HW1:=Hide.mk hw1
   refine WC.mono (way_w hM sn (bitN sn) z0 1 hsnN (bitN_lt hsn63) hz0 _ _ _ (HGOK.out.mono (by omega) fun a ha=>gput_lt ha)) ?_
   rintro _ ⟨v,g3,n3,rfl,hn3,hg3,hwv⟩
   have HG3:Hide (∀ q,q < n→g3 q=g q):=⟨fun q hq=>by rw [hg3 q (by omega),gput_lt (by omega)]; exact HG2.out q hq⟩
   have HWV:=Hide.mk hwv
   have h1v:=hwv.one
   clear hg3 hwv
   try simp (maxSteps:=999999) (disch:=first | assumption | omega | (simp; done) | fail) [Tryd.results21, *]
   refine ⟨v,_,_,_,_,⟨⟨rfl,rfl,rfl⟩,rfl,rfl⟩,by omega,HG3.out,Or.inr (Or.inr ⟨HSR.out,by omega,sOf z,HSEM.out,Or.inr ⟨hzs,rfl,Or.inl ⟨ho,rfl,y,sOf z0,w,hys,HSEM0.out,HW1.out,?_⟩⟩⟩)⟩
   have:=HWV.out
   rw [hw2] at this
   exact this.lo (by omega)
  ·obtain ⟨y,hys,yv,hysz⟩:=one_sub hv (Or.inr (Or.inl ho))
   obtain ⟨b0,off0,c0,hb0,hld0,hrp0,hia0⟩:=sub_k HX.out 0 (by rw [hys]; simp)
   have hyy0:x.subs[0]'(by rw [hys]; simp)=y:=by simp [hys]
   rw [hyy0] at hrp0
   simp only [Nat.zero_mul,Nat.add_zero,Int.natCast_zero] at hld0 hia0
   have hld0' : loadB (some (true,4)) (g2 b0) off0=some (.agg c0):=by rw [HG2.out b0 hb0]; exact hld0
   have HRP0:=Hide.mk hrp0
   clear hld0 hrp0
   try simp (maxSteps:=999999) (disch:=first | assumption | omega | (simp; done) | fail) [Tryd.results21, *]
   refine WC.mono (sat_w hM (sizeN x) y (by omega) yv _ _ _ _ (by rw [gput_lt (by omega)]; exact (HG2.out 0 hn0).trans hops) (by omega) (HGOK.out.mono (by omega) fun a ha=>gput_lt ha) (repN_mono (by omega) (fun a ha=>by rw [gput_lt (by omega)]; exact HG2.out a ha) HRP0.out)) ?_
   rintro _ ⟨z0,rfl,hz0,hsem0⟩
   have HSEM0:=Hide.mk hsem0
   clear hsem0
   try simp (maxSteps:=999999) (disch:=first | assumption | omega | (simp; done) | fail) [Tryd.results21, *]
   obtain ⟨w,hw1,hw2⟩:=wit8 hM ho hys hsnN HSEM.out HSEM0.out hzs
   have HW1:=Hide.mk hw1
   refine WC.mono (way_w hM sn (allK M.rows.length) z0 0 hsnN (allK_lt _ h64) hz0 _ _ _ (HGOK.out.mono (by omega) fun a ha=>gput_lt ha)) ?_
   rintro _ ⟨v,g3,n3,rfl,hn3,hg3,hwv⟩
   have HG3:Hide (∀ q,q < n→g3 q=g q):=⟨fun q hq=>by rw [hg3 q (by omega),gput_lt (by omega)]; exact HG2.out q hq⟩
   have HWV:=Hide.mk hwv
   have h1v:=hwv.one
   clear hg3 hwv
   try simp (maxSteps:=999999) (disch:=first | assumption | omega | (simp; done) | fail) [Tryd.results21, *]
   refine ⟨v,_,_,_,_,⟨⟨rfl,rfl,rfl⟩,rfl,rfl⟩,by omega,HG3.out,Or.inr (Or.inr ⟨HSR.out,by omega,sOf z,HSEM.out,Or.inr ⟨hzs,rfl,Or.inr (Or.inl ⟨ho,rfl,y,sOf z0,w,hys,HSEM0.out,HW1.out,?_⟩)⟩⟩)⟩
   have:=HWV.out
   rw [hw2] at this
   exact this.lo (by omega)
  ·try simp (maxSteps:=999999) (disch:=first | assumption | omega | (simp; done) | fail) [Tryd.results21, *]
   refine WC.mono (lasso_w hM sn z hsnN hz hzs (wit9 hM ho HSEM.out) _ _ _ (HGOK.out.mono (by omega) fun a ha=>gput_lt ha)) ?_
   rintro _ ⟨v,g3,n3,rfl,hn3,hg3,hwv⟩
   have HG3:Hide (∀ q,q < n→g3 q=g q):=⟨fun q hq=>by rw [hg3 q (by omega),gput_lt (by omega)]; exact HG2.out q hq⟩
   have HWV:=Hide.mk hwv
   have h1v:=hwv.one
   clear hg3 hwv
   try simp (maxSteps:=999999) (disch:=first | assumption | omega | (simp; done) | fail) [Tryd.results21, *]
   exact ⟨v,_,_,_,_,⟨⟨rfl,rfl,rfl⟩,rfl,rfl⟩,by omega,HG3.out,Or.inr (Or.inr ⟨HSR.out,by omega,sOf z,HSEM.out,Or.inr ⟨hzs,rfl,Or.inr (Or.inr (Or.inr ⟨ho,rfl,HWV.out.lo (by omega)⟩))⟩⟩)⟩
  ·obtain ⟨y,y2,hys,yv,hysz,y2v,hysz2⟩:=two_subs hv ho
   obtain ⟨b0,off0,c0,hb0,hld0,hrp0,hia0⟩:=sub_k HX.out 0 (by rw [hys]; simp)
   have hyy0:x.subs[0]'(by rw [hys]; simp)=y:=by simp [hys]
   rw [hyy0] at hrp0
   simp only [Nat.zero_mul,Nat.add_zero,Int.natCast_zero] at hld0 hia0
   have hld0' : loadB (some (true,4)) (g2 b0) off0=some (.agg c0):=by rw [HG2.out b0 hb0]; exact hld0
   have HRP0:=Hide.mk hrp0
   clear hld0 hrp0
   obtain ⟨b1,off1,c1,hb1,hld1,hrp1,hia1⟩:=sub_k HX.out 1 (by rw [hys]; simp)
   have hyy1:x.subs[1]'(by rw [hys]; simp)=y2:=by simp [hys]
   rw [hyy1] at hrp1
   simp only [Nat.one_mul,Int.natCast_one] at hld1 hia1
   have hld1' : loadB (some (true,4)) (g2 b1) (off1+4)=some (.agg c1):=by rw [HG2.out b1 hb1]; exact hld1
   have HRP1:=Hide.mk hrp1
   clear hld1 hrp1
   try simp (maxSteps:=999999) (disch:=first | assumption | omega | (simp; done) | fail) [Tryd.results21, *]
   refine WC.mono (sat_w hM (sizeN x) y (by omega) yv _ _ _ _ (by rw [gput_lt (by omega)]; exact (HG2.out 0 hn0).trans hops) (by omega) (HGOK.out.mono (by omega) fun a ha=>gput_lt ha) (repN_mono (by omega) (fun a ha=>by rw [gput_lt (by omega)]; exact HG2.out a ha) HRP0.out)) ?_
   rintro _ ⟨z0,rfl,hz0,hsem0⟩
   have HSEM0:=Hide.mk hsem0
   clear hsem0
   try simp (maxSteps:=999999) (disch:=first | assumption | omega | (simp; done) | fail) [Tryd.results21, *]
   refine WC.mono (sat_w hM (sizeN x) y2 (by omega) y2v _ _ _ _ (by rw [gput_lt (by omega)]; exact (HG2.out 0 hn0).trans hops) (by omega) (HGOK.out.mono (by omega) fun a ha=>gput_lt ha) (repN_mono (by omega) (fun a ha=>by rw [gput_lt (by omega)]; exact HG2.out a ha) HRP1.out)) ?_
   rintro _ ⟨z1,rfl,hz1,hsem1⟩
   have HSEM1:=Hide.mk hsem1
   clear hsem1
   try simp (maxSteps:=999999) (disch:=first | assumption | omega | (simp; done) | fail) [Tryd.results21, *]
   obtain ⟨w,hw2⟩:=wit10 hM ho hys hsnN HSEM.out HSEM0.out HSEM1.out hzs
   have HW1:=Hide.mk hw2
   have hw2:wayM M sn (fun u=>z0.testBit u) (fun u=>z1.testBit u) 0=some w:=hw2
   refine WC.mono (way_w hM sn z0 z1 0 hsnN hz0 hz1 _ _ _ (HGOK.out.mono (by omega) fun a ha=>gput_lt ha)) ?_
   rintro _ ⟨v,g3,n3,rfl,hn3,hg3,hwv⟩
   have HG3:Hide (∀ q,q < n→g3 q=g q):=⟨fun q hq=>by rw [hg3 q (by omega),gput_lt (by omega)]; exact HG2.out q hq⟩
   have HWV:=Hide.mk hwv
   have h1v:=hwv.one
   clear hg3 hwv
   try simp (maxSteps:=999999) (disch:=first | assumption | omega | (simp; done) | fail) [Tryd.results21, *]
   refine ⟨v,_,_,_,_,⟨⟨rfl,rfl,rfl⟩,rfl,rfl⟩,by omega,HG3.out,Or.inr (Or.inr ⟨HSR.out,by omega,sOf z,HSEM.out,Or.inr ⟨hzs,rfl,Or.inr (Or.inr (Or.inl ⟨ho,rfl,y,y2,sOf z0,sOf z1,w,hys,HSEM0.out,HSEM1.out,HW1.out,?_⟩))⟩⟩)⟩
   have:=HWV.out
   rw [hw2] at this
   exact this.lo (by omega)
end Go.Ai
end
section
namespace Go.Ai
open Go.Proofs
set_option maxRecDepth 10000
set_option maxHeartbeats 40000000
theorem WordV.slice {g:Nat→Option Blk} {lo hi:Nat} {v:AV} {w:List Nat} (h:WordV g lo hi v w) : SliceV g hi v w.length (wordC w):=by
 rcases h with ⟨rfl,rfl⟩ | ⟨_,A,own,z,rfl,_,h4,h5⟩
 ·exact Or.inl ⟨rfl,rfl,Or.inl rfl⟩
 ·exact sliceV_all h5 h4
theorem before_w (l:List Nat) (hl:l.length≤1000000) (sv tv:AV) (g:Nat→Option Blk) (n:Nat) (hs:SliceV g n sv l.length (wordC l)) (ht:SliceV g n tv l.length (wordC l)) :
  WC 6 Tryd.prog 68 [sv,tv] ⟨.fn g,n⟩ fun r=>r=.ret (.lit (.int .i64 0)) ⟨.fn g,n⟩:=by
 have hlen:=@lenV Tryd.prog _ _ _ _ _ hs
 have hlen2:=@lenV Tryd.prog _ _ _ _ _ ht
 have h1s:=hs.one
 have h1t:=ht.one
 have HS:=Hide.mk hs
 have HT:=Hide.mk ht
 clear hs ht
 refine WC.enterP (noO_ok _ _) hG pl68 Tryd.func68 rfl (by decide +kernel) (Nat.le_of_ble_eq_true (by kernel_rfl)) ?_
 try simp (maxSteps:=999999) (disch:=first | assumption | omega | (simp; done) | fail) [Tryd.results68, *]
 refine LX.ind (fun m gf H'=>∃ k:Nat,k≤l.length∧m=l.length - k∧H'=⟨.fn g,n⟩∧gf 0=some sv∧gf 1=some tv∧gf 5=some (.lit (.int .i64 (k:Int)))) (m0:=l.length) ?_ ?_
 ·exact ⟨0,by omega,by omega,rfl,by simp,by simp,by simp⟩
 rintro m gf H' ⟨k,hk,rfl,rfl,w0,w1,w5⟩ ih
 refine LX.roundP (noO_ok _ _) hG pl68 (by decide +kernel) ?_
 by_cases hlt:k < l.length
 ·have hltI:(k:Int) < (l.length:Int):=by omega
  obtain ⟨a1,o1,ha1,hr1,hi1⟩:=HS.out.ia (P:=Tryd.prog) hlt 1
  obtain ⟨a2,o2,ha2,hr2,hi2⟩:=HT.out.ia (P:=Tryd.prog) hlt 1
  have hc1:=hr1.one (k:=k) (s:=1) (by rw [wordC_len]; exact hlt)
  have hc2:=hr2.one (k:=k) (s:=1) (by rw [wordC_len]; exact hlt)
  have hv:(wordC l)[k]'(by rw [wordC_len]; exact hlt)=.lit (.int .i64 ((l[k] : Nat) : Int)):=by
   have:=wordC_at l k
   rw [List.getElem?_eq_getElem (by rw [wordC_len]; exact hlt),List.getElem?_eq_getElem hlt] at this
   simpa using this
  rw [hv] at hc1 hc2
  rw [Nat.mul_one] at hi1 hi2
  generalize l[k]=q at hc1 hc2
  clear hv hr1 hr2
  try simp (maxSteps:=999999) (disch:=first | assumption | omega | (simp; done) | fail) [Tryd.results68, *]
  refine ih.out (l.length - (k+1)) _ _ (by omega) ⟨k+1,by omega,rfl,rfl,by simp [*],by simp [*],by simp⟩
 ·have hltI:¬(k:Int) < (l.length:Int):=by omega
  try simp (maxSteps:=999999) (disch:=first | assumption | omega | (simp; done) | fail) [Tryd.results68, *]
theorem iSame_w (l:List Nat) (hl:l.length≤1000000) (sv tv:AV) (g:Nat→Option Blk) (n:Nat) (hs:SliceV g n sv l.length (wordC l)) (ht:SliceV g n tv l.length (wordC l)) :
  WC 6 Tryd.prog 51 [sv,tv] ⟨.fn g,n⟩ fun r=>r=.ret (.lit (.int .i64 1)) ⟨.fn g,n⟩:=by
 have hlen:=@lenV Tryd.prog _ _ _ _ _ hs
 have hlen2:=@lenV Tryd.prog _ _ _ _ _ ht
 have h1s:=hs.one
 have h1t:=ht.one
 have HS:=Hide.mk hs
 have HT:=Hide.mk ht
 clear hs ht
 refine WC.enterP (noO_ok _ _) hG [] Tryd.func51 rfl (by decide +kernel) (Nat.le_of_ble_eq_true (by kernel_rfl)) ?_
 try simp (maxSteps:=999999) (disch:=first | assumption | omega | (simp; done) | fail) [Tryd.results51, *]
 refine WC.mono (before_w l hl _ _ _ _ HS.out HT.out) ?_
 rintro _ rfl
 try simp (maxSteps:=999999) (disch:=first | assumption | omega | (simp; done) | fail) [Tryd.results51, *]
 refine WC.mono (before_w l hl _ _ _ _ HT.out HS.out) ?_
 rintro _ rfl
 try simp (maxSteps:=999999) (disch:=first | assumption | omega | (simp; done) | fail) [Tryd.results51, *]
theorem word_w (l:List Nat) (hl:l.length≤1000000) (loop:Int) (sv tv:AV) (g:Nat→Option Blk) (lo n:Nat) (hs:WordV g lo n sv l) (ht:SliceV g n tv l.length (wordC l)) :
  WC 6 Tryd.prog 23 [sv,.lit (.int .i64 loop),.lit (.int .i64 0),.lit (.int .i64 loop),tv] ⟨.fn g,n⟩ fun r=>r=.ret (.lit (.int .i64 1)) ⟨.fn g,n⟩:=by
 have HS:=Hide.mk hs.slice
 have HT:=Hide.mk ht
 have h1t:=ht.one
 rcases hs with ⟨rfl,rfl⟩ | ⟨_,A,own,z,rfl,_,h4,h5⟩
 ·clear ht
  refine WC.enterP (noO_ok _ _) hG [] Tryd.func23 rfl (by decide +kernel) (Nat.le_of_ble_eq_true (by kernel_rfl)) ?_
  try simp (maxSteps:=999999) (disch:=first | assumption | omega | (simp; done) | fail) [Tryd.results23, *]
  refine WC.mono (iSame_w [] hl _ _ _ _ HS.out HT.out) ?_
  rintro _ rfl
  try simp (maxSteps:=999999) (disch:=first | assumption | omega | (simp; done) | fail) [Tryd.results23, *]
 ·clear ht h5
  refine WC.enterP (noO_ok _ _) hG [] Tryd.func23 rfl (by decide +kernel) (Nat.le_of_ble_eq_true (by kernel_rfl)) ?_
  try simp (maxSteps:=999999) (disch:=first | assumption | omega | (simp; done) | fail) [Tryd.results23, *]
  refine WC.mono (iSame_w l hl _ _ _ _ HS.out HT.out) ?_
  rintro _ rfl
  try simp (maxSteps:=999999) (disch:=first | assumption | omega | (simp; done) | fail) [Tryd.results23, *]
end Go.Ai
end
section
namespace Go.Ai
open Go.Proofs
set_option maxRecDepth 10000
set_option maxHeartbeats 40000000
theorem GwV.slice {g:Nat→Option Blk} {lo hi:Nat} {v:AV} {w:List Nat} (h:GwV g lo hi v w) : SliceV g hi v w.length (wordC w):=by
 rcases h with ⟨rfl,rfl⟩ | ⟨_,A,rfl,_,h4,h5⟩
 ·exact Or.inl ⟨rfl,rfl,Or.inl rfl⟩
 ·exact Or.inr ⟨A,0,h4,Or.inr ⟨0,rfl⟩,⟨_,true,1,h5,by simp,by simp⟩⟩
theorem GwV.lo {g:Nat→Option Blk} {lo lo' hi:Nat} {v:AV} {w:List Nat} (h:GwV g lo hi v w) (hl:lo'≤lo) : GwV g lo' hi v w:=by
 rcases h with h | ⟨h1,A,h2,h3,h4,h5⟩
 ·exact Or.inl h
 ·exact Or.inr ⟨h1,A,h2,by omega,h4,h5⟩
theorem GwV.len {P:Program} {g:Nat→Option Blk} {lo hi:Nat} {v:AV} {w:List Nat} (h:GwV g lo hi v w) : ∀ {H:Mem} {ev:Ev} {o:Oper} {c:Call} {e:TypeId},lenS P H ev o c (some (.slice e)) (some [v])=.val (.lit (.int .i64 w.length)) H:=by
 intro H ev o c e
 rcases h with ⟨rfl,rfl⟩ | ⟨_,A,rfl,_⟩ <;> rfl
theorem rows_at {P:Program} {g:Nat→Option Blk} {n:Nat} {R:List (List (Int×Int))} {rv:AV} {svs:List AV} (hrows:RowsE g n R svs) (hrv:SliceV g n rv R.length svs) {s:Nat} (hs:s < R.length) :
  ∃ sv a off,a < n∧SliceV g n sv R[s].length (rowC R[s])∧loadB (some (false,1)) (g a) (off+s)=some sv∧∀ {H:Mem} {ev:Ev} {o:Oper} {t:TypeId},iaS P H ev o t (some (none,1)) (some rv) (some (.lit (.int .i64 (s:Int))))=.val (.ptr a (off+s)) H:=by
 have hl:=hrows.len
 obtain ⟨a,off,ha,hrow,hia⟩:=hrv.ia (P:=P) hs 1
 rw [Nat.mul_one] at hia
 exact ⟨_,a,off,ha,hrows.at s hs (by omega),hrow.one (k:=s) (s:=1) (by omega),hia⟩
theorem to_at {P:Program} {g:Nat→Option Blk} {n:Nat} {row:List (Int×Int)} {sv:AV} (h:SliceV g n sv row.length (rowC row)) {j:Nat} (hj:j < row.length) :
  ∃ a off,a < n∧loadB (some (false,1)) (g a) (off+j * 2)=some (.lit (.int .i64 row[j].1))∧∀ {H:Mem} {ev:Ev} {o:Oper} {t:TypeId},iaS P H ev o t (some (none,2)) (some sv) (some (.lit (.int .i64 (j:Int))))=.val (.ptr a (off+j * 2)) H:=by
 obtain ⟨a,off,ha,hrow,hia⟩:=h.ia (P:=P) hj 2
 have hto:=hrow.one (k:=j * 2) (s:=1) (by rw [rowC_len]; omega)
 have hc1:=(rowC_one row j hj).1
 rw [List.getElem?_eq_getElem (by rw [rowC_len]; omega)] at hc1
 rw [Option.some.inj hc1] at hto
 exact ⟨a,off,ha,hto,hia⟩
theorem idx_first {l:List Nat} {t k:Nat} (h:l[k]?=some t) (hn:∀ i,i < k→l[i]?≠some t) : l.idxOf? t=some k:=by
 unfold List.idxOf?
 rw [List.findIdx?_eq_some_iff_getElem]
 have hk:k < l.length:=by
  rcases Nat.lt_or_ge k l.length with h' | h'
  ·exact h'
  ·rw [List.getElem?_eq_none h'] at h; cases h
 rw [List.getElem?_eq_getElem hk,Option.some.injEq] at h
 refine ⟨hk,by rw [h]; simp,fun j hj=>?_⟩
 intro hc
 refine hn j hj ?_
 rw [List.getElem?_eq_getElem (by omega)]
 exact congrArg some (eq_of_beq hc)
theorem idx_never {l:List Nat} {t:Nat} (hn:∀ i,i < l.length→l[i]?≠some t) : l.idxOf? t=none:=by
 rw [idx_none]
 intro hm
 obtain ⟨i,hi⟩:=List.mem_iff_getElem?.1 hm
 refine hn i ?_ hi
 rcases Nat.lt_or_ge i l.length with h' | h'
 ·exact h'
 ·rw [List.getElem?_eq_none h'] at hi; cases hi
theorem rLasso_w {M:MachM} (hM:M.ok) (s:Nat) (X:SetS) (hs:s < M.rows.length) (A:Nat) (g:Nat→Option Blk) (n:Nat) (ms:List AV) (hr:RepM g n M ms) (hA:g A=some (.cells (intC M.rows.length X) true 0)) (hAn:A < n) :
  WC 6 Tryd.prog 22 [.agg ms,.lit (.int .i64 s),.sl A 0 M.rows.length M.rows.length] ⟨.fn g,n⟩ fun r=>∃ v g' n',r=.ret (.tup [v,.lit (.int .i64 (lassoM M X (M.rows.length+1) s [] [s]).2)]) ⟨.fn g',n'⟩∧n≤n'∧(∀ q,q < n→g' q=g q)∧GwV g' n n' v (lassoM M X (M.rows.length+1) s [] [s]).1:=by
 obtain ⟨rv,svs,rfl,hrows,hrv⟩:=hr
 have h1r:=hrv.one
 have h1a:allOne [.lit (.int .i64 M.inp),.lit (.int .i64 M.out),rv]=true:=by simp [h1r]
 have h64:M.rows.length≤64:=hM.2.2.2.2.2.1
 have h16:M.inp≤16:=hM.2.1
 have h1i:1≤M.inp:=hM.1
 have HROW:=Hide.mk hrows
 have HRV:=Hide.mk hrv
 have HM:=Hide.mk hM
 have hcl:=intC_len M.rows.length X
 have HAT:=Hide.mk (intC_at M.rows.length X)
 generalize intC M.rows.length X=L at *
 clear hrows hrv hM
 generalize hLM:lassoM M X (M.rows.length+1) s [] [s]=LM
 have HLM:Hide (LM=lassoM M X (M.rows.length+1) s [] [s]):=⟨hLM.symm⟩
 clear hLM
 refine WC.enterP (noO_ok _ _) hG pl22 Tryd.func22 rfl (by decide +kernel) (Nat.le_of_ble_eq_true (by kernel_rfl)) ?_
 try simp (maxSteps:=999999) (disch:=first | assumption | omega | (simp; done) | fail) [Tryd.results22, *]
 refine LX.ind (fun m gf H'=>∃ (u n' B:Nat) (gL:Nat→Option Blk) (w seen:List Nat) (wv ov:AV),m+seen.length=M.rows.length+2∧H'=⟨.fn gL,n'⟩∧n+1≤n'∧(∀ q,q < n→gL q=g q) ∧
  gL n=some (.cells [.lit (.int .i64 M.inp),.lit (.int .i64 M.out),rv] true 0)∧GwV gL (n+1) n' wv w∧OrdV gL (n+1) n' B ov seen∧(∀ C,wv=.slq C 0 w.length 0→w≠[]→C≠B)∧SeenOK M.rows.length u w seen ∧
  LM=lassoM M X m u w seen∧gf 1=some (.lit (.int .i64 u))∧gf 2=some (.sl A 0 M.rows.length M.rows.length)∧gf 3=some (.ptr n 0)∧gf 8=some wv∧gf 9=some ov) (m0:=M.rows.length+1) ?_ ?_
 ·refine ⟨s,_,n+1,_,[],[s],.lit (.slice none 0 0),.sl (n+1) 0 1 1,by simp,rfl,by omega,fun q hq=>?_,?_,Or.inl ⟨rfl,rfl⟩,⟨by omega,by omega,Or.inl ⟨true,0,rfl,rfl,?_⟩⟩,fun _ _ h=>absurd rfl h,.start hs,HLM.out,by simp,by simp,by simp,by simp,by simp⟩
  ·simp (disch:=omega) only [gput_lt]
  ·simp (disch:=omega) only [gput_lt,gput_eq]
  ·simp only [gput_eq]; rfl
 rintro m gf H' ⟨u,n1,B,g1,w,seen,wv,ov,hm,rfl,hn1,hg1,e0,hwv,hov,hne,hsn,hlm,w1,w2,w3,w8,w9⟩ ih
 have HG1:=Hide.mk hg1
 have HWV:=Hide.mk hwv
 have HOV:=Hide.mk hov
 have HSN:=Hide.mk hsn
 have HLM1:=Hide.mk hlm
 have HNE:=Hide.mk hne
 have h1w:=hwv.one
 have hwlen:=@GwV.len Tryd.prog _ _ _ _ _ hwv
 have huN:u < M.rows.length:=hsn.lt u hsn.last
 have hsb:=hsn.bound
 have hwl:=hsn.len
 have hA1:g1 A=some (.cells L true 0):=(hg1 A hAn).trans hA
 clear hg1 hwv hov hne hsn hlm HLM
 obtain ⟨m,rfl⟩ : ∃ m',m=m'+1:=⟨m - 1,by omega⟩
 have hle:(w.length:Int)≤(M.rows.length:Int):=by omega
 have hinI:M.inp=(M.rows[u].length:Int):=(ok_row HM.out _ (List.getElem_mem huN)).symm
 have hrlt:=row_lt HM.out huN
 have hgd:M.rows.getD u []=M.rows[u]:=by rw [List.getD_eq_getElem?_getD,List.getElem?_eq_getElem huN]; rfl
 have hre:=ok_row_edge HM.out (List.getElem_mem huN)
 obtain ⟨sv,a2,off,ha2,hsv,hld2,hia2⟩:=rows_at (P:=Tryd.prog) HROW.out HRV.out huN
 have hld2' : loadB (some (false,1)) (g1 a2) (off+u)=some sv:=by rw [HG1.out a2 ha2]; exact hld2
 have hlm:=HLM1.out
 unfold lassoM at hlm
 rw [hgd] at hlm hrlt
 generalize M.rows[u]=row at hsv hinI hre hrlt hlm
 have HSV:=Hide.mk hsv
 have HRE:=Hide.mk hre
 have HRL:=Hide.mk hrlt
 have HLM2:=Hide.mk hlm
 have HIN:=Hide.mk hinI
 have hrl16:row.length≤16:=by omega
 clear hsv hre hrlt hlm hgd hld2
 refine LX.roundP (noO_ok _ _) hG pl22 (by decide +kernel) ?_
 try simp (maxSteps:=999999) (disch:=first | assumption | omega | (simp; done) | fail) [Tryd.results22, *]
 refine LX.ind (fun mm gf H'=>∃ (j:Nat) (bv:Int),j≤row.length∧mm=j∧H'=⟨.fn g1,n1⟩∧bv=(match firstIn X (row.drop j) j with | none=>(-1:Int) | some q=>(q.1:Int)) ∧ -1≤bv∧bv≤16 ∧
  gf 1=some (.lit (.int .i64 u))∧gf 2=some (.sl A 0 M.rows.length M.rows.length)∧gf 3=some (.ptr n 0)∧gf 8=some wv∧gf 9=some ov∧gf 10=some (.lit (.int .i64 bv))∧gf 11=some (.lit (.int .i64 ((j:Int) - 1)))) (m0:=row.length) ?_ ?_
 ·refine ⟨row.length,-1,by omega,rfl,rfl,?_,by omega,by omega,by simp [*],by simp [*],by simp [*],by simp [*],by simp [*],by simp,?_⟩
  ·rw [List.drop_length]; rfl
  ·rw [← HIN.out]; simp
 rintro mm gf H' ⟨j,bv,hj,rfl,rfl,hbv,hb1,hb2,x1,x2,x3,x8,x9,x10,x11⟩ ihj
 have HBV:=Hide.mk hbv
 clear hbv
 refine LX.roundP (noO_ok _ _) hG pl22 (by decide +kernel) ?_
 by_cases hj0:0 < mm
 ·obtain ⟨j,rfl⟩ : ∃ j',mm=j'+1:=⟨mm - 1,by omega⟩
  have hji:((j+1:Nat) : Int) - 1=(j:Int):=by omega
  rw [hji] at x11
  have hjl:j < row.length:=by omega
  obtain ⟨a3,off3,ha3,hld3,hia3⟩:=to_at (P:=Tryd.prog) HSV.out hjl
  have hld3' : loadB (some (false,1)) (g1 a3) (off3+j * 2)=some (.lit (.int .i64 row[j].1)):=by rw [HG1.out a3 ha3]; exact hld3
  have hre:=HRE.out _ (List.getElem_mem hjl)
  have hrt:=HRL.out _ (List.getElem_mem hjl)
  have hcons:Hide (firstIn X (row.drop j) j=if 0≤row[j].1∧X row[j].1.toNat=true then some (j,row[j].1.toNat) else firstIn X (row.drop (j+1)) (j+1)):=⟨by rw [List.drop_eq_getElem_cons hjl,firstIn_cons]⟩
  generalize row[j]=e at hld3' hre hrt hcons
  obtain ⟨to,out⟩:=e
  dsimp only at hld3' hre hrt hcons
  clear hld3 hji
  by_cases ht:0≤to
  ·obtain ⟨t,rfl⟩ : ∃ t:Nat,to=t:=⟨to.toNat,by omega⟩
   have htl:t < M.rows.length:=by have:=hrt ht; omega
   have hat:=HAT.out t
   rw [if_pos htl] at hat
   have htL:t < L.length:=by omega
   have hget:L[t]'htL=.lit (.int .i64 (b01 (X t))):=by
    rw [List.getElem?_eq_getElem htL] at hat
    exact Option.some.inj hat
   rw [Int.toNat_natCast] at hcons
   clear hat hre hrt
   cases hxt:X t with
   | true =>
    rw [hxt] at hget
    change L[t]'htL=.lit (.int .i64 1) at hget
    try simp (maxSteps:=999999) (disch:=first | assumption | omega | (simp; done) | fail) [Tryd.results22, *]
    refine ihj.out j _ _ (by omega) ⟨j,j,by omega,rfl,rfl,?_,by omega,by omega,by simp [*],by simp [*],by simp [*],by simp [*],by simp [*],by simp,by simp⟩
    rw [hcons.out,if_pos ⟨ht,hxt⟩]
   | false =>
    rw [hxt] at hget
    change L[t]'htL=.lit (.int .i64 0) at hget
    try simp (maxSteps:=999999) (disch:=first | assumption | omega | (simp; done) | fail) [Tryd.results22, *]
    refine ihj.out j _ _ (by omega) ⟨j,bv,by omega,rfl,rfl,?_,by omega,by omega,by simp [*],by simp [*],by simp [*],by simp [*],by simp [*],by simp [*],by simp⟩
    rw [hcons.out,if_neg (by rw [hxt]; simp)]
    exact HBV.out
  ·try simp (maxSteps:=999999) (disch:=first | assumption | omega | (simp; done) | fail) [Tryd.results22, *]
   refine ihj.out j _ _ (by omega) ⟨j,bv,by omega,rfl,rfl,?_,by omega,by omega,by simp [*],by simp [*],by simp [*],by simp [*],by simp [*],by simp [*],by simp⟩
   rw [hcons.out,if_neg (fun h=>ht h.1)]
   exact HBV.out
 ·have hmm:mm=0:=by omega
  subst hmm
  rw [show ((0:Nat) : Int) - 1 = -1 from rfl] at x11
  clear hj hj0
  have hbv0:=HBV.out
  rw [List.drop_zero] at hbv0
  cases hfi:firstIn X row 0 with
  | none =>
   rw [hfi] at hbv0
   replace hbv0:bv = -1:=hbv0
   subst hbv0
   have hlm:=HLM2.out
   rw [hfi] at hlm
   have HLM3:=Hide.mk hlm
   clear hlm hfi HBV
   try simp (maxSteps:=999999) (disch:=first | assumption | omega | (simp; done) | fail) [Tryd.results22, *]
   refine ⟨wv,g1,n1,⟨⟨rfl,?_⟩,rfl,rfl⟩,by omega,HG1.out,?_⟩
   ·rw [HLM3.out]
   ·rw [HLM3.out]; exact HWV.out.lo (by omega)
  | some q =>
   rw [hfi] at hbv0
   replace hbv0:bv=(q.1:Int):=hbv0
   subst hbv0
   have hsp:=firstIn_spec X row 0
   rw [hfi] at hsp
   obtain ⟨_,⟨e,he1,he2,he3⟩,hxq⟩:=hsp
   rw [Nat.sub_zero] at he1
   have hlm:=HLM2.out
   rw [hfi] at hlm
   have HLM3:=Hide.mk hlm
   obtain ⟨qi,qt⟩:=q
   dsimp only at he1 he3 hxq hb1 hb2 HLM3 x10
   have hql:qi < row.length:=by
    rcases Nat.lt_or_ge qi row.length with h' | h'
    ·exact h'
    ·rw [List.getElem?_eq_none h'] at he1; cases he1
   have hqe:row[qi].1=(qt:Int):=by
    rw [List.getElem?_eq_getElem hql,Option.some.injEq] at he1
    rw [he1]; omega
   have hqN:qt < M.rows.length:=by
    have:=HRL.out _ (List.getElem_mem hql) (by rw [hqe]; omega)
    rw [hqe] at this; omega
   obtain ⟨a3,off3,ha3,hld3,hia3⟩:=to_at (P:=Tryd.prog) HSV.out hql
   rw [hqe] at hld3
   clear hlm hfi HBV he1 he2 he3 hqe
   have hBlt:B < n1:=HOV.out.2.1
   have hB1:n+1≤B:=HOV.out.1
   have HBN:Hide (B≠n1+1):=⟨by omega⟩
   clear hBlt hB1
   have hld3' : loadB (some (false,1)) (g1 a3) (off3+qi * 2)=some (.lit (.int .i64 (qt:Int))):=by rw [HG1.out a3 ha3]; exact hld3
   have hsl64:seen.length≤64:=by omega
   have hw64:w.length≤64:=by omega
   clear hwl hle
   have hqi0:¬((qi:Int) < 0):=by omega
   rcases HWV.out with ⟨rfl,rfl⟩ | ⟨hwne,C,rfl,hC1,hC2,hgC⟩
   ·try simp (maxSteps:=999999) (disch:=first | assumption | omega | (simp; done) | fail) [Tryd.results22, *]
    refine LX.ind (fun mm gf H'=>∃ (k:Nat) (gL:Nat→Option Blk),k≤seen.length∧mm=seen.length - k∧H'=⟨.fn gL,n1+1+1⟩∧(∀ q,q < n→gL q=g q)∧gL n=some (.cells [.lit (.int .i64 M.inp),.lit (.int .i64 M.out),rv] true 0) ∧
     gL (n1+1)=some (.cells (wordC [qi]) true 1)∧OrdV gL (n+1) (n1+1+1) B ov seen∧(∀ i,i < k→seen[i]?≠some qt) ∧
     gf 1=some (.lit (.int .i64 qt))∧gf 2=some (.sl A 0 M.rows.length M.rows.length)∧gf 3=some (.ptr n 0)∧gf 8=some (.slq (n1+1) 0 1 0)∧gf 9=some ov∧gf 13=some (.lit (.int .i64 (k:Int)))) (m0:=seen.length) ?_ ?_
    ·refine ⟨0,_,by omega,by omega,rfl,fun q hq=>?_,?_,?_,HOV.out.keep (by omega) fun _ h=>by rw [gput_lt (by omega),gput_lt (by omega)],fun i hi=>absurd hi (by omega),by simp [*],by simp [*],by simp [*],by simp,by simp [*],by simp⟩
     ·rw [gput_lt (by omega),gput_lt (by omega)]; exact HG1.out q hq
     ·rw [gput_lt (by omega),gput_lt (by omega)]; exact e0
     ·simp only [gput_eq]; rfl
    rintro mm gf H' ⟨k,g2,hk,rfl,rfl,hg2,f0,hgw,hov2,hnf,z1,z2,z3,z8,z9,z13⟩ ihk
    have HG2:=Hide.mk hg2
    have HOV2:=Hide.mk hov2
    have HNF:=Hide.mk hnf
    have HGW:=Hide.mk hgw
    clear hg2 hov2 hnf hgw
    have hlen:∀ {H:Mem} {ev:Ev} {o:Oper} {c:Call} {e:TypeId},lenS Tryd.prog H ev o c (some (.slice e)) (some [ov])=.val (.lit (.int .i64 seen.length)) H:=by
     intro H ev o c e
     obtain ⟨_,_,⟨_,_,h1,rfl,_⟩ | ⟨rfl,_⟩⟩:=HOV2.out
     ·rw [h1]; rfl
     ·rfl
    have h1o:oneC ov=true:=by
     obtain ⟨_,_,⟨_,_,h1,rfl,_⟩ | ⟨rfl,_⟩⟩:=HOV2.out <;> rfl
    refine LX.roundP (noO_ok _ _) hG pl22 (by decide +kernel) ?_
    by_cases hkl:k < seen.length
    ·have hklI:(k:Int) < (seen.length:Int):=by omega
     have hia:∃ own z,g2 B=some (.cells (wordC seen) own z)∧∀ {H:Mem} {ev:Ev} {o:Oper} {t:TypeId},iaS Tryd.prog H ev o t (some (none,1)) (some ov) (some (.lit (.int .i64 (k:Int))))=.val (.ptr B k) H:=by
      obtain ⟨_,_,⟨own,z,h1,rfl,h2⟩ | ⟨rfl,h2⟩⟩:=HOV2.out
      ·refine ⟨own,z,h2,?_⟩
       intro H ev o t
       rw [iaS_sl (by omega) (by omega)]
       simp
      ·refine ⟨true,1,h2,?_⟩
       intro H ev o t
       rw [iaS_slq (by omega) (by omega)]
       simp
     obtain ⟨own,z,hgB,hia⟩:=hia
     have hkw:k < (wordC seen).length:=by rw [wordC_len]; exact hkl
     have hcell:=wordC_at seen k
     rw [List.getElem?_eq_getElem hkw,List.getElem?_eq_getElem hkl,Option.map_some,Option.some.injEq] at hcell
     have HSK:Hide (seen[k]?=some seen[k]):=⟨List.getElem?_eq_getElem hkl⟩
     generalize hL2:wordC seen=L2 at *
     generalize seen[k]=sk at hcell HSK
     clear hL2
     by_cases hsk:sk=qt
     ·subst hsk
      have hidx:=idx_first HSK.out HNF.out
      have hlm:=HLM3.out
      rw [hidx] at hlm
      have HLM4:=Hide.mk hlm
      clear hlm hidx
      try simp (maxSteps:=999999) (disch:=first | assumption | omega | (simp; done) | fail) [Tryd.results22, *]
      refine ⟨_,g2,n1+1+1,⟨⟨rfl,?_⟩,rfl,rfl⟩,by omega,HG2.out,?_⟩
      ·rw [HLM4.out]
      ·rw [HLM4.out]; exact Or.inr ⟨by simp,n1+1,rfl,by omega,by omega,HGW.out⟩
     ·have hskI:¬((sk:Int)=(qt:Int)):=by omega
      try simp (maxSteps:=999999) (disch:=first | assumption | omega | (simp; done) | fail) [Tryd.results22, *]
      refine ihk.out (seen.length - (k+1)) _ _ (by omega) ⟨k+1,g2,by omega,rfl,rfl,HG2.out,f0,HGW.out,HOV2.out,fun i hi=>?_,by simp [*],by simp [*],by simp [*],by simp [*],by simp [*],by simp⟩
      by_cases e:i=k
      ·subst e; rw [HSK.out]; intro h; exact hsk (Option.some.inj h)
      ·exact HNF.out i (by omega)
    ·have hklI:¬(k:Int) < (seen.length:Int):=by omega
     have hidx:=idx_never (l:=seen) (t:=qt) (fun i hi=>HNF.out i (by omega))
     have hlm:=HLM3.out
     rw [hidx] at hlm
     have HLM4:=Hide.mk hlm
     have HID:=Hide.mk ((idx_none _ _).1 hidx)
     clear hlm hidx
     have hwls:(wordC seen).length=seen.length:=wordC_len seen
     have h1ws:allOne (wordC seen)=true:=wordC_one seen
     have h0:=HOV2.out
     obtain ⟨hB1,hB2,h0⟩:=h0
     rcases h0 with ⟨own2,zz2,hl1,rfl,hgB2⟩ | ⟨rfl,hgB2⟩
     ·have hk1:¬((k:Int) < 1):=by omega
      have HL1:=Hide.mk hl1
      have hwl1:(wordC seen).length=1:=by omega
      clear hklI hkl hk hwls hl1 hlen
      try simp (maxSteps:=999999) (disch:=first | assumption | omega | (simp; done) | fail) [Tryd.results22, *]
      have hl1:=HL1.out
      refine ih.out m _ _ (by omega) ⟨qt,_,n1+1+1+1,_,[qi],seen++[qt],.slq (n1+1) 0 1 0,.slq (n1+1+1+1) 0 2 0,by rw [List.length_append]; simp only [List.length_singleton]; omega,rfl,by omega,fun q hq=>?_,?_,Or.inr ⟨by simp,n1+1,rfl,by omega,by omega,?_⟩,⟨by omega,by omega,Or.inr ⟨?_,?_⟩⟩,fun C hC _=>by have:=(AV.slq.inj hC).1; omega,HSN.out.snoc hqN HID.out,HLM4.out,by simp [*],by simp [*],by simp [*],by simp [*],by simp⟩
      ·rw [gput_lt (by omega),gput_lt (by omega)]; exact HG2.out q hq
      ·rw [gput_lt (by omega),gput_lt (by omega)]; exact f0
      ·rw [gput_lt (by omega),gput_lt (by omega)]; exact HGW.out
      ·rw [List.length_append,hl1]; rfl
      ·simp only [gput_eq]; rw [wordC_snoc,List.take_of_length_le (by omega)]
     ·have hBn:B≠n1+1:=HBN.out
      try simp (maxSteps:=999999) (disch:=first | assumption | omega | (simp; done) | fail) [Tryd.results22, *]
      refine ih.out m _ _ (by omega) ⟨qt,_,n1+1+1+1,_,[qi],seen++[qt],.slq (n1+1) 0 1 0,.slq (n1+1+1+1) 0 (seen.length+1) 0,by rw [List.length_append]; simp only [List.length_singleton]; omega,rfl,by omega,fun q hq=>?_,?_,Or.inr ⟨by simp,n1+1,rfl,by omega,by omega,?_⟩,⟨by omega,by omega,Or.inr ⟨?_,?_⟩⟩,fun C hC _=>by have:=(AV.slq.inj hC).1; omega,HSN.out.snoc hqN HID.out,HLM4.out,by simp [*],by simp [*],by simp [*],by simp [*],by simp⟩
      ·rw [gput_lt (by omega),gput_ne (by omega),gput_lt (by omega)]; exact HG2.out q hq
      ·rw [gput_lt (by omega),gput_ne (by omega),gput_lt (by omega)]; exact f0
      ·rw [gput_lt (by omega),gput_ne (fun e=>hBn e.symm),gput_lt (by omega)]; exact HGW.out
      ·rw [List.length_append]; rfl
      ·simp only [gput_eq]; rw [wordC_snoc]
   ·have HCB:Hide (C≠B):=⟨HNE.out C rfl hwne⟩
    have h1ww:allOne (wordC w)=true:=wordC_one w
    have hwl' : (wordC w).length=w.length:=wordC_len w
    have hCn:n+1≤C:=hC1
    try simp (maxSteps:=999999) (disch:=first | assumption | omega | (simp; done) | fail) [Tryd.results22, *]
    refine LX.ind (fun mm gf H'=>∃ (k:Nat) (gL:Nat→Option Blk),k≤seen.length∧mm=seen.length - k∧H'=⟨.fn gL,n1+1+1⟩∧(∀ q,q < n→gL q=g q)∧gL n=some (.cells [.lit (.int .i64 M.inp),.lit (.int .i64 M.out),rv] true 0) ∧
     gL (n1+1)=some (.cells (wordC (w++[qi])) true 1)∧OrdV gL (n+1) (n1+1+1) B ov seen∧(∀ i,i < k→seen[i]?≠some qt) ∧
     gf 1=some (.lit (.int .i64 qt))∧gf 2=some (.sl A 0 M.rows.length M.rows.length)∧gf 3=some (.ptr n 0)∧gf 8=some (.slq (n1+1) 0 (w.length+1) 0)∧gf 9=some ov∧gf 13=some (.lit (.int .i64 (k:Int)))) (m0:=seen.length) ?_ ?_
    ·refine ⟨0,_,by omega,by omega,rfl,fun q hq=>?_,?_,?_,HOV.out.keep (by omega) fun _ h=>by rw [gput_lt (by omega),gput_ne (fun e=>HCB.out e.symm),gput_lt (by omega)],fun i hi=>absurd hi (by omega),by simp [*],by simp [*],by simp [*],by simp,by simp [*],by simp⟩
     ·rw [gput_lt (by omega),gput_ne (by omega),gput_lt (by omega)]; exact HG1.out q hq
     ·rw [gput_lt (by omega),gput_ne (by omega),gput_lt (by omega)]; exact e0
     ·simp only [gput_eq]; rw [wordC_snoc]
    rintro mm gf H' ⟨k,g2,hk,rfl,rfl,hg2,f0,hgw,hov2,hnf,z1,z2,z3,z8,z9,z13⟩ ihk
    have HG2:=Hide.mk hg2
    have HOV2:=Hide.mk hov2
    have HNF:=Hide.mk hnf
    have HGW:=Hide.mk hgw
    clear hg2 hov2 hnf hgw
    have hlen:∀ {H:Mem} {ev:Ev} {o:Oper} {c:Call} {e:TypeId},lenS Tryd.prog H ev o c (some (.slice e)) (some [ov])=.val (.lit (.int .i64 seen.length)) H:=by
     intro H ev o c e
     obtain ⟨_,_,⟨_,_,h1,rfl,_⟩ | ⟨rfl,_⟩⟩:=HOV2.out
     ·rw [h1]; rfl
     ·rfl
    have h1o:oneC ov=true:=by
     obtain ⟨_,_,⟨_,_,h1,rfl,_⟩ | ⟨rfl,_⟩⟩:=HOV2.out <;> rfl
    refine LX.roundP (noO_ok _ _) hG pl22 (by decide +kernel) ?_
    by_cases hkl:k < seen.length
    ·have hklI:(k:Int) < (seen.length:Int):=by omega
     have hia:∃ own z,g2 B=some (.cells (wordC seen) own z)∧∀ {H:Mem} {ev:Ev} {o:Oper} {t:TypeId},iaS Tryd.prog H ev o t (some (none,1)) (some ov) (some (.lit (.int .i64 (k:Int))))=.val (.ptr B k) H:=by
      obtain ⟨_,_,⟨own,z,h1,rfl,h2⟩ | ⟨rfl,h2⟩⟩:=HOV2.out
      ·refine ⟨own,z,h2,?_⟩
       intro H ev o t
       rw [iaS_sl (by omega) (by omega)]
       simp
      ·refine ⟨true,1,h2,?_⟩
       intro H ev o t
       rw [iaS_slq (by omega) (by omega)]
       simp
     obtain ⟨own,z,hgB,hia⟩:=hia
     have hkw:k < (wordC seen).length:=by rw [wordC_len]; exact hkl
     have hcell:=wordC_at seen k
     rw [List.getElem?_eq_getElem hkw,List.getElem?_eq_getElem hkl,Option.map_some,Option.some.injEq] at hcell
     have HSK:Hide (seen[k]?=some seen[k]):=⟨List.getElem?_eq_getElem hkl⟩
     generalize hL2:wordC seen=L2 at *
     generalize seen[k]=sk at hcell HSK
     clear hL2
     by_cases hsk:sk=qt
     ·subst hsk
      have hidx:=idx_first HSK.out HNF.out
      have hlm:=HLM3.out
      rw [hidx] at hlm
      have HLM4:=Hide.mk hlm
      clear hlm hidx
      try simp (maxSteps:=999999) (disch:=first | assumption | omega | (simp; done) | fail) [Tryd.results22, *]
      refine ⟨_,g2,n1+1+1,⟨⟨rfl,?_⟩,rfl,rfl⟩,by omega,HG2.out,?_⟩
      ·rw [HLM4.out]
      ·rw [HLM4.out]; exact Or.inr ⟨by simp,n1+1,by rw [List.length_append]; rfl,by omega,by omega,HGW.out⟩
     ·have hskI:¬((sk:Int)=(qt:Int)):=by omega
      try simp (maxSteps:=999999) (disch:=first | assumption | omega | (simp; done) | fail) [Tryd.results22, *]
      refine ihk.out (seen.length - (k+1)) _ _ (by omega) ⟨k+1,g2,by omega,rfl,rfl,HG2.out,f0,HGW.out,HOV2.out,fun i hi=>?_,by simp [*],by simp [*],by simp [*],by simp [*],by simp [*],by simp⟩
      by_cases e:i=k
      ·subst e; rw [HSK.out]; intro h; exact hsk (Option.some.inj h)
      ·exact HNF.out i (by omega)
    ·have hklI:¬(k:Int) < (seen.length:Int):=by omega
     have hidx:=idx_never (l:=seen) (t:=qt) (fun i hi=>HNF.out i (by omega))
     have hlm:=HLM3.out
     rw [hidx] at hlm
     have HLM4:=Hide.mk hlm
     have HID:=Hide.mk ((idx_none _ _).1 hidx)
     clear hlm hidx
     have hwls:(wordC seen).length=seen.length:=wordC_len seen
     have h1ws:allOne (wordC seen)=true:=wordC_one seen
     have h0:=HOV2.out
     obtain ⟨hB1,hB2,h0⟩:=h0
     rcases h0 with ⟨own2,zz2,hl1,rfl,hgB2⟩ | ⟨rfl,hgB2⟩
     ·have hk1:¬((k:Int) < 1):=by omega
      have HL1:=Hide.mk hl1
      have hwl1:(wordC seen).length=1:=by omega
      clear hklI hkl hk hwls hl1 hlen
      try simp (maxSteps:=999999) (disch:=first | assumption | omega | (simp; done) | fail) [Tryd.results22, *]
      have hl1:=HL1.out
      refine ih.out m _ _ (by omega) ⟨qt,_,n1+1+1+1,_,(w++[qi]),seen++[qt],.slq (n1+1) 0 (w.length+1) 0,.slq (n1+1+1+1) 0 2 0,by rw [List.length_append]; simp only [List.length_singleton]; omega,rfl,by omega,fun q hq=>?_,?_,Or.inr ⟨by simp,n1+1,by rw [List.length_append]; rfl,by omega,by omega,?_⟩,⟨by omega,by omega,Or.inr ⟨?_,?_⟩⟩,fun C hC _=>by have:=(AV.slq.inj hC).1; omega,HSN.out.snoc hqN HID.out,HLM4.out,by simp [*],by simp [*],by simp [*],by simp [*],by simp⟩
      ·rw [gput_lt (by omega),gput_lt (by omega)]; exact HG2.out q hq
      ·rw [gput_lt (by omega),gput_lt (by omega)]; exact f0
      ·rw [gput_lt (by omega),gput_lt (by omega)]; exact HGW.out
      ·rw [List.length_append,hl1]; rfl
      ·simp only [gput_eq]; rw [wordC_snoc,List.take_of_length_le (by omega)]
     ·have hBn:B≠n1+1:=HBN.out
      try simp (maxSteps:=999999) (disch:=first | assumption | omega | (simp; done) | fail) [Tryd.results22, *]
      refine ih.out m _ _ (by omega) ⟨qt,_,n1+1+1+1,_,(w++[qi]),seen++[qt],.slq (n1+1) 0 (w.length+1) 0,.slq (n1+1+1+1) 0 (seen.length+1) 0,by rw [List.length_append]; simp only [List.length_singleton]; omega,rfl,by omega,fun q hq=>?_,?_,Or.inr ⟨by simp,n1+1,by rw [List.length_append]; rfl,by omega,by omega,?_⟩,⟨by omega,by omega,Or.inr ⟨?_,?_⟩⟩,fun C hC _=>by have:=(AV.slq.inj hC).1; omega,HSN.out.snoc hqN HID.out,HLM4.out,by simp [*],by simp [*],by simp [*],by simp [*],by simp⟩
      ·rw [gput_lt (by omega),gput_ne (by omega),gput_lt (by omega)]; exact HG2.out q hq
      ·rw [gput_lt (by omega),gput_ne (by omega),gput_lt (by omega)]; exact f0
      ·rw [gput_lt (by omega),gput_ne (fun e=>hBn e.symm),gput_lt (by omega)]; exact HGW.out
      ·rw [List.length_append]; rfl
      ·simp only [gput_eq]; rw [wordC_snoc]
end Go.Ai
end
