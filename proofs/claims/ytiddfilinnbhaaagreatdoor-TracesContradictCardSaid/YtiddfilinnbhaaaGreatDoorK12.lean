/- A small verified interpreter over names, its proofs, and what was proved with it. No condition. -/
import Derived.Test.YtiddfilinnbhaaaGreatDoorK11
set_option linter.all false
set_option linter.deprecated false
section
namespace Go.Ai
open Go.Proofs
set_option maxRecDepth 10000
set_option maxHeartbeats 40000000
theorem LogOK.app {I O O2:Int} {a b:List (List Int×List Int)} (h:LogOK I O a) (h2:LogOK I O2 b) (hO:O2≤O) (hl:a.length+b.length≤40) : LogOK I O (a++b):=by
 refine ⟨by rw [List.length_append]; exact hl,h.i1,h.i2,h.o1,h.o2,fun t ht=>?_,fun t ht=>?_⟩
 ·rcases List.mem_append.1 ht with h3 | h3
  ·exact h.wl t h3
  ·exact h2.wl t h3
 ·rcases List.mem_append.1 ht with h3 | h3
  ·exact h.ok t h3
  ·obtain ⟨e1,e2,e3⟩:=h2.lens h3
   refine validB_of e1 e2 ?_
   have:∀ (r:List Int) (p:Bool),okR O2 p r=true→okR O p r=true:=by
    intro r
    induction r with
    | nil=>intro p h; exact h
    | cons o r ih =>
     intro p h
     obtain ⟨q1,q2,q3,q4⟩:=okR_inv h
     exact okR_cons q1 (by omega) q3 (ih _ q4)
   exact this _ _ e3
theorem LogOK.takes {I O:Int} {b:List (List Int×List Int)} (h:LogOK I O b) (k:Nat) : LogOK I O (b.take k) :=
 ⟨by rw [List.length_take]; have:=h.len; omega,h.i1,h.i2,h.o1,h.o2,fun t ht=>h.wl t (List.mem_of_mem_take ht),fun t ht=>h.ok t (List.mem_of_mem_take ht)⟩
theorem RowsF.snoc2 {g g' : Nat→Option Blk} {lo n B n' B' : Nat} {ts:List (List Int×List Int)} {cs:List AV} (h:RowsF g lo n B ts cs) (h2:n≤n') (hB:n≤B') (hg:∀ a,lo≤a→a < n→a≠B→g' a=g a) {t:List Int×List Int} {s1 s2:AV} (h1:SafeW g' lo n' B' t.1 s1) (h3:SafeW g' lo n' B' t.2 s2) : RowsF g' lo n' B' (ts++[t]) (cs++[s1,s2]) :=
 (h.keep (Nat.le_refl _) h2 (.inl hB) hg).snoc h1 h3
theorem CapV.grow {g:Nat→Option Blk} {lo n B len sz:Nat} {sv:AV} {cs:List AV} (h:GrowV g lo n B sv len sz cs) : CapV sv:=by
 intro a o k c e
 rcases h with ⟨_,_,h3⟩ | ⟨_,h3,_⟩
 ·rw [h3] at e; cases e
 ·rw [h3] at e; cases e
theorem LogF.push {g gF:Nat→Option Blk} {lo n B n' B' : Nat} {ts:List (List Int×List Int)} {cs:List AV} {sv:AV} (hgr:GrowV g lo n B sv ts.length 2 cs) (hrf:RowsF g lo n B ts cs) (h2:n≤B') (h3:B' < n') (hlo:lo≤B') (hg:∀ a,lo≤a→a < n→a≠B→gF a=g a) {t:List Int×List Int} {s1 s2:AV} (h4:SafeW gF lo n' B' t.1 s1) (h5:SafeW gF lo n' B' t.2 s2) (hB:gF B'=some (.cells (cs++[s1,s2]) true 2)) : LogF gF lo n' B' (ts++[t]) (.slq B' 0 (ts.length+1) 0):=by
 refine ⟨cs++[s1,s2],?_,hrf.snoc2 (by omega) h2 hg h4 h5⟩
 rw [List.length_append,List.length_singleton]
 exact .mk hB hlo h3 (by rw [List.length_append,hrf.1]; simp; omega)
theorem LogF.norm {g:Nat→Option Blk} {lo n B:Nat} {ts:List (List Int×List Int)} {sv:AV} (h:LogF g lo n B ts sv) (hn:0 < n) : ∃ B0,LogF g lo n B0 ts sv∧B0 < n:=by
 obtain ⟨cs,h1,h2⟩:=h
 rcases h1 with ⟨k1,k2,k3⟩ | ⟨k1,k2,k3,k4,k5,k6⟩
 ·have e:ts=[]:=List.length_eq_zero_iff.1 k1
  subst e k2
  exact ⟨0,⟨[],.inl ⟨rfl,rfl,k3⟩,.nil⟩,hn⟩
 ·exact ⟨B,⟨cs,.inr ⟨k1,k2,k3,k4,k5,k6⟩,h2⟩,k4⟩
theorem LogF.at {g:Nat→Option Blk} {lo n B:Nat} {ts:List (List Int×List Int)} {sv:AV} (h:LogF g lo n B ts sv) {k:Nat} (hk:k < ts.length) : ∃ a off s1 s2,AtT g n sv k ts[k] a off s1 s2∧SafeW g lo n B ts[k].1 s1∧SafeW g lo n B ts[k].2 s2:=by
 obtain ⟨cs,h1,h2⟩:=h
 obtain ⟨s1,s2,e1,e2,r1,r2⟩:=h2.2 k hk
 have h3:SliceV g n sv ts.length cs:=SliceV.ext (Nat.le_refl _) (fun a x _ hx=>by
  split at hx
  ·exact hx
  ·cases hx) h1.slice
 obtain ⟨a,off,ha,hrow,hia⟩:=SliceV.ia (P:=Tryz.prog) h3 hk 2
 have hl:=h2.1
 refine ⟨a,off,s1,s2,⟨ha,hia,?_,?_,?_,r1.rep,r2.rep⟩,r1,r2⟩
 ·rw [hrow.agg (k:=k * 2) (s:=2) (by omega),drop2 e1 e2]
 ·have:=hrow.one (k:=k * 2) (s:=1) (by omega)
  rwa [(List.getElem?_eq_some_iff.1 e1).2] at this
 ·have:=hrow.one (k:=k * 2+1) (s:=1) (by omega)
  rw [(List.getElem?_eq_some_iff.1 e2).2] at this
  rw [Nat.add_assoc]; exact this
def mask (c:Nat) (g:Nat→Option Blk) : Nat→Option Blk:=fun a=>if a=c then none else g a
theorem mask_ne {c a:Nat} {g:Nat→Option Blk} (h:a≠c) : mask c g a=g a:=if_neg h
theorem mask_some {c a:Nat} {g:Nat→Option Blk} {x:Blk} (h:mask c g a=some x) : g a=some x:=by
 unfold mask at h
 split at h
 ·cases h
 ·exact h
theorem SafeW.ext {g g' : Nat→Option Blk} {lo n B:Nat} {w:List Int} {sv:AV} (h:SafeW g lo n B w sv) (hg:∀ a x,g a=some x→g' a=some x) : SafeW g' lo n B w sv :=
 let ⟨gk,h1,h3⟩:=h; ⟨gk,fun a z hz=>let ⟨e1,e2⟩:=h1 a z hz; ⟨hg a z e1,e2⟩,h3⟩
theorem LogF.ext {g g' : Nat→Option Blk} {lo n B:Nat} {ts:List (List Int×List Int)} {sv:AV} (h:LogF g lo n B ts sv) (hg:∀ a x,g a=some x→g' a=some x) : LogF g' lo n B ts sv:=by
 obtain ⟨cs,h1,h2⟩:=h
 refine ⟨cs,h1.imp id fun ⟨k1,k2,k3,k4,k5,k6⟩=>⟨k1,k2,k3,k4,hg _ _ k5,k6⟩,h2.1,fun k hk=>?_⟩
 obtain ⟨s1,s2,e1,e2,e3,e4⟩:=h2.2 k hk
 exact ⟨s1,s2,e1,e2,e3.ext hg,e4.ext hg⟩
theorem tracesContradict_w {st inp out:Nat} {part:Bool} {es:List Nat} {ev:AV} {ws:List (List Nat)} {wv:AV} (ia ib ic:Nat) (hia:ia < 256) (hib:ib < 256) (hic:ic < 256) {st2 inp2 out2:Nat} {part2:Bool} {es2:List Nat} {ev2:AV} {ws2:List (List Nat)} {wv2:AV} (ia2 ib2 ic2:Nat) (hia2:ia2 < 256) (hib2:ib2 < 256) (hic2:ic2 < 256) (m:Int) (g:Nat→Option Blk) (n:Nat) (hI:InG g n st inp out es ev ws wv) (hI2:InG g n st2 inp2 out2 es2 ev2 ws2 wv2) (h0:g 0=some (.cells [.lit (.int .i64 m)] false 0)) (hn0:3≤n) :
  WC 3 Tryz.prog 5 [.agg [.lit (.int .u8 st),.lit (.int .u8 inp),.lit (.int .u8 out),.lit (.bool part),ev,wv,.lit (.int .u8 ia),.lit (.int .u8 ib),.lit (.int .u8 ic)],.agg [.lit (.int .u8 st2),.lit (.int .u8 inp2),.lit (.int .u8 out2),.lit (.bool part2),ev2,wv2,.lit (.int .u8 ia2),.lit (.int .u8 ib2),.lit (.int .u8 ic2)]] ⟨.fn g,n⟩ fun r=>r=.ret (.lit (.bool true)) ⟨.fn g,n⟩:=by
 refine WC.drop1 rfl ?_
 have h1e:=hI.se.one
 have h1w:=hI.sw.choose_spec.1.one
 have h2e:=hI2.se.one
 have h2w:=hI2.sw.choose_spec.1.one
 have hone:allOne [.lit (.int .u8 st),.lit (.int .u8 inp),.lit (.int .u8 out),.lit (.bool part),ev,wv,.lit (.int .u8 ia),.lit (.int .u8 ib),.lit (.int .u8 ic)]=true:=by simp [h1e,h1w]
 have honeY:allOne [.lit (.int .u8 st2),.lit (.int .u8 inp2),.lit (.int .u8 out2),.lit (.bool part2),ev2,wv2,.lit (.int .u8 ia2),.lit (.int .u8 ib2),.lit (.int .u8 ic2)]=true:=by simp [h2e,h2w]
 have HLV:=Hide.mk fun (gX:Nat→Option Blk) (n2:Nat) (hX:∀ b,b < n→gX b=g b)=>lives_w ⟨.fn gX,n2⟩ m ((hX 0 (by omega)).trans h0)
 have HGO:=Hide.mk fun (gX:Nat→Option Blk) (n2:Nat) (hn:n≤n2) (hX:∀ b,b < n→gX b=g b)=>GOf_w (part:=part) ia ib ic hia hib hic gX n2 (hI.mono hn hX)
 have HGP:=Hide.mk fun (gX:Nat→Option Blk) (n2:Nat) (hn:n≤n2) (hX:∀ b,b < n→gX b=g b)=>GOf_w (part:=part2) ia2 ib2 ic2 hia2 hib2 hic2 gX n2 (hI2.mono hn hX)
 have HRU:=Hide.mk fun (gX:Nat→Option Blk) (n2:Nat) (hn:n≤n2) (hX:∀ b,b < n→gX b=g b)=>Runs_w (part:=part) ia ib ic gX n2 (hI.mono hn hX)
 have HK1:=Hide.mk (machOf_ok st inp out part es)
 have HK2:=Hide.mk (machOf_ok st2 inp2 out2 part2 es2)
 clear hI hI2 h0
 generalize machOf st inp out part es=M at *
 generalize machOf st2 inp2 out2 part2 es2=M2 at *
 have HL1:=Hide.mk (ofG_ok HK1.out ws ia ib ic)
 have HL2:=Hide.mk (ofG_ok HK2.out ws2 ia2 ib2 ic2)
 have HN1:=Hide.mk (ofG_len HK1.out ws ia ib ic)
 have hN2:=ofG_len HK2.out ws2 ia2 ib2 ic2
 generalize ofG M ws ia ib ic=ts at *
 generalize ofG M2 ws2 ia2 ib2 ic2=us at *
 have HLR:=Hide.mk (runsM_ok HK1.out ws)
 have HNR:=Hide.mk (runs_none M ws)
 generalize runsM M ws=rs at *
 obtain ⟨cb,hcb⟩ : ∃ cb:Bool,cb=decide (M2.inp=M.inp∧M2.out≤M.out):=⟨_,rfl⟩
 obtain ⟨L,hL⟩ : ∃ L,L=ts++(if cb=true then us else []):=⟨_,rfl⟩
 have HL:Hide (LogOK M.inp M.out L):=⟨by
  rw [hL]
  split
  ·rename_i h
   rw [h] at hcb
   have h2:=of_decide_eq_true hcb.symm
   have h3:=HL2.out
   rw [h2.1] at h3
   exact HL1.out.app h3 h2.2 (by have:=HN1.out; omega)
  ·rw [List.append_nil]; exact HL1.out⟩
 have HCB:=Hide.mk hcb
 have HLE:=Hide.mk hL
 clear hcb hL HL1 HL2
 refine WC.enterP (noO_ok _ _) hG pl5 Tryz.func5 rfl (by decide +kernel) (Nat.le_of_ble_eq_true (by kernel_rfl)) ?_
 iterate 8 (all_goals try (first | with_reducible refine splitI (fun h=>?_) (fun h=>?_) | with_reducible refine splitBI (fun h=>?_) (fun h=>?_) | simp (config:={ maxSteps:=1000000 }) (disch:=first | assumption | omega | (simp; done) | fail) [Tryz.results5, *]))
 refine WC.mono (HGO.out _ _ (by omega) fun b (hb:b < n)=>by simp (disch:=omega) only [gput_lt]) ?_
 rintro _ ⟨sv,g1,n1,B,rfl,hn1,hg1,hlf⟩
 have HG1:Hide (∀ b,b < n→g1 b=g b):=⟨fun b hb=>(hg1 b (by omega)).trans (by simp (disch:=omega) only [gput_lt])⟩
 have hx1:=hg1 n (by omega)
 have hy1:=hg1 (n+1) (by omega)
 simp (disch:=omega) only [gput_lt,gput_eq] at hx1 hy1
 have HF1:=Hide.mk hlf
 have h1sv:=hlf.one
 have honeL:allOne [.lit (.int .i64 M.inp),.lit (.int .i64 M.out),sv]=true:=by simp [h1sv]
 have hnn1:n+1+1≤n1:=hn1
 clear hg1 hlf hn1 HGO
 iterate 8 (all_goals try (first | with_reducible refine splitI (fun h=>?_) (fun h=>?_) | with_reducible refine splitBI (fun h=>?_) (fun h=>?_) | simp (config:={ maxSteps:=1000000 }) (disch:=first | assumption | omega | (simp; done) | fail) [Tryz.results5, *]))
 refine WC.mono (HGP.out _ _ (by omega) fun b (hb:b < n)=>by simp (disch:=omega) only [gput_lt]; exact HG1.out b hb) ?_
 rintro _ ⟨sv2,g2,n2,B2,rfl,hn2,hg2,hlf2⟩
 have HG2:Hide (∀ b,b < n1→g2 b=g1 b):=⟨fun b hb=>(hg2 b (by omega)).trans (gput_lt hb)⟩
 have hl2:g2 n1=some (.cells [.lit (.int .i64 M.inp),.lit (.int .i64 M.out),sv] true 0):=(hg2 n1 (by omega)).trans gput_eq
 have hx2:=(HG2.out n (by omega)).trans hx1
 have hnn2:n1+1≤n2:=hn2
 have h1sv2:=hlf2.one
 have honeM:allOne [.lit (.int .i64 M2.inp),.lit (.int .i64 M2.out),sv2]=true:=by simp [h1sv2]
 have hlenM:=@lenV Tryz.prog _ _ _ _ _ hlf2.log.choose_spec.1
 have HF2:=Hide.mk hlf2
 clear hg2 hn2 hlf2 HGP hx1 hy1
 iterate 8 (all_goals try (first | with_reducible refine splitI (fun h=>?_) (fun h=>?_) | with_reducible refine splitBI (fun h=>?_) (fun h=>?_) | simp (config:={ maxSteps:=1000000 }) (disch:=first | assumption | omega | (simp; done) | fail) [Tryz.results5, *]))
 obtain ⟨B0,hf0,hB0⟩:=HF1.out.norm (by omega)
 have HF0:=Hide.mk hf0
 clear HF1 hf0
 refine LX.ind (fun m gf H'=>∃ (k n' : Nat) (gL:Nat→Option Blk) (B' : Nat) (svL:AV),k≤us.length∧m=us.length - k∧H'=⟨.fn gL,n'⟩∧n2+1≤n'∧Hide (∀ b,b < n→gL b=g b)∧gL n=some (.cells [.lit (.int .u8 st),.lit (.int .u8 inp),.lit (.int .u8 out),.lit (.bool part),ev,wv,.lit (.int .u8 ia),.lit (.int .u8 ib),.lit (.int .u8 ic)] true 0) ∧
  gL n1=some (.cells [.lit (.int .i64 M.inp),.lit (.int .i64 M.out),svL] true 0)∧gL n2=some (.cells [.lit (.int .i64 M2.inp),.lit (.int .i64 M2.out),sv2] true 0)∧Hide (∀ b,n1 < b→b < n2→gL b=g2 b)∧Hide (LogF (mask n1 gL) (n+1+1) n' B' (ts++us.take k) svL)∧Hide (cb=false→k=0)∧Hide (B' < n1∨n2 < B') ∧
  gf 2=some (.ptr n 0)∧gf 5=some (.ptr n1 0)∧gf 6=some (.ptr n2 0)∧gf 7=some (.lit (.int .i64 k))) (m0:=us.length) ?_ ?_
 ·refine ⟨0,_,_,B0,sv,Nat.zero_le _,rfl,rfl,Nat.le_refl _,⟨fun b hb=>?_⟩,?_,?_,gput_eq,⟨fun b h1 h2=>gput_lt h2⟩,⟨?_⟩,⟨fun _=>rfl⟩,⟨.inl hB0⟩,by simp,by simp,by simp,by simp⟩
  ·simp (disch:=omega) only [gput_lt]; rw [HG2.out b (by omega)]; exact HG1.out b hb
  ·simp (disch:=omega) only [gput_lt]; exact hx2
  ·simp (disch:=omega) only [gput_lt]; exact hl2
  ·rw [List.take_zero,List.append_nil]
   exact HF0.out.keep (Nat.le_refl _) (by omega) fun a h1 h2=>(mask_ne (by omega)).trans ((gput_lt (by omega)).trans (HG2.out a h2))
 rintro m gf H' ⟨k,n',gL,B',svL,hk,rfl,rfl,hn',HG,hgx,hgl,hgm,HMID,HLF,HK0,HBB,w2,w5,w6,w7⟩ ih
 have HU:=Hide.mk (HF2.out.keep (lo':=n1+1) (n':=n2) (Nat.le_refl _) (Nat.le_refl _) fun a h1 h2=>HMID.out a (by omega) h2)
 have hlenU:=@lenV Tryz.prog _ _ _ _ _ HU.out.log.choose_spec.1
 have h1svL:=HLF.out.one
 have honeLL:allOne [.lit (.int .i64 M.inp),.lit (.int .i64 M.out),svL]=true:=by simp [h1svL]
 refine LX.roundP (noO_ok _ _) hG pl5 (by decide +kernel) ?_
 have hcase:(k < us.length∧M2.inp=M.inp∧M2.out≤M.out)∨(L=ts++us.take k∧(¬k < us.length∨(k < us.length∧¬M2.inp=M.inp)∨(k < us.length∧M2.inp=M.inp∧¬M2.out≤M.out))):=by
  by_cases h1:M2.inp=M.inp∧M2.out≤M.out
  ·by_cases h2:k < us.length
   ·exact .inl ⟨h2,h1⟩
   ·refine .inr ⟨?_,.inl h2⟩
    rw [HLE.out,if_pos (by rw [HCB.out]; exact decide_eq_true h1),List.take_of_length_le (by omega)]
  ·have hc:cb=false:=by rw [HCB.out]; exact decide_eq_false h1
   have hk0:=HK0.out hc
   refine .inr ⟨?_,?_⟩
   ·rw [HLE.out,hc,hk0,List.take_zero]; rfl
   ·by_cases h2:k < us.length
    ·by_cases h3:M2.inp=M.inp
     ·exact .inr (.inr ⟨h2,h3,fun h4=>h1 ⟨h3,h4⟩⟩)
     ·exact .inr (.inl ⟨h2,h3⟩)
    ·exact .inl h2
 rcases hcase with ⟨hlt,hinpE,houtE⟩ | ⟨hLk,hex⟩
 ·have hltI:(k:Int) < (us.length:Int):=by omega
  have hcb1:cb=true:=by rw [HCB.out]; exact decide_eq_true ⟨hinpE,houtE⟩
  obtain ⟨a2,off,s1,s2,HAT0,hsw1,hsw2⟩:=HU.out.at hlt
  have HAT:=Hide.mk HAT0
  have HS1:=Hide.mk hsw1
  have HS2:=Hide.mk hsw2
  clear HAT0 hsw1 hsw2
  have hia:∀ {H:Mem} {ev:Ev} {o:Oper} {ty:TypeId},iaS Tryz.prog H ev o ty (some (none,2)) (some sv2) (some (.lit (.int .i64 (k:Int))))=.val (.ptr a2 (off+k * 2)) H:=fun {H ev o ty}=>HAT.out.ia
  have han:a2 < n2:=HAT.out.an
  have hagg:=HAT.out.agg
  have h1s1:oneC s1=true:=HAT.out.r1.one
  have h1s2:oneC s2=true:=HAT.out.r2.one
  have honeS:allOne [s1,s2]=true:=by simp [h1s1,h1s2]
  have hcu:cellsOf s1=[s1]:=HAT.out.r1.cell
  have hcz:cellsOf s2=[s2]:=HAT.out.r2.cell
  have HTK:Hide (ts++us.take (k+1)=(ts++us.take k)++[us[k]]):=⟨by rw [take_snoc hlt,List.append_assoc]⟩
  clear HAT
  obtain ⟨cs,hgr,hrf⟩:=HLF.out
  have hlk:(ts++us.take k).length≤24:=by have:=HN1.out; rw [List.length_append,List.length_take]; omega
  have HRF:=Hide.mk hrf
  have HGR:=Hide.mk hgr
  have HPUSH:=Hide.mk fun (gF:Nat→Option Blk) (h6:∀ a,n+1+1≤a→a < n'→a≠B'→a≠n1→gF a=gL a) (h7:gF (n'+1)=some (.cells (cs++[s1,s2]) true 2))=>show LogF (mask n1 gF) (n+1+1) (n'+1+1) (n'+1) (ts++us.take (k+1)) (.slq (n'+1) 0 ((ts++us.take k).length+1) 0) from by
   rw [HTK.out]
   have hh:∀ a,n+1+1≤a→a < n'→a≠B'→mask n1 gF a=mask n1 gL a:=fun a h1 h2 h3=>by
    by_cases h4:a=n1
    ·subst h4; unfold mask; rw [if_pos rfl,if_pos rfl]
    ·rw [mask_ne h4,mask_ne h4]; exact h6 a h1 h2 h3 h4
   refine LogF.push HGR.out HRF.out (by omega) (by omega) (by omega) hh (HS1.out.keep (by omega) (by omega) (.inl (by omega)) fun a h1 h2 h3=>?_) (HS2.out.keep (by omega) (by omega) (.inl (by omega)) fun a h1 h2 h3=>?_) ((mask_ne (by omega)).trans h7)
   ·have:=HBB.out
    exact (mask_ne (by omega)).trans (h6 a (by omega) (by omega) (by omega) (by omega))
   ·have:=HBB.out
    exact (mask_ne (by omega)).trans (h6 a (by omega) (by omega) (by omega) (by omega))
  clear HGR
  have hcl:=hrf.1
  clear hrf
  generalize hXL:(ts++us.take k).length=xl at *
  rcases hgr with ⟨hk0,hc0,hs0⟩ | ⟨hk0,hs0,hB1,hB2,hB3,hB4⟩
  ·subst hs0
   have HZ:=Hide.mk (And.intro hk0 hc0)
   clear hk0 hc0
   iterate 8 (all_goals try (first | with_reducible refine splitI (fun h=>?_) (fun h=>?_) | with_reducible refine splitBI (fun h=>?_) (fun h=>?_) | simp (config:={ maxSteps:=1000000 }) (disch:=first | assumption | omega | (simp; done) | fail) [Tryz.results5, *]))
   refine ih.out (us.length - (k+1)) _ _ (by omega) ⟨k+1,n'+1+1,_,n'+1,.slq (n'+1) 0 (xl+1) 0,by omega,rfl,rfl,by omega,⟨fun b hb=>?_⟩,?_,?_,?_,⟨fun b h1 h2=>?_⟩,⟨HPUSH.out _ (fun a h1 h2 h3 h4=>?_) ?_⟩,⟨fun h=>by rw [hcb1] at h; cases h⟩,⟨.inr (by omega)⟩,by simp [*],by simp [*],by simp [*],by simp⟩
   ·simp (disch:=omega) only [gput_lt]; exact HG.out b hb
   ·simp (disch:=omega) only [gput_lt]; exact hgx
   ·simp (disch:=omega) only [gput_eq]; rw [HZ.out.1]
   ·simp (disch:=omega) only [gput_ne]; exact hgm
   ·simp (disch:=omega) only [gput_ne]; exact HMID.out b h1 h2
   ·simp (disch:=omega) only [gput_ne]
   ·rw [HZ.out.2]; simp (disch:=omega) only [gput_ne,gput_eq]; rfl
  ·subst hs0
   have hBB:=HBB.out
   have hXB:∀ (G:Nat→Option Blk) (x:Option Blk),gput G B' x n1=G n1:=fun G x=>gput_ne (by omega)
   have hB5:gL B'=some (.cells cs true 2):=mask_some hB3
   clear hB3
   iterate 8 (all_goals try (first | with_reducible refine splitI (fun h=>?_) (fun h=>?_) | with_reducible refine splitBI (fun h=>?_) (fun h=>?_) | simp (config:={ maxSteps:=1000000 }) (disch:=first | assumption | omega | (simp; done) | fail) [Tryz.results5, *]))
   refine ih.out (us.length - (k+1)) _ _ (by omega) ⟨k+1,n'+1+1,_,n'+1,.slq (n'+1) 0 (xl+1) 0,by omega,rfl,rfl,by omega,⟨fun b hb=>?_⟩,?_,?_,?_,⟨fun b h1 h2=>?_⟩,⟨HPUSH.out _ (fun a h1 h2 h3 h4=>?_) ?_⟩,⟨fun h=>by rw [hcb1] at h; cases h⟩,⟨.inr (by omega)⟩,by simp [*],by simp [*],by simp [*],by simp⟩
   ·simp (disch:=omega) only [gput_lt]; exact HG.out b hb
   ·simp (disch:=omega) only [gput_lt]; exact hgx
   ·simp (disch:=omega) only [gput_eq]
   ·simp (disch:=omega) only [gput_ne]; exact hgm
   ·simp (disch:=omega) only [gput_ne]; exact HMID.out b h1 h2
   ·simp (disch:=omega) only [gput_ne]
   ·simp (disch:=omega) only [gput_ne,gput_eq]
 ·have hLF:=HLF.out.ext (g':=gL) fun a x h=>mask_some h
  rw [← hLk] at hLF
  have hcapL:CapV svL:=CapV.grow hLF.choose_spec.1
  have HC:=Hide.mk fun (gX:Nat→Option Blk) (n3:Nat) (hn:n'≤n3) (hX:∀ b,b < n'→gX b=gL b)=>Contradiction_w HL.out gX n3 svL (hLF.log.mono hn hX) hcapL
  have HRC:=Hide.mk fun (gX:Nat→Option Blk) (n3:Nat) (hn:n'≤n3) (hX:∀ b,b < n'→gX b=gL b)=>rContradiction_w HL.out gX n3 svL (hLF.log.mono hn hX)
  have hDD:(conB L L 0).isSome=true∨(conB L L 0).isSome=false:=by cases (conB L L 0).isSome <;> simp
  obtain ⟨qa,qb,qc,hq⟩:=conC_ex (conB L L 0)
  rw [hq] at HC HRC
  clear hLk hLF hcapL HLF HF0 HF2 HU HBB HMID hq hlenU
  rcases hex with hlt | ⟨hlt,he⟩ | ⟨hlt,he,ho⟩
  all_goals
   first
   | have hltI:(k:Int) < (us.length:Int):=by omega
   | have hltI:¬(k:Int) < (us.length:Int):=by omega
   rcases hDD with hD | hD
   all_goals
    rw [hD] at HC HRC
    clear hD
    iterate 8 (all_goals try (first | with_reducible refine splitI (fun h=>?_) (fun h=>?_) | with_reducible refine splitBI (fun h=>?_) (fun h=>?_) | simp (config:={ maxSteps:=1000000 }) (disch:=first | assumption | omega | (simp; done) | fail) [Tryz.results5, *]))
    refine WC.mono (HC.out _ _ (by omega) fun b hb=>by first | rfl | simp (disch:=omega) only [gput_lt]) ?_
    rintro _ ⟨g4,n4,rfl,hn4,hg4⟩
    have HG4:=Hide.mk hg4
    have hx4:=(hg4 n (by omega)).trans hgx
    have hl4:=(hg4 n1 (by omega)).trans hgl
    clear hg4
    iterate 8 (all_goals try (first | with_reducible refine splitI (fun h=>?_) (fun h=>?_) | with_reducible refine splitBI (fun h=>?_) (fun h=>?_) | simp (config:={ maxSteps:=1000000 }) (disch:=first | assumption | omega | (simp; done) | fail) [Tryz.results5, *]))
    refine WC.mono (HRC.out _ _ (by omega) fun b hb=>by simp (disch:=omega) only [gput_lt]; exact HG4.out b hb) ?_
    rintro _ ⟨g5,n5,rfl,hn5,hg5⟩
    have HG5:Hide (∀ b,b < n4→g5 b=g4 b):=⟨fun b hb=>(hg5 b (by omega)).trans (gput_lt hb)⟩
    have hx5:=(HG5.out n (by omega)).trans hx4
    have hp5:=hg5 n4 (by omega)
    simp only [gput_eq] at hp5
    have hnn5:n4+1≤n5:=hn5
    clear hg5 hx4 hl4
    iterate 8 (all_goals try (first | with_reducible refine splitI (fun h=>?_) (fun h=>?_) | with_reducible refine splitBI (fun h=>?_) (fun h=>?_) | simp (config:={ maxSteps:=1000000 }) (disch:=first | assumption | omega | (simp; done) | fail) [Tryz.results5, *]))
    refine WC.mono (HRU.out _ _ (by omega) fun b (hb:b < n)=>by simp (disch:=omega) only [gput_lt]; rw [HG5.out b (by omega),HG4.out b (by omega),HG.out b hb]) ?_
    rintro _ ⟨sv6,g6,n6,B6,rfl,hn6,hg6,hlf6⟩
    have HG6:Hide (∀ b,b < n5→g6 b=g5 b):=⟨fun b hb=>(hg6 b (by omega)).trans (gput_lt hb)⟩
    have hp6:=(HG6.out n4 (by omega)).trans hp5
    have hr6:=hg6 n5 (by omega)
    simp only [gput_eq] at hr6
    have hnn6:n5+1≤n6:=hn6
    have HC6:=Hide.mk (Contradiction_w HLR.out g6 n6 sv6 hlf6.log (CapV.grow hlf6.choose_spec.1))
    rw [HNR.out,show conC none=.agg [.lit (.int .i64 0),.lit (.int .i64 0),.lit (.int .i64 0)] from rfl,show (none:Option (Nat×Nat×Nat)).isSome=false from rfl] at HC6
    have h1sv6:=hlf6.one
    have hone6:allOne [.lit (.int .i64 M.inp),.lit (.int .i64 M.out),sv6]=true:=by simp [h1sv6]
    clear hg6 hlf6 hx5 hp5
    iterate 8 (all_goals try (first | with_reducible refine splitI (fun h=>?_) (fun h=>?_) | with_reducible refine splitBI (fun h=>?_) (fun h=>?_) | simp (config:={ maxSteps:=1000000 }) (disch:=first | assumption | omega | (simp; done) | fail) [Tryz.results5, *]))
    refine WC.mono HC6.out ?_
    rintro _ ⟨g7,n7,rfl,hn7,hg7⟩
    have HG7:=Hide.mk hg7
    have hp7:=(hg7 n4 (by omega)).trans hp6
    have hr7:=(hg7 n5 (by omega)).trans hr6
    clear hg7 HC6
    iterate 8 (all_goals try (first | with_reducible refine splitI (fun h=>?_) (fun h=>?_) | with_reducible refine splitBI (fun h=>?_) (fun h=>?_) | simp (config:={ maxSteps:=1000000 }) (disch:=first | assumption | omega | (simp; done) | fail) [Tryz.results5, *]))
    refine WC.mono (HLV.out _ _ fun b (hb:b < n)=>by simp (disch:=omega) only [gput_lt]; rw [HG7.out b (by omega),HG6.out b (by omega),HG5.out b (by omega),HG4.out b (by omega),HG.out b hb]) ?_
    rintro _ rfl
    iterate 8 (all_goals try (first | with_reducible refine splitI (fun h=>?_) (fun h=>?_) | with_reducible refine splitBI (fun h=>?_) (fun h=>?_) | simp (config:={ maxSteps:=1000000 }) (disch:=first | assumption | omega | (simp; done) | fail) [Tryz.results5, *]))
    exact ⟨by show n≤n7+1; omega,fun b (hb:b < n)=>(gput_lt (by omega)).trans ((HG7.out b (by omega)).trans ((HG6.out b (by omega)).trans ((HG5.out b (by omega)).trans ((HG4.out b (by omega)).trans (HG.out b hb)))))⟩
end Go.Ai
end
