/- A small verified interpreter over names, its proofs, and what was proved with it. No condition. -/
import Derived.Test.YtiddfilinnbhaaaGreatDoorB17
import Derived.Test.YtiddfilinnbhaaaGreatDoorB16
import Derived.Test.YtiddfilinnbhaaaGreatDoorB18
set_option linter.all false
set_option linter.deprecated false
section
namespace Go.Ai
set_option maxRecDepth 10000
structure BF (I:Nat) (O:Int) (ts:List (List Int×List Int)) (T:List (List (Int×Int))) (W:List (List Int)) : Prop where
 lab:Lab T W
 tl:TL I O (valT ts) (nodesM ts) T W
 ne:0 < T.length
 len:T.length≤20000
 cnt:(endsM T 0).length≤40
 wl:∀ t,t < T.length→(W.getD t []).length≤256
 el:∀ s∈endsM T 0,(eW W s).length≤256
 sum:sumW W (endsM T 0)≤65536
theorem BF.of {I:Nat} {O:Int} {ts:List (List Int×List Int)} (hL:LogOK I O ts) (hC:Cons ts) (hgo:goT I O (rowsL I ts) 0 1=some (rowsL I ts).length) : BF I O ts (rowsL I ts) (rWords (rowsL I ts)):=by
 have hi1:=hL.i1
 have hi2:=hL.i2
 have ho1:=hL.o1
 have ho2:=hL.o2
 have hlen:=hL.len
 have hnl:=nodesM_len hL.wl
 have hl:(rowsL I ts).length≤20000:=by rw [rowsL_len]; omega
 have h0:0 < (rowsL I ts).length:=by rw [rowsL_len]; exact List.length_pos_of_mem ((nodesM_val hL.ok hC []).2 (.inl rfl))
 have hte:treeErr I O (rowsL I ts)=0:=by
  unfold treeErr
  rw [if_neg (by omega),if_neg (by omega),if_pos hgo]
 have hlab:=lab_of hte
 have htl:TL I O (valT ts) (nodesM ts) (rowsL I ts) (rWords (rowsL I ts)):=⟨nod_nodes hL.ok hC,(nodesM_ok hL.ok).1,rfl,hlab,fun x i o h=>valT_in hL.ok h⟩
 have hwn:∀ x∈nodesM ts,x.length≤256:=fun x hx=>by
  rcases ((nodesM_ok hL.ok).2 x).1 hx with rfl | ⟨t,ht,k,hk,_,rfl⟩
  ·simp
  ·have:=hL.wl t ht
   rw [List.length_take]; omega
 have hcnt:(endsM (rowsL I ts) 0).length≤40:=by
  have h1:=TL.count ho1 htl (X:=(bkM (rowsL I ts) (rWords (rowsL I ts))).map fun u=>u.1) (fun x hx=>by
   obtain ⟨u,hu,rfl⟩:=List.mem_map.1 hx
   exact ((bkM_of u).1 hu).1) hlab.nodup
  simp only [List.length_map,bkM] at h1
  omega
 have hel:∀ s∈endsM (rowsL I ts) 0,(eW (rWords (rowsL I ts)) s).length≤256:=fun s hs=>TL.short ho1 htl hL.wl ⟨s,hs,rfl⟩
 refine ⟨hlab,htl,h0,hl,hcnt,fun t ht=>?_,hel,?_⟩
 ·rw [rowsL_len] at ht
  rw [htl.weq t t (Nat.le_refl _) ht]
  exact hwn _ (List.getElem_mem ht)
 ·have:=sumW_le hel
  omega
theorem BF.us {I:Nat} {O:Int} {ts us:List (List Int×List Int)} (hL:LogOK I O ts) (h:BF I O ts (rowsL I ts) (rWords (rowsL I ts))) (hp:us.Perm (bkM (rowsL I ts) (rWords (rowsL I ts)))) (hs:∀ (i j:Nat) (_:i < j) (hj:j < us.length),¬ cmpM us[j].1 (us[i]'(by omega)).1 < 0) :
  LogOK I O us∧conB us us 0=none∧rowsL I us=rowsL I ts∧(rbk (rWords (rowsL I ts)) [] (endsM (rowsL I ts) 0)).map (fun w=>(w,respM (rowsL I ts) 0 w))=us∧us.length=(endsM (rowsL I ts) 0).length∧∀ (i j:Nat) (_:i < j) (hj:j < us.length),cmpM (us[i]'(by omega)).1 us[j].1 < 0:=by
 have hU:LogOf (rowsL I ts) (rWords (rowsL I ts)) us:=bkM_of.perm hp
 have hval:=h.tl.valid hL.o1 hU
 have hln:us.length=(endsM (rowsL I ts) 0).length:=by rw [hp.length_eq]; simp [bkM]
 have hsr:=h.lab.srtU hp hs
 have hcn:=h.cnt
 have hLU:LogOK I O us:=⟨by omega,hL.i1,hL.i2,hL.o1,hL.o2,fun u hu=>by
  obtain ⟨s,hs2,he⟩:=((hU u).1 hu).1
  rw [he]; exact h.el s hs2,hval⟩
 refine ⟨hLU,(cons_iff fun t ht=>(hLU.lens ht).1).2 (h.tl.cons hL.o1 hU),h.tl.rowsU hL.o1 hU,rbk_eq hU hsr.1,hln,fun i j hij hj=>?_⟩
 ·have h1:=hsr.1 i j (by rw [List.length_map]; omega) (by rw [List.length_map]; exact hj) hij
  rw [List.getElem_map,List.getElem_map] at h1
  exact cmpM_SL.2 h1
end Go.Ai
end
