/- A small verified interpreter over names, its proofs, and what was proved with it. No condition. -/
import Derived.Test.YtiddfilinnbhaaaGreatDoorB16
set_option linter.all false
set_option linter.deprecated false
section
namespace Go.Ai
open Go.Proofs
set_option maxRecDepth 10000
set_option maxHeartbeats 40000000
theorem ListW.v {g:Nat→Option Blk} {n:Nat} {l:List (List Int)} {sv:AV} (h:ListW g n l sv) : ListV g n l sv:=let ⟨svs,h1,h2,_⟩:=h.ex; ⟨svs,h1,h2⟩
theorem SliceV.lowOut {c:Nat} {g:Nat→Option Blk} {n len:Nat} {v:AV} {cs:List AV} (h:SliceV (lowG c g) n v len cs) : SliceV g n v len cs:=SliceV.ext (Nat.le_refl _) (fun a x _ hx=>by
 unfold lowG at hx
 split at hx
 ·exact hx
 ·cases hx) h
theorem rep_last {c d b nX len:Nat} {g:Nat→Option Blk} {w:List Int} (hb:b < nX) (hc:c < b) (hd:b≠d) (h:g b=some (.cells (wdC w) true 1)) (hl:len=w.length) : RepW (keepG c d g) nX w (.slq b 0 len 0) :=
 .inr ⟨b,0,hb,.inr ⟨0,by rw [hl]⟩,_,true,1,(if_pos ⟨hc,hd⟩).trans h,by simp,by simp⟩
def RowsO (gk:Nat→Option Blk) (lo:Nat) (g:Nat→Option Blk) (n B:Nat) (ts:List (List Int×List Int)) (cs:List AV) : Prop :=
 cs.length=ts.length * 2∧∀ (k:Nat) (h:k < ts.length),∃ s1 s2,cs[k * 2]?=some s1∧cs[k * 2+1]?=some s2∧RepW gk lo ts[k].1 s1∧SafeW g lo n B ts[k].2 s2
theorem RowsO.keep {gk g g' : Nat→Option Blk} {lo n n' B B' : Nat} {ts:List (List Int×List Int)} {cs:List AV} (h:RowsO gk lo g n B ts cs) (h2:n≤n') (hB:n≤B'∨B'=B∨B' < lo) (hg:∀ a,lo≤a→a < n→a≠B→g' a=g a) : RowsO gk lo g' n' B' ts cs :=
 ⟨h.1,fun k hk=>let ⟨s1,s2,h1,h3,h4,h5⟩:=h.2 k hk; ⟨s1,s2,h1,h3,h4,h5.keep (Nat.le_refl _) h2 hB hg⟩⟩
theorem RowsO.snoc {gk g:Nat→Option Blk} {lo n B:Nat} {ts:List (List Int×List Int)} {cs:List AV} (h:RowsO gk lo g n B ts cs) {t:List Int×List Int} {s1 s2:AV} (h1:RepW gk lo t.1 s1) (h2:SafeW g lo n B t.2 s2) : RowsO gk lo g n B (ts++[t]) (cs++[s1,s2]):=by
 have hl:=h.1
 refine ⟨by simp [hl]; omega,fun k hk=>?_⟩
 rw [List.length_append,List.length_singleton] at hk
 by_cases hlt:k < ts.length
 ·obtain ⟨t1,t2,e1,e2,e3,e4⟩:=h.2 k hlt
  refine ⟨t1,t2,?_,?_,?_,?_⟩
  ·rw [List.getElem?_append_left (by omega)]; exact e1
  ·rw [List.getElem?_append_left (by omega)]; exact e2
  ·rw [List.getElem_append_left hlt]; exact e3
  ·rw [List.getElem_append_left hlt]; exact e4
 ·have hk2:k=ts.length:=by omega
  subst hk2
  refine ⟨s1,s2,?_,?_,?_,?_⟩
  ·rw [List.getElem?_append_right (by omega),hl,Nat.sub_self]; rfl
  ·rw [List.getElem?_append_right (by omega),hl,show ts.length * 2+1 - ts.length * 2=1 by omega]; rfl
  ·simpa using h1
  ·simpa using h2
theorem RowsO.rows {gk g g' : Nat→Option Blk} {lo n B:Nat} {ts:List (List Int×List Int)} {cs:List AV} (h:RowsO gk lo g n B ts cs) (hn:lo≤n) (hg:∀ a x,a < lo→gk a=some x→g' a=some x) (hg2:∀ a,lo≤a→a < n→g' a=g a) : RowsT g' n ts cs :=
 ⟨h.1,fun k hk=>let ⟨s1,s2,h1,h3,h4,h5⟩:=h.2 k hk; ⟨s1,s2,h1,h3,SliceV.ext hn hg h4,(h5.keep (Nat.le_refl _) (Nat.le_refl _) (.inr (.inl rfl)) fun a h1 h2 _=>hg2 a h1 h2).rep⟩⟩
theorem rBack_w {I:Nat} {O:Int} {T:List (List (Int×Int))} (hI1:1≤I) (hI2:I≤16) (hO1:1≤O) (h0:0 < T.length) (hl:T.length≤20000) (hgo:goT I O T 0 1=some T.length) (hLab:Lab T (rWords T)) (hE:(endsM T 0).length≤20000) (hWl:∀ t,t < T.length→((rWords T).getD t []).length≤900) (g:Nat→Option Blk) (n:Nat) (tv:AV) (hT:TreeV g n T tv) :
  WC 3 Tryz.prog 36 [.agg [.lit (.int .i64 I),.lit (.int .i64 O),tv]] ⟨.fn g,n⟩ fun r=>∃ lv g' n',r=.ret (.agg [.lit (.int .i64 I),.lit (.int .i64 O),lv]) ⟨.fn g',n'⟩∧n≤n'∧(∀ b,b < n→g' b=g b)∧LogR g' n' ((rbk (rWords T) [] (endsM T 0)).map fun w=>(w,respM T 0 w)) lv:=by
 have hlen:=@lenV Tryz.prog _ _ _ _ _ hT.choose_spec.1
 have h1t:=hT.choose_spec.1.one
 have hone:allOne [.lit (.int .i64 I),.lit (.int .i64 O),tv]=true:=by simp [h1t]
 have HOK:=Hide.mk (okT_of hgo)
 have HOE:Hide (∀ r∈T,(r.length:Int)=I∧∀ e∈r,okE T.length O e=true):=⟨fun r hr=>⟨(okT_of hgo r hr).1,(goT_ok hgo (Nat.le_refl _) (Nat.le_refl _) r hr).2⟩⟩
 have HT:=Hide.mk hT
 have HLB:=Hide.mk hLab
 have HWL:=Hide.mk hWl
 have HRW:=Hide.mk fun (gX:Nat→Option Blk) (n2:Nat) (hn:n≤n2) (hX:∀ b,b < n→gX b=g b)=>rWords_w I O T HOE.out (by omega) gX n2 tv ⟨by omega,fun r hr=>by have:=(HOE.out r hr).1; omega,(let ⟨svs,h1,h2,h3⟩:=hT.mono hn hX; ⟨svs,h1,h2,h3⟩)⟩
 have hwlen:=hLab.len
 generalize rWords T=W at *
 have HPR:=Hide.mk fun k=>endsM_pre T k
 have HST:=Hide.mk fun (k:Nat) (h:k < T.length)=>endsM_step h
 obtain ⟨E,hEE⟩ : ∃ E,E=endsM T 0:=⟨_,rfl⟩
 rw [← hEE] at hE ⊢
 have HEE:=Hide.mk hEE
 have HLEN:Hide (∀ k,(rbk W [] (endsM (T.take k) 0)).length≤20000):=⟨fun k=>by
  obtain ⟨r,hr⟩:=HPR.out k
  have h1:=rbk_len (W:=W) (endsM (T.take k) 0) []
  rw [← HEE.out] at hr
  have h2:=congrArg List.length hr
  rw [List.length_append] at h2
  simp at h1; omega⟩
 clear hT hgo hLab hWl hEE
 refine WC.enterP (noO_ok _ _) hG pl36 Tryz.func36 rfl (by decide +kernel) (Nat.le_of_ble_eq_true (by kernel_rfl)) ?_
 iterate 8 all_goals try first|with_reducible refine spI (fun h=>?_) fun h=>?_|with_reducible refine spB (fun h=>?_) fun h=>?_|simp (maxSteps:=999999) (disch:=first|assumption|omega|(simp;done)|fail) [*]
 refine WC.mono (HRW.out _ _ (by omega) fun b hb=>by simp (disch:=omega) only [gpl]) ?_
 rintro _ ⟨g1,n1,wv,rfl,hn1,hg1,hlw⟩
 have HG1:Hide (∀ b,b < n→g1 b=g b):=⟨fun b hb=>(hg1 b (by omega)).trans (by simp (disch:=omega) only [gpl])⟩
 have hx1:=hg1 n (by omega)
 have hx2:=hg1 (n+1) (by omega)
 simp (disch:=omega) only [gpl,gpe] at hx1 hx2
 have HLW:Hide (∃ svs,SliceV g1 n1 wv W.length svs∧RowsW (keepG (n+1) n1 g1) n1 W svs):=⟨let ⟨svs,h1,h2,_⟩:=hlw.ex; ⟨svs,h1.lowOut,h2.ext (Nat.le_refl _) fun a x ha hx=>by
  unfold lowG at hx
  split at hx
  ·unfold keepG; rw [if_pos ⟨by omega,by omega⟩]; exact hx
  ·cases hx⟩⟩
 have hlwv:=@lenV Tryz.prog _ _ _ _ _ hlw.low.v.choose_spec.1
 rw [hwlen] at hlwv
 clear hg1 HRW hlw
 iterate 8 all_goals try first|with_reducible refine spI (fun h=>?_) fun h=>?_|with_reducible refine spB (fun h=>?_) fun h=>?_|simp (maxSteps:=999999) (disch:=first|assumption|omega|(simp;done)|fail) [*]
 refine LX.ind (fun m gf H'=>∃ (k n2:Nat) (gL:Nat→Option Blk) (L:List (List Int)) (lv:AV),k≤T.length∧m=T.length - k∧H'=⟨.fn gL,n2⟩∧n1+1≤n2∧Hide (∀ b,b < n1→gL b=g1 b)∧gL n1=some (.cells [.lit (.int .i64 I),.lit (.int .i64 O),.lit (.slice none 0 0)] true 0)∧Hide (L=rbk W [] (endsM (T.take k) 0))∧Hide (ListV (keepG (n+1) n1 gL) n2 L lv)∧Hide (∀ x∈L,x.length≤1000) ∧
  gf 1=some (.ptr n 0)∧gf 2=some (.ptr (n+1) 0)∧gf 3=some wv∧gf 4=some (.ptr n1 0)∧gf 5=some lv∧gf 6=some (.lit (.int .i64 k))) (m0:=T.length) ?_ ?_
 ·exact ⟨0,_,_,[],_,Nat.zero_le _,rfl,rfl,Nat.le_refl _,⟨fun b hb=>gpl hb⟩,gpe,⟨rfl⟩,⟨⟨[],.inl ⟨rfl,rfl,.inl rfl⟩,rfl,fun k hk=>by cases hk⟩⟩,⟨fun x hx=>by cases hx⟩,by simp,by simp,by simp,by simp,by simp,by simp⟩
 rintro m gf H' ⟨k,n2,gL,L,lv,hk,rfl,rfl,hn2,HG,hgl,HL,HLV,HLX,w1,w2,w3,w4,w5,w6⟩ ih
 have hgn:=(HG.out n (by omega)).trans hx1
 have hgz:=(HG.out (n+1) (by omega)).trans hx2
 refine LX.roundP (noO_ok _ _) hG pl36 (by decide +kernel) ?_
 by_cases hlt:k < T.length
 ·have hltI:(k:Int) < (T.length:Int):=by omega
  have hLl:=HLEN.out k
  rw [← HL.out] at hLl
  obtain ⟨a1,o1,qw,ha1,hia1,hc1,hqw⟩:=list_at2 HLW.out (show k < W.length by omega)
  have hwk:W[k]'(by omega)=W.getD k []:=by rw [List.getD_eq_getElem?_getD,List.getElem?_eq_getElem (by omega)]; rfl
  rw [hwk] at hqw
  have hwkl:=HWL.out k hlt
  obtain ⟨a2,o2,q,ha2,hia2,hc2,hq⟩:=HT.out.at hlt
  rw [← HG1.out a2 ha2] at hc2
  have HO1:=Hide.mk (HOE.out _ (List.getElem_mem hlt))
  have hrl:(T[k]).length=I:=by have:=HO1.out.1; omega
  have HES:=Hide.mk (HST.out k hlt)
  have HPX:Hide (∀ i,i≤(T[k]).length→(rbk W [] (endsM (T.take k) 0++refL k ((T[k]).take i) 0)).length≤20000):=⟨fun i hi=>by
   obtain ⟨r,hr⟩:=HPR.out (k+1)
   rw [← HEE.out,HES.out] at hr
   have h2:refL k T[k] 0=refL k ((T[k]).take i) 0++refL k ((T[k]).drop i) (0+((T[k]).take i).length):=by rw [← refL_app,List.take_append_drop]
   unfold endR at hr
   rw [h2] at hr
   have h3:=congrArg List.length hr
   simp only [List.length_append] at h3
   have h1:=rbk_len (W:=W) (endsM (T.take k) 0++refL k ((T[k]).take i) 0) []
   simp only [List.length_append,List.length_nil] at h1
   omega⟩
  have HQ:=Hide.mk hq
  have HQW:=Hide.mk hqw
  clear hq hqw hwk
  generalize hrow:T[k]=row at *
  clear hrow
  generalize hwk:W.getD k []=wk at *
  have HWK:=Hide.mk hwk
  clear hwk
  iterate 8 all_goals try first|with_reducible refine spI (fun h=>?_) fun h=>?_|with_reducible refine spB (fun h=>?_) fun h=>?_|simp (maxSteps:=999999) (disch:=first|assumption|omega|(simp;done)|fail) [*]
  refine LX.ind (fun m gf H'=>∃ (i n3:Nat) (gI:Nat→Option Blk) (L:List (List Int)) (lv:AV) (last:Bool),i≤row.length∧m=row.length - i∧H'=⟨.fn gI,n3⟩∧n2≤n3∧Hide (∀ b,b < n1→gI b=g1 b)∧gI n1=some (.cells [.lit (.int .i64 I),.lit (.int .i64 O),.lit (.slice none 0 0)] true 0)∧Hide (L=rbk W [] (endsM (T.take k) 0++refL k (row.take i) 0))∧L.length≤20000∧Hide (ListV (keepG (n+1) n1 gI) n3 L lv)∧Hide (∀ x∈L,x.length≤1000)∧Hide (last=lastB (row.take i)) ∧
   gf 1=some (.ptr n 0)∧gf 2=some (.ptr (n+1) 0)∧gf 3=some wv∧gf 4=some (.ptr n1 0)∧gf 5=some lv∧gf 6=some (.lit (.int .i64 k))∧gf 7=some (.lit (.bool last))∧gf 8=some (.lit (.int .i64 i))) (m0:=row.length) ?_ ?_
  ·exact ⟨0,n2,gL,L,lv,true,Nat.zero_le _,rfl,rfl,Nat.le_refl _,HG,hgl,⟨by rw [HL.out]; simp [refL]⟩,hLl,HLV,HLX,⟨rfl⟩,by simp [*],by simp [*],by simp [*],by simp [*],by simp [*],by simp [*],by simp,by simp⟩
  clear hgn hgz hgl HL HLV HLX hLl w1 w2 w3 w4 w5 w6
  rintro m gf H' ⟨i,n3,gI,L,lv,last,hi,rfl,rfl,hn3,HGI,hgl,HL,hLl,HLV,HLX,HLS,w1,w2,w3,w4,w5,w6,w7,w8⟩ ih2
  have hgn:=(HGI.out n (by omega)).trans hx1
  have hgz:=(HGI.out (n+1) (by omega)).trans hx2
  have hc1I:loadB (some (false,1)) (gI a1) (o1+k)=some qw:=by rw [HGI.out a1 ha1]; exact hc1
  have hc2I:loadB (some (false,1)) (gI a2) (o2+k)=some q:=by rw [HGI.out a2 (by omega)]; exact hc2
  have hv:SliceV gI n3 qw wk.length (wdC wk):=HQW.out.keepOut (by omega) fun a h1 _ _=>HGI.out a h1
  refine LX.roundP (noO_ok _ _) hG pl36 (by decide +kernel) ?_
  by_cases hil:i < row.length
  ·have hilI:(i:Int) < (I:Int):=by omega
   obtain ⟨a3,o3,ha3,hia3,hc3⟩:=edge_at HQ.out hil
   rw [← HG1.out a3 ha3,← HGI.out a3 (by omega)] at hc3
   have HE1:=Hide.mk (HO1.out.2 _ (List.getElem_mem hil))
   have HRS:=Hide.mk (refL_step (n:=k) hil)
   have HLT:=Hide.mk (lastB_step hil)
   have hPX:=HPX.out (i+1) (by omega)
   have HPN:=Hide.mk hPX
   clear hPX
   generalize row[i]=e at *
   obtain ⟨to,eo⟩:=e
   dsimp only at HRS HLT hc3
   have hoe:=HE1.out
   unfold okE at hoe
   rw [Bool.or_eq_true,decide_eq_true_eq,decide_eq_true_eq] at hoe
   dsimp only at hoe
   by_cases ht:to = -1
   ·by_cases ho:eo = -2
    ·subst ht ho
     rw [if_pos ⟨rfl,rfl⟩] at HRS
     have HLN:Hide (false=lastB (row.take (i+1))):=⟨by rw [HLT.out]; simp⟩
     have HRK:Hide (rbk W [] (endsM (T.take k) 0++refL k (row.take (i+1)) 0)=insW (wk++[(i:Int)]) L):=⟨by
      rw [HRS.out,← List.append_assoc,rbk_app,← HL.out]
      show insW (eW W (k,(i:Int))) L=_
      unfold eW
      dsimp only
      rw [if_neg (by omega),HWK.out]⟩
     rw [HRK.out] at HPN
     have HLN2:Hide (∀ x∈insW (wk++[(i:Int)]) L,x.length≤1000):=⟨fun x hx=>by
      rcases insW_mem.1 hx with h | h
      ·rw [h]; simp; omega
      ·exact HLX.out x h⟩
     have HAD:=Hide.mk fun (gX:Nat→Option Blk) (nX:Nat) (wv' : AV) (hn:n3≤nX) (hX:∀ b,b < n3→gX b=gI b) (hW:RepW (keepG (n+1) n1 gX) nX (wk++[(i:Int)]) wv')=>add3_w (l:=L) (w:=wk++[(i:Int)]) (by omega) (by simp; omega) HLX.out gX (keepG (n+1) n1 gX) keepG_out nX lv wv' (HLV.out.keepTo hn fun a h1 _ _=>hX a h1).two hW
     clear HLT HRS HLS hoe HL
     by_cases hne:wk.length=0
     ·have hnn:wk=[]:=List.length_eq_zero_iff.1 hne
      rw [hne] at hv
      have hap:=fun {H:Mem} {ev:Ev} {d:Option Tmp} {ty:TypeId} {p:String} {af:Array Edge} {gd:Option (Nat×Bool)} {x y:Operand} {s t:TypeId} {a off:Nat} {hx:ev x=some (.sl a off 0 0)} {hy:ev y=some qw} (hp:(apI Tryz.prog s t).isSome=true)=>SliceV.ap00 (P:=Tryz.prog) hv (H:=H) (ev:=ev) (d:=d) (ty:=ty) (p:=p) (af:=af) (gd:=gd) (x:=x) (y:=y) (a:=a) (off:=off) (hx:=hx) (hy:=hy) hp
      have HNN:=Hide.mk hnn
      clear hv hne hnn
      cases last with
      | true =>
       iterate 8 all_goals try first|with_reducible refine spI (fun h=>?_) fun h=>?_|with_reducible refine spB (fun h=>?_) fun h=>?_|simp (maxSteps:=999999) (disch:=first|assumption|omega|(simp;done)|fail) [*]
       refine WC.mono (HAD.out _ _ _ (by omega) (fun b hb=>by simp (disch:=omega) only [gpl,gpn]) (rep_last (b:=n3+1+1+1) (by omega) (by omega) (by omega) (gpe.trans (by rw [HNN.out]; rfl)) (by rw [HNN.out]; rfl))) ?_
       rintro _ ⟨ov,g5,n5,B,cs,rfl,hn5,hg5,hgr,hrw⟩
       have HG5:Hide (∀ b,b < n3→g5 b=gI b):=⟨fun b hb=>(hg5 b (by omega)).trans (by simp (disch:=omega) only [gpl,gpn])⟩
       have HLV5:Hide (ListV (keepG (n+1) n1 g5) n5 (insW (wk++[(i:Int)]) L) ov):=⟨hgr.keepL hn5 (by omega) (by omega) hg5 hrw⟩
       clear hg5 hgr hrw HAD
       iterate 8 all_goals try first|with_reducible refine spI (fun h=>?_) fun h=>?_|with_reducible refine spB (fun h=>?_) fun h=>?_|simp (maxSteps:=999999) (disch:=first|assumption|omega|(simp;done)|fail) [*]
       exact ih2.out (row.length - (i+1)) _ _ (by omega) ⟨i+1,n5,g5,insW (wk++[(i:Int)]) L,ov,false,by omega,rfl,rfl,by omega,⟨fun b hb=>(HG5.out b (by omega)).trans (HGI.out b hb)⟩,(HG5.out n1 (by omega)).trans hgl,⟨HRK.out.symm⟩,HPN.out,HLV5,HLN2,HLN,by simp [*],by simp [*],by simp [*],by simp [*],by simp [*],by simp [*],by simp,by simp⟩
      | false =>
       iterate 8 all_goals try first|with_reducible refine spI (fun h=>?_) fun h=>?_|with_reducible refine spB (fun h=>?_) fun h=>?_|simp (maxSteps:=999999) (disch:=first|assumption|omega|(simp;done)|fail) [*]
       refine WC.mono (HAD.out _ _ _ (by omega) (fun b hb=>by simp (disch:=omega) only [gpl,gpn]) (rep_last (b:=n3+1+1+1) (by omega) (by omega) (by omega) (gpe.trans (by rw [HNN.out]; rfl)) (by rw [HNN.out]; rfl))) ?_
       rintro _ ⟨ov,g5,n5,B,cs,rfl,hn5,hg5,hgr,hrw⟩
       have HG5:Hide (∀ b,b < n3→g5 b=gI b):=⟨fun b hb=>(hg5 b (by omega)).trans (by simp (disch:=omega) only [gpl,gpn])⟩
       have HLV5:Hide (ListV (keepG (n+1) n1 g5) n5 (insW (wk++[(i:Int)]) L) ov):=⟨hgr.keepL hn5 (by omega) (by omega) hg5 hrw⟩
       clear hg5 hgr hrw HAD
       iterate 8 all_goals try first|with_reducible refine spI (fun h=>?_) fun h=>?_|with_reducible refine spB (fun h=>?_) fun h=>?_|simp (maxSteps:=999999) (disch:=first|assumption|omega|(simp;done)|fail) [*]
       exact ih2.out (row.length - (i+1)) _ _ (by omega) ⟨i+1,n5,g5,insW (wk++[(i:Int)]) L,ov,false,by omega,rfl,rfl,by omega,⟨fun b hb=>(HG5.out b (by omega)).trans (HGI.out b hb)⟩,(HG5.out n1 (by omega)).trans hgl,⟨HRK.out.symm⟩,HPN.out,HLV5,HLN2,HLN,by simp [*],by simp [*],by simp [*],by simp [*],by simp [*],by simp [*],by simp,by simp⟩
     ·have hnp:0 < wk.length:=by omega
      obtain ⟨a9,blk,ha9,hga9,hap⟩:=SliceV.ap0 (P:=Tryz.prog) (sz:=1) hv hnp (by omega) (by rw [wdC_len,Nat.mul_one])
      have hwl1:(wdC wk).length=wk.length * 1:=by rw [wdC_len,Nat.mul_one]
      have hnl3:wk.length≤1000000:=by omega
      clear hv hne
      cases last with
      | true =>
       iterate 8 all_goals try first|with_reducible refine spI (fun h=>?_) fun h=>?_|with_reducible refine spB (fun h=>?_) fun h=>?_|simp (maxSteps:=999999) (disch:=first|assumption|omega|(simp;done)|fail) [*]
       refine WC.mono (HAD.out _ _ _ (by omega) (fun b hb=>by simp (disch:=omega) only [gpl,gpn]) (rep_last (b:=n3+1+1+1+1) (by omega) (by omega) (by omega) (gpe.trans (by rw [wdC_snoc])) (by simp))) ?_
       rintro _ ⟨ov,g5,n5,B,cs,rfl,hn5,hg5,hgr,hrw⟩
       have HG5:Hide (∀ b,b < n3→g5 b=gI b):=⟨fun b hb=>(hg5 b (by omega)).trans (by simp (disch:=omega) only [gpl,gpn])⟩
       have HLV5:Hide (ListV (keepG (n+1) n1 g5) n5 (insW (wk++[(i:Int)]) L) ov):=⟨hgr.keepL hn5 (by omega) (by omega) hg5 hrw⟩
       clear hg5 hgr hrw HAD
       iterate 8 all_goals try first|with_reducible refine spI (fun h=>?_) fun h=>?_|with_reducible refine spB (fun h=>?_) fun h=>?_|simp (maxSteps:=999999) (disch:=first|assumption|omega|(simp;done)|fail) [*]
       exact ih2.out (row.length - (i+1)) _ _ (by omega) ⟨i+1,n5,g5,insW (wk++[(i:Int)]) L,ov,false,by omega,rfl,rfl,by omega,⟨fun b hb=>(HG5.out b (by omega)).trans (HGI.out b hb)⟩,(HG5.out n1 (by omega)).trans hgl,⟨HRK.out.symm⟩,HPN.out,HLV5,HLN2,HLN,by simp [*],by simp [*],by simp [*],by simp [*],by simp [*],by simp [*],by simp,by simp⟩
      | false =>
       iterate 8 all_goals try first|with_reducible refine spI (fun h=>?_) fun h=>?_|with_reducible refine spB (fun h=>?_) fun h=>?_|simp (maxSteps:=999999) (disch:=first|assumption|omega|(simp;done)|fail) [*]
       refine WC.mono (HAD.out _ _ _ (by omega) (fun b hb=>by simp (disch:=omega) only [gpl,gpn]) (rep_last (b:=n3+1+1+1+1) (by omega) (by omega) (by omega) (gpe.trans (by rw [wdC_snoc])) (by simp))) ?_
       rintro _ ⟨ov,g5,n5,B,cs,rfl,hn5,hg5,hgr,hrw⟩
       have HG5:Hide (∀ b,b < n3→g5 b=gI b):=⟨fun b hb=>(hg5 b (by omega)).trans (by simp (disch:=omega) only [gpl,gpn])⟩
       have HLV5:Hide (ListV (keepG (n+1) n1 g5) n5 (insW (wk++[(i:Int)]) L) ov):=⟨hgr.keepL hn5 (by omega) (by omega) hg5 hrw⟩
       clear hg5 hgr hrw HAD
       iterate 8 all_goals try first|with_reducible refine spI (fun h=>?_) fun h=>?_|with_reducible refine spB (fun h=>?_) fun h=>?_|simp (maxSteps:=999999) (disch:=first|assumption|omega|(simp;done)|fail) [*]
       exact ih2.out (row.length - (i+1)) _ _ (by omega) ⟨i+1,n5,g5,insW (wk++[(i:Int)]) L,ov,false,by omega,rfl,rfl,by omega,⟨fun b hb=>(HG5.out b (by omega)).trans (HGI.out b hb)⟩,(HG5.out n1 (by omega)).trans hgl,⟨HRK.out.symm⟩,HPN.out,HLV5,HLN2,HLN,by simp [*],by simp [*],by simp [*],by simp [*],by simp [*],by simp [*],by simp,by simp⟩
    ·have ho1:eo = -1:=by omega
     subst ht ho1
     rw [if_neg (by simp),List.append_nil] at HRS
     have HLN:Hide (last=lastB (row.take (i+1))):=⟨by rw [HLT.out,HLS.out]; simp⟩
     rw [← HRS.out] at HL
     clear HLT HLS hoe
     cases last with
     | true =>
      iterate 8 all_goals try first|with_reducible refine spI (fun h=>?_) fun h=>?_|with_reducible refine spB (fun h=>?_) fun h=>?_|simp (maxSteps:=999999) (disch:=first|assumption|omega|(simp;done)|fail) [*]
      exact ih2.out (row.length - (i+1)) _ _ (by omega) ⟨i+1,_,_,L,lv,true,by omega,rfl,rfl,by omega,⟨fun b hb=>(gpl (by omega)).trans (HGI.out b hb)⟩,(gpl (by omega)).trans hgl,HL,hLl,⟨HLV.out.keepTo (by omega) fun b hb _ _=>gpl hb⟩,HLX,HLN,by simp [*],by simp [*],by simp [*],by simp [*],by simp [*],by simp [*],by simp,by simp⟩
     | false =>
      iterate 8 all_goals try first|with_reducible refine spI (fun h=>?_) fun h=>?_|with_reducible refine spB (fun h=>?_) fun h=>?_|simp (maxSteps:=999999) (disch:=first|assumption|omega|(simp;done)|fail) [*]
      exact ih2.out (row.length - (i+1)) _ _ (by omega) ⟨i+1,_,_,L,lv,false,by omega,rfl,rfl,by omega,⟨fun b hb=>(gpl (by omega)).trans (HGI.out b hb)⟩,(gpl (by omega)).trans hgl,HL,hLl,⟨HLV.out.keepTo (by omega) fun b hb _ _=>gpl hb⟩,HLX,HLN,by simp [*],by simp [*],by simp [*],by simp [*],by simp [*],by simp [*],by simp,by simp⟩
   ·have ho:¬eo = -2:=by omega
    have ht1:¬to = -1:=ht
    rw [if_neg (fun h=>ht h.1),List.append_nil] at HRS
    have HLN:Hide (false=lastB (row.take (i+1))):=⟨by rw [HLT.out]; simp [ht]⟩
    rw [← HRS.out] at HL
    clear HLT HLS hoe
    cases last with
    | true =>
     iterate 8 all_goals try first|with_reducible refine spI (fun h=>?_) fun h=>?_|with_reducible refine spB (fun h=>?_) fun h=>?_|simp (maxSteps:=999999) (disch:=first|assumption|omega|(simp;done)|fail) [*]
     exact ih2.out (row.length - (i+1)) _ _ (by omega) ⟨i+1,_,_,L,lv,false,by omega,rfl,rfl,by omega,⟨fun b hb=>(gpl (by omega)).trans (HGI.out b hb)⟩,(gpl (by omega)).trans hgl,HL,hLl,⟨HLV.out.keepTo (by omega) fun b hb _ _=>gpl hb⟩,HLX,HLN,by simp [*],by simp [*],by simp [*],by simp [*],by simp [*],by simp [*],by simp,by simp⟩
    | false =>
     iterate 8 all_goals try first|with_reducible refine spI (fun h=>?_) fun h=>?_|with_reducible refine spB (fun h=>?_) fun h=>?_|simp (maxSteps:=999999) (disch:=first|assumption|omega|(simp;done)|fail) [*]
     exact ih2.out (row.length - (i+1)) _ _ (by omega) ⟨i+1,_,_,L,lv,false,by omega,rfl,rfl,by omega,⟨fun b hb=>(gpl (by omega)).trans (HGI.out b hb)⟩,(gpl (by omega)).trans hgl,HL,hLl,⟨HLV.out.keepTo (by omega) fun b hb _ _=>gpl hb⟩,HLX,HLN,by simp [*],by simp [*],by simp [*],by simp [*],by simp [*],by simp [*],by simp,by simp⟩
  ·have hilI:¬(i:Int) < (I:Int):=by omega
   have hrt:row.take i=row:=List.take_of_length_le (by omega)
   rw [hrt] at HL HLS
   clear hrt
   cases last with
   | true =>
    have HRK:Hide (rbk W [] (endsM (T.take (k+1)) 0)=insW wk L):=⟨by
     rw [HES.out]
     unfold endR
     rw [if_pos HLS.out.symm,← List.append_assoc,rbk_app,← HL.out]
     show insW (eW W (k,-1)) L=_
     unfold eW
     dsimp only
     rw [if_pos rfl,List.append_nil,HWK.out]⟩
    have HLN2:Hide (∀ x∈insW wk L,x.length≤1000):=⟨fun x hx=>by
     rcases insW_mem.1 hx with h | h
     ·rw [h]; omega
     ·exact HLX.out x h⟩
    have HAD:=Hide.mk (add3_w (l:=L) (w:=wk) (by omega) (by omega) HLX.out gI (keepG (n+1) n1 gI) keepG_out n3 lv qw HLV.out.two (HQW.out.keepTo (by omega) fun a h1 _ _=>HGI.out a h1))
    clear HLS hv
    iterate 8 all_goals try first|with_reducible refine spI (fun h=>?_) fun h=>?_|with_reducible refine spB (fun h=>?_) fun h=>?_|simp (maxSteps:=999999) (disch:=first|assumption|omega|(simp;done)|fail) [*]
    refine WC.mono HAD.out ?_
    rintro _ ⟨ov,g5,n5,B,cs,rfl,hn5,hg5,hgr,hrw⟩
    have HG5:Hide (∀ b,b < n3→g5 b=gI b):=⟨hg5⟩
    have HLV5:Hide (ListV (keepG (n+1) n1 g5) n5 (insW wk L) ov):=⟨hgr.keepL hn5 (by omega) (by omega) hg5 hrw⟩
    clear hg5 hgr hrw HAD
    iterate 8 all_goals try first|with_reducible refine spI (fun h=>?_) fun h=>?_|with_reducible refine spB (fun h=>?_) fun h=>?_|simp (maxSteps:=999999) (disch:=first|assumption|omega|(simp;done)|fail) [*]
    exact ih.out (T.length - (k+1)) _ _ (by omega) ⟨k+1,n5,g5,insW wk L,ov,by omega,rfl,rfl,by omega,⟨fun b hb=>(HG5.out b (by omega)).trans (HGI.out b hb)⟩,(HG5.out n1 (by omega)).trans hgl,⟨HRK.out.symm⟩,HLV5,HLN2,by simp [*],by simp [*],by simp [*],by simp [*],by simp [*],by simp⟩
   | false =>
    have HRK:Hide (rbk W [] (endsM (T.take (k+1)) 0)=L):=⟨by
     rw [HES.out]
     unfold endR
     rw [if_neg (by rw [← HLS.out]; simp),List.append_nil,← HL.out]⟩
    clear HLS hv
    iterate 8 all_goals try first|with_reducible refine spI (fun h=>?_) fun h=>?_|with_reducible refine spB (fun h=>?_) fun h=>?_|simp (maxSteps:=999999) (disch:=first|assumption|omega|(simp;done)|fail) [*]
    exact ih.out (T.length - (k+1)) _ _ (by omega) ⟨k+1,n3,gI,L,lv,by omega,rfl,rfl,by omega,HGI,hgl,⟨HRK.out.symm⟩,HLV,HLX,by simp [*],by simp [*],by simp [*],by simp [*],by simp [*],by simp⟩
 ·have hltI:¬(k:Int) < (T.length:Int):=by omega
  have hke:k=T.length:=by omega
  have HLE:Hide (L=rbk W [] E):=⟨by rw [HL.out,List.take_of_length_le (by omega),← HEE.out]⟩
  have HPA:Hide (∀ w∈L,PathM T 0 w):=⟨fun w hw=>path_rbk HLB.out (by rw [← HEE.out,← HLE.out]; exact hw)⟩
  have hLl:=HLEN.out k
  rw [← HL.out] at hLl
  rw [← HLE.out]
  have hlenL:=@lenV Tryz.prog _ _ _ _ _ HLV.out.choose_spec.1
  have h1lv:oneC lv=true:=HLV.out.choose_spec.1.one
  clear HLE HL HLEN HST HPR HLB HWL HLW HEE hke
  iterate 8 all_goals try first|with_reducible refine spI (fun h=>?_) fun h=>?_|with_reducible refine spB (fun h=>?_) fun h=>?_|simp (maxSteps:=999999) (disch:=first|assumption|omega|(simp;done)|fail) [*]
  refine LX.ind (fun m gf H'=>∃ (q n3 B:Nat) (gC:Nat→Option Blk) (sv:AV) (cs:List AV),q≤L.length∧m=L.length - q∧H'=⟨.fn gC,n3⟩∧n2≤n3∧B < n3∧Hide (∀ b,b < n2→b≠n1→gC b=gL b)∧gC n1=some (.cells [.lit (.int .i64 I),.lit (.int .i64 O),sv] true 0)∧Hide (GrowV gC n2 n3 B sv q 2 cs)∧Hide (RowsO (keepG (n+1) n1 gL) n2 gC n3 B ((L.take q).map fun w=>(w,respM T 0 w)) cs) ∧
   gf 1=some (.ptr n 0)∧gf 2=some (.ptr (n+1) 0)∧gf 4=some (.ptr n1 0)∧gf 5=some lv∧gf 10=some (.lit (.int .i64 q))) (m0:=L.length) ?_ ?_
  ·exact ⟨0,n2,0,gL,_,[],Nat.zero_le _,rfl,rfl,Nat.le_refl _,by omega,⟨fun _ _ _=>rfl⟩,hgl,⟨.inl ⟨rfl,rfl,rfl⟩⟩,⟨⟨rfl,fun k hk=>by simp at hk⟩⟩,by simp [*],by simp [*],by simp [*],by simp [*],by simp⟩
  clear w1 w2 w3 w4 w5 w6 ih hgl
  rintro m gf H' ⟨q,n3,B,gC,sv,cs,hq,rfl,rfl,hn3,hBn,HC,hgl,HGR,HRO,w1,w2,w4,w5,w10⟩ ih
  have hcn:=(HC.out n (by omega) (by omega)).trans hgn
  have hcz:=(HC.out (n+1) (by omega) (by omega)).trans hgz
  refine LX.roundP (noO_ok _ _) hG pl36 (by decide +kernel) ?_
  by_cases hlq:q < L.length
  ·have hlqI:(q:Int) < (L.length:Int):=by omega
   have hL2:∃ svs,SliceV gC n2 lv L.length svs∧RowsW (keepG (n+1) n1 gL) n2 L svs:=let ⟨svs,h1,h2⟩:=HLV.out; ⟨svs,h1.keepOut (Nat.le_refl _) fun a h1 _ h3=>HC.out a h1 h3,h2⟩
   obtain ⟨a1,o1,qv,ha1,hia1,hc1,hqv⟩:=list_at2 hL2 hlq
   have hpw:=HPA.out _ (List.getElem_mem hlq)
   have hwl:=HLX.out _ (List.getElem_mem hlq)
   have HTK:Hide ((L.take (q+1)).map (fun w=>(w,respM T 0 w))=(L.take q).map (fun w=>(w,respM T 0 w))++[(L[q],respM T 0 L[q])]):=⟨by rw [take_snoc hlq,List.map_append]; rfl⟩
   have HQV:=Hide.mk hqv
   have hlw:=@lenV Tryz.prog _ _ _ _ _ hqv
   have h1q:oneC qv=true:=hqv.one
   have hcq:cellsOf qv=[qv]:=hqv.cell
   have HPW:=Hide.mk hpw
   clear hL2 hqv hpw
   generalize L[q]=w at *
   have h1sv:oneC sv=true:=HGR.out.one
   iterate 8 all_goals try first|with_reducible refine spI (fun h=>?_) fun h=>?_|with_reducible refine spB (fun h=>?_) fun h=>?_|simp (maxSteps:=999999) (disch:=first|assumption|omega|(simp;done)|fail) [*]
   refine LX.ind (fun m gf H'=>∃ (j n4 B6:Nat) (gI:Nat→Option Blk) (rv:AV) (r:List Int) (x:Int),j≤w.length∧m=w.length - j∧H'=⟨.fn gI,n4⟩∧n3≤n4∧r.length≤j∧Hide (∀ b,b < n3→gI b=gC b)∧Hide (GrowV gI n3 n4 B6 rv r.length 1 (wdC r))∧Hide (PathM T x (w.drop j))∧Hide (respM T 0 w=r++respM T x (w.drop j)) ∧
    gf 1=some (.ptr n 0)∧gf 2=some (.ptr (n+1) 0)∧gf 4=some (.ptr n1 0)∧gf 5=some lv∧gf 10=some (.lit (.int .i64 q))∧gf 11=some (.lit (.int .i64 x))∧gf 12=some rv∧gf 13=some (.lit (.int .i64 j))) (m0:=w.length) ?_ ?_
   ·exact ⟨0,n3,0,gC,_,[],0,Nat.zero_le _,rfl,rfl,Nat.le_refl _,Nat.le_refl _,⟨fun _ _=>rfl⟩,⟨.inl ⟨rfl,rfl,rfl⟩⟩,HPW,⟨rfl⟩,by simp [*],by simp [*],by simp [*],by simp [*],by simp [*],by simp,by simp,by simp⟩
   clear w1 w2 w4 w5 w10 HPW
   rintro m gf H' ⟨j,n4,B6,gI,rv,r,x,hj,rfl,rfl,hn4,hrj,HI,HG6,HPX,HRX,w1,w2,w4,w5,w10,w11,w12,w13⟩ ih2
   have hin:=(HI.out n (by omega)).trans hcn
   have hiz:=(HI.out (n+1) (by omega)).trans hcz
   have HIL:=Hide.mk ((HI.out n1 (by omega)).trans hgl)
   have hc1I:loadB (some (false,1)) (gI a1) (o1+q)=some qv:=by rw [HI.out a1 (by omega)]; exact hc1
   refine LX.roundP (noO_ok _ _) hG pl36 (by decide +kernel) ?_
   by_cases hjl:j < w.length
   ·have hjlI:(j:Int) < (w.length:Int):=by omega
    obtain ⟨a2,o2,ha2,hia2,hc2⟩:=RepW.at (HQV.out.keepOut (g':=gI) (Nat.le_refl _) fun a h1 _ h3=>(HI.out a (by omega)).trans (HC.out a h1 h3)) hjl
    have hdr:w.drop j=w[j] :: w.drop (j+1):=List.drop_eq_getElem_cons hjl
    have hpx:=HPX.out
    have hrx:=HRX.out
    rw [hdr] at hpx hrx
    obtain ⟨a,jj,hat,hjt,rfl,hwj,hnx⟩:=hpx
    rw [hwj] at hrx hc2
    rw [respM_step hat hjt] at hrx
    obtain ⟨a3,o3,tq,ha3,hia3,hc3,htq⟩:=HT.out.at hat
    obtain ⟨a4,o4,ha4,hia4,hc4⟩:=edge_at htq hjt
    have hTX:∀ b,b < n→gI b=g b:=fun b hb=>by rw [HI.out b (by omega),HC.out b (by omega) (by omega),HG.out b (by omega),HG1.out b hb]
    rw [← hTX a3 ha3] at hc3
    rw [← hTX a4 ha4] at hc4
    have HNX:=Hide.mk hnx
    have HRY:=Hide.mk hrx
    have hrll:(wdC r).length=r.length * 1:=by rw [wdC_len,Nat.mul_one]
    clear hdr hwj hnx hrx htq hTX HPX HRX
    generalize T[a][jj]=e at *
    obtain ⟨to,eo⟩:=e
    dsimp only at HNX HRY hc4
    iterate 1 all_goals try first|with_reducible refine spI (fun h=>?_) fun h=>?_|with_reducible refine spB (fun h=>?_) fun h=>?_|simp (maxSteps:=999999) (disch:=first|assumption|omega|(simp;done)|fail) [*]
    refine spI (fun ht=>?_) (fun ht=>?_)
    ·subst ht
     rw [if_pos rfl] at HRY
     rcases HG6.out with ⟨h6,hc6,hs6⟩ | ⟨h6,hs6,hC1,hC2,hC3,hC4⟩
     ·subst hs6
      have HZ:=Hide.mk (And.intro h6 hc6)
      clear h6 hc6
      iterate 2 all_goals try first|with_reducible refine spI (fun h=>?_) fun h=>?_|with_reducible refine spB (fun h=>?_) fun h=>?_|simp (maxSteps:=999999) (disch:=first|assumption|omega|(simp;done)|fail) [*]
      have HFR:Hide (FreshW (gput (gput (gput gI n4 (some (Blk.cells [AV.lit (Value.int IntKind.i64 (-1)),AV.lit (Value.int IntKind.i64 eo)] true 0))) (n4+1) (some (Blk.cells [AV.lit (Value.int IntKind.i64 (-1))] true 0))) (n4+1+1) (some (Blk.cells [AV.lit (Value.int IntKind.i64 (-1))] true 1))) n3 (n4+1+1+1) (respM T 0 w) (.slq (n4+1+1) 0 1 0)):=⟨by
       have hr0:r=[]:=List.length_eq_zero_iff.1 HZ.out.1
       rw [HRY.out,hr0]
       exact GrowV.fresh (B:=n4+1+1) (.mk (cs:=[.lit (.int .i64 (-1))]) gpe (by omega) (by omega) rfl) rfl⟩
      have hil:=HIL.out
      have hone2:allOne [qv,.slq (n4+1+1) 0 1 0]=true:=by simp [h1q]
      rcases HGR.out with ⟨k6,kc6,ks6⟩ | ⟨k6,ks6,kC1,kC2,kC3,kC4⟩
      ·subst ks6
       have KZ:=Hide.mk (And.intro k6 kc6)
       clear k6 kc6
       iterate 8 all_goals try first|with_reducible refine spI (fun h=>?_) fun h=>?_|with_reducible refine spB (fun h=>?_) fun h=>?_|simp (maxSteps:=999999) (disch:=first|assumption|omega|(simp;done)|fail) [*]
       refine ih.out (L.length - (q+1)) _ _ (by omega) ⟨q+1,n4+1+1+1+1+1,n4+1+1+1+1,_,.slq (n4+1+1+1+1) 0 (q+1) 0,cs++[qv,.slq (n4+1+1) 0 1 0],by omega,rfl,rfl,by omega,by omega,⟨fun b hb hb2=>?_⟩,?_,⟨.mk ?_ (by omega) (by omega) (by rw [KZ.out.2]; simp [KZ.out.1])⟩,⟨?_⟩,by simp [*],by simp [*],by simp [*],by simp [*],by simp [*]⟩
       ·simp (disch:=omega) only [gpl,gpn]; exact (HI.out b (by omega)).trans (HC.out b hb hb2)
       ·rw [KZ.out.1]; simp (disch:=omega) only [gpl,gpn,gpe] <;> rfl
       ·rw [KZ.out.2]; simp (disch:=omega) only [gpl,gpn,gpe]; rfl
       ·rw [HTK.out]
        refine (HRO.out.keep (by omega) (.inl (by omega)) fun a h1 h2 h3=>?_).snoc HQV.out (HFR.out.safe (by omega) (by omega) (.inl (by omega)) fun a h1 h2=>?_)
        ·simp (disch:=omega) only [gpl,gpn]; exact HI.out a h2
        ·simp (disch:=omega) only [gpl,gpn]
      ·subst ks6
       have kB:gI B=some (.cells cs true 2):=(HI.out B (by omega)).trans kC3
       clear kC3
       iterate 8 all_goals try first|with_reducible refine spI (fun h=>?_) fun h=>?_|with_reducible refine spB (fun h=>?_) fun h=>?_|simp (maxSteps:=999999) (disch:=first|assumption|omega|(simp;done)|fail) [*]
       refine ih.out (L.length - (q+1)) _ _ (by omega) ⟨q+1,n4+1+1+1+1+1,n4+1+1+1+1,_,.slq (n4+1+1+1+1) 0 (q+1) 0,cs++[qv,.slq (n4+1+1) 0 1 0],by omega,rfl,rfl,by omega,by omega,⟨fun b hb hb2=>?_⟩,?_,⟨.mk ?_ (by omega) (by omega) (by simp; omega)⟩,⟨?_⟩,by simp [*],by simp [*],by simp [*],by simp [*],by simp [*]⟩
       ·simp (disch:=omega) only [gpl,gpn]; exact (HI.out b (by omega)).trans (HC.out b hb hb2)
       ·simp (disch:=omega) only [gpl,gpn,gpe] <;> rfl
       ·simp (disch:=omega) only [gpl,gpn,gpe]
       ·rw [HTK.out]
        refine (HRO.out.keep (by omega) (.inl (by omega)) fun a h1 h2 h3=>?_).snoc HQV.out (HFR.out.safe (by omega) (by omega) (.inl (by omega)) fun a h1 h2=>?_)
        ·simp (disch:=omega) only [gpl,gpn]; exact HI.out a h2
        ·simp (disch:=omega) only [gpl,gpn]
     ·subst hs6
      iterate 2 all_goals try first|with_reducible refine spI (fun h=>?_) fun h=>?_|with_reducible refine spB (fun h=>?_) fun h=>?_|simp (maxSteps:=999999) (disch:=first|assumption|omega|(simp;done)|fail) [*]
      have HFR:Hide (FreshW (gput (gput (gput (gput gI n4 (some (Blk.cells [AV.lit (Value.int IntKind.i64 (-1)),AV.lit (Value.int IntKind.i64 eo)] true 0))) (n4+1) (some (Blk.cells [AV.lit (Value.int IntKind.i64 (-1))] true 0))) B6 none) (n4+1+1) (some (Blk.cells (wdC r++[AV.lit (Value.int IntKind.i64 (-1))]) true 1))) n3 (n4+1+1+1) (respM T 0 w) (.slq (n4+1+1) 0 (r.length+1) 0)):=⟨by
       rw [HRY.out]
       exact GrowV.fresh (B:=n4+1+1) (.mk (cs:=wdC (r++[-1])) (gpe.trans (by rw [wdC_snoc])) (by omega) (by omega) (by rw [wdC_len]; simp)) (by simp)⟩
      have hil:=HIL.out
      have hone2:allOne [qv,.slq (n4+1+1) 0 (r.length+1) 0]=true:=by simp [h1q]
      rcases HGR.out with ⟨k6,kc6,ks6⟩ | ⟨k6,ks6,kC1,kC2,kC3,kC4⟩
      ·subst ks6
       have KZ:=Hide.mk (And.intro k6 kc6)
       clear k6 kc6
       iterate 8 all_goals try first|with_reducible refine spI (fun h=>?_) fun h=>?_|with_reducible refine spB (fun h=>?_) fun h=>?_|simp (maxSteps:=999999) (disch:=first|assumption|omega|(simp;done)|fail) [*]
       refine ih.out (L.length - (q+1)) _ _ (by omega) ⟨q+1,n4+1+1+1+1+1,n4+1+1+1+1,_,.slq (n4+1+1+1+1) 0 (q+1) 0,cs++[qv,.slq (n4+1+1) 0 (r.length+1) 0],by omega,rfl,rfl,by omega,by omega,⟨fun b hb hb2=>?_⟩,?_,⟨.mk ?_ (by omega) (by omega) (by rw [KZ.out.2]; simp [KZ.out.1])⟩,⟨?_⟩,by simp [*],by simp [*],by simp [*],by simp [*],by simp [*]⟩
       ·simp (disch:=omega) only [gpl,gpn]; exact (HI.out b (by omega)).trans (HC.out b hb hb2)
       ·rw [KZ.out.1]; simp (disch:=omega) only [gpl,gpn,gpe] <;> rfl
       ·rw [KZ.out.2]; simp (disch:=omega) only [gpl,gpn,gpe]; rfl
       ·rw [HTK.out]
        refine (HRO.out.keep (by omega) (.inl (by omega)) fun a h1 h2 h3=>?_).snoc HQV.out (HFR.out.safe (by omega) (by omega) (.inl (by omega)) fun a h1 h2=>?_)
        ·simp (disch:=omega) only [gpl,gpn]; exact HI.out a h2
        ·simp (disch:=omega) only [gpl,gpn]
      ·subst ks6
       have kB:gI B=some (.cells cs true 2):=(HI.out B (by omega)).trans kC3
       clear kC3
       iterate 8 all_goals try first|with_reducible refine spI (fun h=>?_) fun h=>?_|with_reducible refine spB (fun h=>?_) fun h=>?_|simp (maxSteps:=999999) (disch:=first|assumption|omega|(simp;done)|fail) [*]
       refine ih.out (L.length - (q+1)) _ _ (by omega) ⟨q+1,n4+1+1+1+1+1,n4+1+1+1+1,_,.slq (n4+1+1+1+1) 0 (q+1) 0,cs++[qv,.slq (n4+1+1) 0 (r.length+1) 0],by omega,rfl,rfl,by omega,by omega,⟨fun b hb hb2=>?_⟩,?_,⟨.mk ?_ (by omega) (by omega) (by simp; omega)⟩,⟨?_⟩,by simp [*],by simp [*],by simp [*],by simp [*],by simp [*]⟩
       ·simp (disch:=omega) only [gpl,gpn]; exact (HI.out b (by omega)).trans (HC.out b hb hb2)
       ·simp (disch:=omega) only [gpl,gpn,gpe] <;> rfl
       ·simp (disch:=omega) only [gpl,gpn,gpe]
       ·rw [HTK.out]
        refine (HRO.out.keep (by omega) (.inl (by omega)) fun a h1 h2 h3=>?_).snoc HQV.out (HFR.out.safe (by omega) (by omega) (.inl (by omega)) fun a h1 h2=>?_)
        ·simp (disch:=omega) only [gpl,gpn]; exact HI.out a h2
        ·simp (disch:=omega) only [gpl,gpn]
    ·rw [if_neg ht] at HRY
     have HN2:Hide (PathM T to (w.drop (j+1))):=⟨HNX.out.resolve_left ht⟩
     rcases HG6.out with ⟨h6,hc6,hs6⟩ | ⟨h6,hs6,hC1,hC2,hC3,hC4⟩
     ·subst hs6
      have HZ:=Hide.mk (And.intro h6 hc6)
      clear h6 hc6
      iterate 8 all_goals try first|with_reducible refine spI (fun h=>?_) fun h=>?_|with_reducible refine spB (fun h=>?_) fun h=>?_|simp (maxSteps:=999999) (disch:=first|assumption|omega|(simp;done)|fail) [*]
      refine ih2.out (w.length - (j+1)) _ _ (by omega) ⟨j+1,n4+1+1+1,n4+1+1,_,.slq (n4+1+1) 0 (r.length+1) 0,r++[eo],to,by omega,rfl,rfl,by omega,by simp; omega,⟨fun b hb=>?_⟩,⟨?_⟩,HN2,⟨by rw [HRY.out]; simp⟩,by simp [*],by simp [*],by simp [*],by simp [*],by simp [*],by simp,by simp [HZ.out.1],by simp⟩
      ·simp (disch:=omega) only [gpl,gpn]; exact HI.out b hb
      ·rw [List.length_append,List.length_singleton]
       refine .mk ?_ (by omega) (by omega) (by rw [wdC_len]; simp)
       rw [wdC_snoc,HZ.out.2]
       simp (disch:=omega) only [gpl,gpn,gpe]; rfl
     ·subst hs6
      iterate 8 all_goals try first|with_reducible refine spI (fun h=>?_) fun h=>?_|with_reducible refine spB (fun h=>?_) fun h=>?_|simp (maxSteps:=999999) (disch:=first|assumption|omega|(simp;done)|fail) [*]
      refine ih2.out (w.length - (j+1)) _ _ (by omega) ⟨j+1,n4+1+1+1,n4+1+1,_,.slq (n4+1+1) 0 (r.length+1) 0,r++[eo],to,by omega,rfl,rfl,by omega,by simp; omega,⟨fun b hb=>?_⟩,⟨?_⟩,HN2,⟨by rw [HRY.out]; simp⟩,by simp [*],by simp [*],by simp [*],by simp [*],by simp [*],by simp,by simp [*],by simp⟩
      ·simp (disch:=omega) only [gpl,gpn]; exact HI.out b hb
      ·rw [List.length_append,List.length_singleton]
       refine .mk ?_ (by omega) (by omega) (by rw [wdC_len]; simp)
       rw [wdC_snoc]
       simp (disch:=omega) only [gpl,gpn,gpe]
   ·have hjlI:¬(j:Int) < (w.length:Int):=by omega
    have h1r:oneC rv=true:=HG6.out.one
    have hcr:cellsOf rv=[rv]:=HG6.out.slice.cell
    iterate 2 all_goals try first|with_reducible refine spI (fun h=>?_) fun h=>?_|with_reducible refine spB (fun h=>?_) fun h=>?_|simp (maxSteps:=999999) (disch:=first|assumption|omega|(simp;done)|fail) [*]
    have HFR:Hide (FreshW gI n3 n4 (respM T 0 w) rv):=⟨by
     have h1:=HRX.out
     rw [List.drop_eq_nil_of_le (by omega)] at h1
     rw [h1,show respM T x []=[] from rfl,List.append_nil]
     exact HG6.out.fresh rfl⟩
    have hil:=HIL.out
    have hone2:allOne [qv,rv]=true:=by simp [h1q,h1r]
    rcases HGR.out with ⟨k6,kc6,ks6⟩ | ⟨k6,ks6,kC1,kC2,kC3,kC4⟩
    ·subst ks6
     have KZ:=Hide.mk (And.intro k6 kc6)
     clear k6 kc6
     iterate 8 all_goals try first|with_reducible refine spI (fun h=>?_) fun h=>?_|with_reducible refine spB (fun h=>?_) fun h=>?_|simp (maxSteps:=999999) (disch:=first|assumption|omega|(simp;done)|fail) [*]
     refine ih.out (L.length - (q+1)) _ _ (by omega) ⟨q+1,n4+1+1,n4+1,_,.slq (n4+1) 0 (q+1) 0,cs++[qv,rv],by omega,rfl,rfl,by omega,by omega,⟨fun b hb hb2=>?_⟩,?_,⟨.mk ?_ (by omega) (by omega) (by rw [KZ.out.2]; simp [KZ.out.1])⟩,⟨?_⟩,by simp [*],by simp [*],by simp [*],by simp [*],by simp [*]⟩
     ·simp (disch:=omega) only [gpl,gpn]; exact (HI.out b (by omega)).trans (HC.out b hb hb2)
     ·rw [KZ.out.1]; simp (disch:=omega) only [gpl,gpn,gpe] <;> rfl
     ·rw [KZ.out.2]; simp (disch:=omega) only [gpl,gpn,gpe]; rfl
     ·rw [HTK.out]
      refine (HRO.out.keep (by omega) (.inl (by omega)) fun a h1 h2 h3=>?_).snoc HQV.out (HFR.out.safe (by omega) (by omega) (.inl (by omega)) fun a h1 h2=>?_)
      ·simp (disch:=omega) only [gpl,gpn]; exact HI.out a h2
      ·simp (disch:=omega) only [gpl,gpn]
    ·subst ks6
     have kB:gI B=some (.cells cs true 2):=(HI.out B (by omega)).trans kC3
     clear kC3
     iterate 8 all_goals try first|with_reducible refine spI (fun h=>?_) fun h=>?_|with_reducible refine spB (fun h=>?_) fun h=>?_|simp (maxSteps:=999999) (disch:=first|assumption|omega|(simp;done)|fail) [*]
     refine ih.out (L.length - (q+1)) _ _ (by omega) ⟨q+1,n4+1+1,n4+1,_,.slq (n4+1) 0 (q+1) 0,cs++[qv,rv],by omega,rfl,rfl,by omega,by omega,⟨fun b hb hb2=>?_⟩,?_,⟨.mk ?_ (by omega) (by omega) (by simp; omega)⟩,⟨?_⟩,by simp [*],by simp [*],by simp [*],by simp [*],by simp [*]⟩
     ·simp (disch:=omega) only [gpl,gpn]; exact (HI.out b (by omega)).trans (HC.out b hb hb2)
     ·simp (disch:=omega) only [gpl,gpn,gpe] <;> rfl
     ·simp (disch:=omega) only [gpl,gpn,gpe]
     ·rw [HTK.out]
      refine (HRO.out.keep (by omega) (.inl (by omega)) fun a h1 h2 h3=>?_).snoc HQV.out (HFR.out.safe (by omega) (by omega) (.inl (by omega)) fun a h1 h2=>?_)
      ·simp (disch:=omega) only [gpl,gpn]; exact HI.out a h2
      ·simp (disch:=omega) only [gpl,gpn]
  ·have hlqI:¬(q:Int) < (L.length:Int):=by omega
   have h1sv:oneC sv=true:=HGR.out.one
   have hone8:allOne [.lit (.int .i64 I),.lit (.int .i64 O),sv]=true:=by simp [h1sv]
   iterate 8 all_goals try first|with_reducible refine spI (fun h=>?_) fun h=>?_|with_reducible refine spB (fun h=>?_) fun h=>?_|simp (maxSteps:=999999) (disch:=first|assumption|omega|(simp;done)|fail) [Tryz.results36, *]
   have hqL:q=L.length:=by omega
   have hRO:=HRO.out
   rw [List.take_of_length_le (by omega)] at hRO
   refine ⟨sv,_,_,⟨rfl,rfl,rfl⟩,by omega,fun b hb=>?_,cs,?_,?_⟩
   ·rw [gpl (by omega),HC.out b (by omega) (by omega),HG.out b (by omega)]; exact HG1.out b hb
   ·rw [List.length_map,← hqL]
    exact SliceV.ext (Nat.le_refl _) (fun a x _ hx=>by
     split at hx
     ·rename_i h1
      rw [gpn (by omega)]; exact hx
     ·cases hx) HGR.out.slice
   ·refine hRO.rows (by omega) (fun a x ha hx=>?_) fun a h1 h2=>gpn (by omega)
    unfold keepG at hx
    split at hx
    ·rename_i h1
     rw [gpn (by omega),HC.out a ha h1.2]; exact hx
    ·cases hx
end Go.Ai
end
