/- A small verified interpreter over names, its proofs, and what was proved with it. No condition. -/
import Derived.Test.YtiddfilinnbhaaaGreatDoorB13
import Derived.Test.YtiddfilinnbhaaaGreatDoorB07
import Derived.Test.YtiddfilinnbhaaaGreatDoorB12
set_option linter.all false
set_option linter.deprecated false
section
namespace Go.Ai
open Go.Proofs
set_option maxRecDepth 10000
set_option maxHeartbeats 40000000
def addM (w:List Int) : List (List Int)→Bool→List (List Int)
 | [],p=>if p then [] else [w]
 | x :: l,p=>(if cmpM w x < 0∧p=false then [w] else [])++x :: addM w l (p || decide (cmpM w x≤0))
theorem addM_t {w:List Int} : ∀ (l:List (List Int)),addM w l true=l
 | []=>rfl
 | x :: l=>by
  unfold addM
  rw [if_neg (by simp),Bool.true_or,addM_t l]; rfl
theorem addM_f {w:List Int} : ∀ (l:List (List Int)),addM w l false=insW w l
 | []=>rfl
 | x :: l=>by
  unfold addM insW
  rw [Bool.false_or]
  by_cases h1:cmpM w x < 0
  ·rw [if_pos ⟨h1,rfl⟩,if_pos h1,decide_eq_true (by omega),addM_t]; rfl
  ·rw [if_neg (fun h=>h1 h.1),if_neg h1]
   by_cases h2:cmpM w x=0
   ·rw [if_pos h2,decide_eq_true (by omega),addM_t]; rfl
   ·rw [if_neg h2,decide_eq_false (by omega),addM_f l]; rfl
theorem RowsW.snoc {g:Nat→Option Blk} {n:Nat} {l:List (List Int)} {svs:List AV} (h:RowsW g n l svs) {x:List Int} {q:AV} (hq:RepW g n x q) : RowsW g n (l++[x]) (svs++[q]):=by
 refine ⟨by simp [h.1],fun k hk=>?_⟩
 have hl:=h.1
 rw [List.length_append,List.length_singleton] at hk
 by_cases h2:k < l.length
 ·obtain ⟨sv,e1,e2⟩:=h.2 k h2
  exact ⟨sv,by rw [List.getElem?_append_left (by omega)]; exact e1,by rw [List.getElem_append_left h2]; exact e2⟩
 ·have e:k=l.length:=by omega
  subst e
  exact ⟨q,by rw [← hl,List.getElem?_append_right (Nat.le_refl _)]; simp,by rw [List.getElem_append_right (Nat.le_refl _)]; simpa using hq⟩
theorem insW_len {w:List Int} : ∀ {l:List (List Int)},(insW w l).length≤l.length+1
 | []=>Nat.le_refl _
 | x :: l=>by
  have:=@insW_len w l
  unfold insW
  split
  ·simp
  ·split
   ·simp
   ·simp; omega
def RowsG (g:Nat→Option Blk) (n:Nat) (rows:List (List (Int×Int))) (svs:List AV) : Prop:=svs.length=rows.length∧∀ (k:Nat) (h:k < rows.length),∃ sv,svs[k]?=some sv∧SliceV g n sv rows[k].length (rowC rows[k])
def TreeV (g:Nat→Option Blk) (n:Nat) (rows:List (List (Int×Int))) (tv:AV) : Prop:=∃ svs,SliceV g n tv rows.length svs∧RowsG g n rows svs
theorem RowsG.snoc {g:Nat→Option Blk} {n:Nat} {l:List (List (Int×Int))} {svs:List AV} (h:RowsG g n l svs) {x:List (Int×Int)} {q:AV} (hq:SliceV g n q x.length (rowC x)) : RowsG g n (l++[x]) (svs++[q]):=by
 refine ⟨by simp [h.1],fun k hk=>?_⟩
 have hl:=h.1
 rw [List.length_append,List.length_singleton] at hk
 by_cases h2:k < l.length
 ·obtain ⟨sv,e1,e2⟩:=h.2 k h2
  exact ⟨sv,by rw [List.getElem?_append_left (by omega)]; exact e1,by rw [List.getElem_append_left h2]; exact e2⟩
 ·have e:k=l.length:=by omega
  subst e
  exact ⟨q,by rw [← hl,List.getElem?_append_right (Nat.le_refl _)]; simp,by rw [List.getElem_append_right (Nat.le_refl _)]; simpa using hq⟩
theorem RowsG.ext {g g' : Nat→Option Blk} {n n' : Nat} {l:List (List (Int×Int))} {svs:List AV} (h:RowsG g n l svs) (hn:n≤n') (hg:∀ a x,a < n→g a=some x→g' a=some x) : RowsG g' n' l svs :=
 ⟨h.1,fun k hk=>let ⟨sv,h1,h2⟩:=h.2 k hk; ⟨sv,h1,SliceV.ext hn hg h2⟩⟩
theorem TreeV.mono {g g' : Nat→Option Blk} {n n' : Nat} {rows:List (List (Int×Int))} {tv:AV} (h:TreeV g n rows tv) (hn:n≤n') (hg:∀ a,a < n→g' a=g a) : TreeV g' n' rows tv :=
 let ⟨svs,h1,h2⟩:=h; ⟨svs,h1.mono hn hg,h2.ext hn fun a x ha hx=>(hg a ha).trans hx⟩
theorem RowsC.tree {g:Nat→Option Blk} {lo n I B:Nat} {rows:List (List (Int×Int))} {bs:List Nat} (h:RowsC g lo n I rows bs) (hB:B < n) (hg:g B=some (.cells (rowS I bs) true 0)) : TreeV g n rows (.sl B 0 rows.length rows.length):=by
 refine ⟨rowS I bs,sliceV_all hg hB,by rw [rowS_len]; exact h.len,fun k hk=>?_⟩
 have hk2:k < bs.length:=by have:=h.len; omega
 obtain ⟨e1,e2,e3,e4⟩:=h.at' k hk2 hk
 refine ⟨.sl bs[k] 0 I I,by rw [List.getElem?_eq_getElem (by rw [rowS_len]; exact hk2),rowS_at hk2],?_⟩
 rw [e4]
 exact sliceV_all e3 e2
theorem TreeV.at {g:Nat→Option Blk} {n:Nat} {rows:List (List (Int×Int))} {tv:AV} (h:TreeV g n rows tv) {k:Nat} (hk:k < rows.length) : ∃ a off q,a < n∧(∀ {H:Mem} {ev:Ev} {o:Oper} {t:TypeId},iaS Tryz.prog H ev o t (some (none,1)) (some tv) (some (.lit (.int .i64 (k:Int))))=.val (.ptr a (off+k)) H)∧loadB (some (false,1)) (g a) (off+k)=some q∧SliceV g n q rows[k].length (rowC rows[k]):=by
 obtain ⟨svs,h1,h2,h3⟩:=h
 obtain ⟨q,e1,e2⟩:=h3 k hk
 obtain ⟨a,off,ha,hrow,hia⟩:=h1.ia (P:=Tryz.prog) hk 1
 simp only [Nat.mul_one] at hia
 have hc:=hrow.one (k:=k) (s:=1) (by omega)
 rw [(List.getElem?_eq_some_iff.1 e1).2] at hc
 exact ⟨a,off,q,ha,hia,hc,e2⟩
theorem edge_at {g:Nat→Option Blk} {n:Nat} {row:List (Int×Int)} {q:AV} (h:SliceV g n q row.length (rowC row)) {i:Nat} (hi:i < row.length) : ∃ a off,a < n∧(∀ {H:Mem} {ev:Ev} {o:Oper} {t:TypeId},iaS Tryz.prog H ev o t (some (none,2)) (some q) (some (.lit (.int .i64 (i:Int))))=.val (.ptr a (off+i * 2)) H)∧loadB (some (true,2)) (g a) (off+i * 2)=some (.agg [.lit (.int .i64 row[i].1),.lit (.int .i64 row[i].2)]):=by
 obtain ⟨a,off,ha,hrow,hia⟩:=h.ia (P:=Tryz.prog) hi 2
 have hc:=hrow.agg (k:=i * 2) (s:=2) (by rw [rowC_len]; omega)
 rw [rowC_at row i hi] at hc
 exact ⟨a,off,ha,hia,hc⟩
theorem bin_edgeN {H:Mem} {ev:Ev} {d:Option Tmp} {ty rt:TypeId} {p:String} {af:Array Edge} {g:Option (Nat×Bool)} {x y:Operand} {a b a' b' : Int} (hx:ev x=some (.agg [.lit (.int .i64 a),.lit (.int .i64 b)])) (hy:ev y=some (.agg [.lit (.int .i64 a'),.lit (.int .i64 b')])) :
  binS Tryz.prog H ev ⟨d,.binOp .neq 92 x y rt,ty,p,af,g⟩ .neq 92 (some (.agg [.lit (.int .i64 a),.lit (.int .i64 b)])) (some (.agg [.lit (.int .i64 a'),.lit (.int .i64 b')]))=.val (.lit (.bool (!(decide (a=a') && decide (b=b'))))) H:=by
 show oBin Tryz.prog H ev ⟨d,.binOp .neq 92 x y rt,ty,p,af,g⟩ .neq 92 (some (.agg [.lit (.int .i64 a),.lit (.int .i64 b)])) (some (.agg [.lit (.int .i64 a'),.lit (.int .i64 b')]))=_
 refine oBin_generic rfl ?_
 have h1:(Op.operands (.binOp .neq 92 x y rt)).toList=[x,y]:=rfl
 unfold generic
 dsimp only
 rw [h1]
 have l1:toLit (.agg [.lit (.int .i64 a),.lit (.int .i64 b)])=some (.agg #[.int .i64 a,.int .i64 b]):=rfl
 have l2:toLit (.agg [.lit (.int .i64 a'),.lit (.int .i64 b')])=some (.agg #[.int .i64 a',.int .i64 b']):=rfl
 simp only [List.all_cons,List.all_nil,hx,hy,l1,l2,Bool.and_true,if_true]
 have h2:∀ ρ:Operand→Value,ρ x=.agg #[.int .i64 a,.int .i64 b]→ρ y=.agg #[.int .i64 a',.int .i64 b']→pureV Tryz.prog (execOp ρ ⟨d,.binOp .neq 92 x y rt,ty,p,af,g⟩)=some (.value (.bool (!(decide (a=a') && decide (b=b'))))):=by
  intro ρ e1 e2
  refine execOp_bin e1 e2 ?_ ?_
  ·unfold eqGuard; kernel_rfl
  ·show pureV Tryz.prog (do pure (Value.bool (!(← Op.equal 92 _ _))))=_
   exact (pureV_then (equal_edge a b a' b')).trans rfl
 rw [h2 _ (by simp only [hx,l1]) (by simp only [hy,l2])]
attribute [simp] bin_edgeN
theorem mSame_w {rows:List (List (Int×Int))} (hl:rows.length≤100000) (hI:∀ r∈rows,r.length≤1000) (g:Nat→Option Blk) (n:Nat) (tv uv:AV) (h1:TreeV g n rows tv) (h2:TreeV g n rows uv) :
  WC 3 Tryz.prog 62 [.agg [.lit (.int .i64 0),.lit (.int .i64 0),tv],.agg [.lit (.int .i64 0),.lit (.int .i64 0),uv]] ⟨.fn g,n⟩ fun r=>∃ g',r=.ret (.lit (.bool true)) ⟨.fn g',n+1+1⟩∧∀ b,b < n→g' b=g b:=by
 have hlen1:=@lenV Tryz.prog _ _ _ _ _ h1.choose_spec.1
 have hlen2:=@lenV Tryz.prog _ _ _ _ _ h2.choose_spec.1
 have ho1:=h1.choose_spec.1.one
 have ho2:=h2.choose_spec.1.one
 have hone1:allOne [.lit (.int .i64 0),.lit (.int .i64 0),tv]=true:=by simp [ho1]
 have hone2:allOne [.lit (.int .i64 0),.lit (.int .i64 0),uv]=true:=by simp [ho2]
 have H1:=Hide.mk h1
 have H2:=Hide.mk h2
 have HI:=Hide.mk hI
 clear h1 h2 hI
 refine WC.enterP (noO_ok _ _) hG pl62 Tryz.func62 rfl (by decide +kernel) (Nat.le_of_ble_eq_true (by kernel_rfl)) ?_
 iterate 8 all_goals try first|with_reducible refine spI (fun h=>?_) fun h=>?_|with_reducible refine spB (fun h=>?_) fun h=>?_|simp (maxSteps:=999999) (disch:=first|assumption|omega|(simp;done)|fail) [Tryz.results62, *]
 refine LX.ind (fun m gf H'=>∃ (k:Nat) (gL:Nat→Option Blk),k≤rows.length∧m=rows.length - k∧H'=⟨.fn gL,n+1+1⟩∧Hide (∀ b,b < n→gL b=g b)∧gL n=some (.cells [.lit (.int .i64 0),.lit (.int .i64 0),tv] true 0)∧gL (n+1)=some (.cells [.lit (.int .i64 0),.lit (.int .i64 0),uv] true 0)∧gf 2=some (.ptr n 0)∧gf 3=some (.ptr (n+1) 0)∧gf 5=some (.lit (.int .i64 k))) (m0:=rows.length) ?_ ?_
 ·exact ⟨0,_,Nat.zero_le _,rfl,rfl,⟨fun b hb=>by simp (disch:=omega) only [gpl]⟩,by simp (disch:=omega) only [gpl,gpe],gpe,by simp,by simp,by simp⟩
 rintro m gf H' ⟨k,gL,hk,rfl,rfl,HG,hg1,hg2,w2,w3,w5⟩ ih
 refine LX.roundP (noO_ok _ _) hG pl62 (by decide +kernel) ?_
 by_cases hlt:k < rows.length
 ·have hltI:(k:Int) < (rows.length:Int):=by omega
  obtain ⟨a1,o1,q1,ha1,hia1,hc1,hq1⟩:=TreeV.at (n:=n) (H1.out.mono (Nat.le_refl n) HG.out) hlt
  obtain ⟨a2,o2,q2,ha2,hia2,hc2,hq2⟩:=TreeV.at (n:=n) (H2.out.mono (Nat.le_refl n) HG.out) hlt
  have hql1:=@lenV Tryz.prog _ _ _ _ _ hq1
  have hql2:=@lenV Tryz.prog _ _ _ _ _ hq2
  have hrl:=HI.out _ (List.getElem_mem hlt)
  have HQ1:=Hide.mk hq1
  have HQ2:=Hide.mk hq2
  clear hq1 hq2
  generalize rows[k]=row at *
  iterate 8 all_goals try first|with_reducible refine spI (fun h=>?_) fun h=>?_|with_reducible refine spB (fun h=>?_) fun h=>?_|simp (maxSteps:=999999) (disch:=first|assumption|omega|(simp;done)|fail) [Tryz.results62, *]
  refine LX.ind (fun m gf H'=>∃ i:Nat,i≤row.length∧m=row.length - i∧H'=⟨.fn gL,n+1+1⟩∧gf 2=some (.ptr n 0)∧gf 3=some (.ptr (n+1) 0)∧gf 5=some (.lit (.int .i64 k))∧gf 6=some (.lit (.int .i64 i))) (m0:=row.length) ?_ ?_
  ·exact ⟨0,Nat.zero_le _,rfl,rfl,by simp [*],by simp [*],by simp [*],by simp⟩
  clear w2 w3 w5
  rintro m gf H' ⟨i,hi,rfl,rfl,w2,w3,w5,w6⟩ ih2
  refine LX.roundP (noO_ok _ _) hG pl62 (by decide +kernel) ?_
  by_cases hli:i < row.length
  ·have hliI:(i:Int) < (row.length:Int):=by omega
   obtain ⟨a3,o3,ha3,hia3,hc3⟩:=edge_at HQ1.out hli
   obtain ⟨a4,o4,ha4,hia4,hc4⟩:=edge_at HQ2.out hli
   generalize row[i]=e at *
   iterate 8 all_goals try first|with_reducible refine spI (fun h=>?_) fun h=>?_|with_reducible refine spB (fun h=>?_) fun h=>?_|simp (maxSteps:=999999) (disch:=first|assumption|omega|(simp;done)|fail) [Tryz.results62, *]
   exact ih2.out (row.length - (i+1)) _ _ (by omega) ⟨i+1,by omega,rfl,rfl,by simp [*],by simp [*],by simp [*],by simp⟩
  ·have hliI:¬(i:Int) < (row.length:Int):=by omega
   iterate 8 all_goals try first|with_reducible refine spI (fun h=>?_) fun h=>?_|with_reducible refine spB (fun h=>?_) fun h=>?_|simp (maxSteps:=999999) (disch:=first|assumption|omega|(simp;done)|fail) [Tryz.results62, *]
   exact ih.out (rows.length - (k+1)) _ _ (by omega) ⟨k+1,gL,by omega,rfl,rfl,HG,hg1,hg2,by simp [*],by simp [*],by simp⟩
 ·have hltI:¬(k:Int) < (rows.length:Int):=by omega
  iterate 8 all_goals try first|with_reducible refine spI (fun h=>?_) fun h=>?_|with_reducible refine spB (fun h=>?_) fun h=>?_|simp (maxSteps:=999999) (disch:=first|assumption|omega|(simp;done)|fail) [Tryz.results62, *]
  exact HG.out
theorem TSame_w {I O:Int} {rows:List (List (Int×Int))} (hl:rows.length≤100000) (hI:∀ r∈rows,r.length≤1000) (g:Nat→Option Blk) (n:Nat) (tv uv:AV) (h1:TreeV g n rows tv) (h2:TreeV g n rows uv) :
  WC 3 Tryz.prog 26 [.agg [.lit (.int .i64 I),.lit (.int .i64 O),tv],.agg [.lit (.int .i64 I),.lit (.int .i64 O),uv]] ⟨.fn g,n⟩ fun r=>∃ g',r=.ret (.lit (.bool true)) ⟨.fn g',n+1+1+1+1⟩∧∀ b,b < n→g' b=g b:=by
 have ho1:=h1.choose_spec.1.one
 have ho2:=h2.choose_spec.1.one
 have hct:=h1.choose_spec.1.cell
 have hcu:=h2.choose_spec.1.cell
 have hone1:allOne [.lit (.int .i64 I),.lit (.int .i64 O),tv]=true:=by simp [ho1]
 have hone2:allOne [.lit (.int .i64 I),.lit (.int .i64 O),uv]=true:=by simp [ho2]
 have HM:=Hide.mk fun (gX:Nat→Option Blk) (hX:∀ b,b < n→gX b=g b)=>mSame_w hl hI gX (n+1+1) tv uv (h1.mono (by omega) hX) (h2.mono (by omega) hX)
 clear h1 h2 hI
 refine WC.enterP (noO_ok _ _) hG [] Tryz.func26 rfl (by decide +kernel) (Nat.le_of_ble_eq_true (by kernel_rfl)) ?_
 iterate 8 all_goals try first|with_reducible refine spI (fun h=>?_) fun h=>?_|with_reducible refine spB (fun h=>?_) fun h=>?_|simp (maxSteps:=999999) (disch:=first|assumption|omega|(simp;done)|fail) [Tryz.results26, *]
 refine WC.mono (HM.out _ fun b hb=>by simp (disch:=omega) only [gpl]) ?_
 rintro _ ⟨gX,rfl,hX⟩
 have HX:Hide (∀ b,b < n→gX b=g b):=⟨fun b hb=>(hX b (by omega)).trans (by simp (disch:=omega) only [gpl])⟩
 have hb1:=hX n (by omega)
 have hb2:=hX (n+1) (by omega)
 simp (disch:=omega) only [gpl,gpe] at hb1 hb2
 clear hX
 iterate 8 all_goals try first|with_reducible refine spI (fun h=>?_) fun h=>?_|with_reducible refine spB (fun h=>?_) fun h=>?_|simp (maxSteps:=999999) (disch:=first|assumption|omega|(simp;done)|fail) [Tryz.results26, *]
 exact HX.out
def edC (e:Int×Int) : List AV:=[.lit (.int .i64 e.1),.lit (.int .i64 e.2)]
def RepE (g:Nat→Option Blk) (n:Nat) (r:List (Int×Int)) (sv:AV) : Prop:=SliceV g n sv r.length (r.flatMap edC)
def RowsK (g:Nat→Option Blk) (n:Nat) (T:List (List (Int×Int))) (svs:List AV) : Prop:=svs.length=T.length∧∀ (k:Nat) (h:k < T.length),∃ sv,svs[k]?=some sv∧RepE g n T[k] sv
theorem RowsK.ext {g g' : Nat→Option Blk} {b b' : Nat} {l:List (List (Int×Int))} {svs:List AV} (h:RowsK g b l svs) (hb:b≤b') (hg:∀ a x,a < b→g a=some x→g' a=some x) : RowsK g' b' l svs :=
 ⟨h.1,fun k hk=>let ⟨sv,h1,h2⟩:=h.2 k hk; ⟨sv,h1,SliceV.ext hb hg h2⟩⟩
theorem RepE.at {g:Nat→Option Blk} {n:Nat} {r:List (Int×Int)} {sv:AV} (h:RepE g n r sv) {i:Nat} (hi:i < r.length) :
  ∃ a off,a < n∧(∀ {H:Mem} {ev:Ev} {o:Oper} {t:TypeId},iaS Tryz.prog H ev o t (some (none,2)) (some sv) (some (.lit (.int .i64 (i:Int))))=.val (.ptr a (off+i * 2)) H)∧loadB (some (true,2)) (g a) (off+i * 2)=some (.agg (edC r[i])):=by
 obtain ⟨a,off,ha,hrow,hia⟩:=SliceV.ia (P:=Tryz.prog) h hi 2
 refine ⟨a,off,ha,hia,?_⟩
 have:=hrow.agg (k:=i * 2) (s:=2) (by rw [flat_len (sz:=2) _ (fun _ _=>rfl)]; omega)
 rw [flat_at (sz:=2) r i hi (fun _ _=>rfl)] at this
 exact this
theorem goE_step {O:Int} {e:Int×Int} {l:List (Int×Int)} {nx:Nat} : goE O (e :: l) nx=match edOK O nx e with | none=>none | some k=>goE O l k:=rfl
def restT (I O:Int) (rows:List (List (Int×Int))) (n:Nat) (es:List (Int×Int)) (nx:Nat) : Option Nat:=match goE O es nx with | none=>none | some z=>goT I O rows (n+1) z
theorem restT_cons {I O:Int} {rows:List (List (Int×Int))} {n:Nat} {e:Int×Int} {es:List (Int×Int)} {nx:Nat} : restT I O rows n (e :: es) nx=match edOK O nx e with | none=>none | some k=>restT I O rows n es k:=by
 unfold restT
 rw [goE_step]
 cases edOK O nx e <;> rfl
theorem goT_cons {I O:Int} {r:List (Int×Int)} {rows:List (List (Int×Int))} {n nx:Nat} : goT I O (r :: rows) n nx=if (r.length:Int)=I∧n < nx then restT I O rows n r nx else none:=rfl
theorem CheckTree_w (I O:Int) (T:List (List (Int×Int))) (hl:T.length≤1000000) (hw:∀ r∈T,r.length≤1000000) (g:Nat→Option Blk) (n:Nat) (sv:AV) (svs:List AV) (hsv:SliceV g n sv T.length svs) (hr:RowsK g n T svs) :
  WC 3 Tryz.prog 28 [.agg [.lit (.int .i64 I),.lit (.int .i64 O),sv]] ⟨.fn g,n⟩ fun r=>r=.ret (.lit (.int .i64 (treeErr I O T))) ⟨.fn g,n⟩:=by
 refine WC.drop1 rfl ?_
 have hlen:=@lenV Tryz.prog _ _ _ _ _ hsv
 have h1s:=hsv.one
 have hone:allOne [.lit (.int .i64 I),.lit (.int .i64 O),sv]=true:=by simp [h1s]
 have HS:=Hide.mk hsv
 have HR:=Hide.mk hr
 have HW:=Hide.mk hw
 clear hsv hr hw
 obtain ⟨ret,hret⟩ : ∃ b,b=treeErr I O T:=⟨_,rfl⟩
 rw [← hret]
 unfold treeErr at hret
 by_cases t1:I > 16
 ·have hr:ret=3:=by rw [hret,if_pos (.inl t1)]
  clear hret
  refine WC.enterP (noO_ok _ _) hG [] Tryz.func28 rfl (by decide +kernel) (Nat.le_of_ble_eq_true (by kernel_rfl)) ?_
  iterate 8 all_goals try first|with_reducible refine spI (fun h=>?_) fun h=>?_|with_reducible refine spB (fun h=>?_) fun h=>?_|simp (maxSteps:=999999) (disch:=first|assumption|omega|(simp;done)|fail) [Tryz.results28, *]
  all_goals exact ⟨Nat.le_succ n,fun b hb=>gpl hb⟩
 by_cases t2:O > 16
 ·have hr:ret=3:=by rw [hret,if_pos (.inr (.inl t2))]
  clear hret
  refine WC.enterP (noO_ok _ _) hG [] Tryz.func28 rfl (by decide +kernel) (Nat.le_of_ble_eq_true (by kernel_rfl)) ?_
  iterate 8 all_goals try first|with_reducible refine spI (fun h=>?_) fun h=>?_|with_reducible refine spB (fun h=>?_) fun h=>?_|simp (maxSteps:=999999) (disch:=first|assumption|omega|(simp;done)|fail) [Tryz.results28, *]
  all_goals exact ⟨Nat.le_succ n,fun b hb=>gpl hb⟩
 by_cases t3:T.length > 65537
 ·have hr:ret=3:=by rw [hret,if_pos (.inr (.inr t3))]
  have t3I:65537 < (T.length:Int):=by omega
  clear hret
  refine WC.enterP (noO_ok _ _) hG [] Tryz.func28 rfl (by decide +kernel) (Nat.le_of_ble_eq_true (by kernel_rfl)) ?_
  iterate 8 all_goals try first|with_reducible refine spI (fun h=>?_) fun h=>?_|with_reducible refine spB (fun h=>?_) fun h=>?_|simp (maxSteps:=999999) (disch:=first|assumption|omega|(simp;done)|fail) [Tryz.results28, *]
  all_goals exact ⟨Nat.le_succ n,fun b hb=>gpl hb⟩
 have t3I:¬65537 < (T.length:Int):=by omega
 rw [if_neg (by omega)] at hret
 by_cases t4:I < 1
 ·have hr:ret=1:=by rw [hret,if_pos (.inl t4)]
  clear hret
  refine WC.enterP (noO_ok _ _) hG [] Tryz.func28 rfl (by decide +kernel) (Nat.le_of_ble_eq_true (by kernel_rfl)) ?_
  iterate 8 all_goals try first|with_reducible refine spI (fun h=>?_) fun h=>?_|with_reducible refine spB (fun h=>?_) fun h=>?_|simp (maxSteps:=999999) (disch:=first|assumption|omega|(simp;done)|fail) [Tryz.results28, *]
  all_goals exact ⟨Nat.le_succ n,fun b hb=>gpl hb⟩
 by_cases t5:O < 1
 ·have hr:ret=1:=by rw [hret,if_pos (.inr (.inl t5))]
  clear hret
  refine WC.enterP (noO_ok _ _) hG [] Tryz.func28 rfl (by decide +kernel) (Nat.le_of_ble_eq_true (by kernel_rfl)) ?_
  iterate 8 all_goals try first|with_reducible refine spI (fun h=>?_) fun h=>?_|with_reducible refine spB (fun h=>?_) fun h=>?_|simp (maxSteps:=999999) (disch:=first|assumption|omega|(simp;done)|fail) [Tryz.results28, *]
  all_goals exact ⟨Nat.le_succ n,fun b hb=>gpl hb⟩
 by_cases t6:T.length < 1
 ·have hr:ret=1:=by rw [hret,if_pos (.inr (.inr t6))]
  have t6I:(T.length:Int) < 1:=by omega
  clear hret
  refine WC.enterP (noO_ok _ _) hG [] Tryz.func28 rfl (by decide +kernel) (Nat.le_of_ble_eq_true (by kernel_rfl)) ?_
  iterate 8 all_goals try first|with_reducible refine spI (fun h=>?_) fun h=>?_|with_reducible refine spB (fun h=>?_) fun h=>?_|simp (maxSteps:=999999) (disch:=first|assumption|omega|(simp;done)|fail) [Tryz.results28, *]
  all_goals exact ⟨Nat.le_succ n,fun b hb=>gpl hb⟩
 have t6I:¬(T.length:Int) < 1:=by omega
 rw [if_neg (by omega)] at hret
 have HRET:=Hide.mk hret
 clear hret
 refine WC.enterP (noO_ok _ _) hG [] Tryz.func28 rfl (by decide +kernel) (Nat.le_of_ble_eq_true (by kernel_rfl)) ?_
 iterate 8 all_goals try first|with_reducible refine spI (fun h=>?_) fun h=>?_|with_reducible refine spB (fun h=>?_) fun h=>?_|simp (maxSteps:=999999) (disch:=first|assumption|omega|(simp;done)|fail) [Tryz.results28, *]
 refine LX.ind (fun m gf H'=>∃ (k:Nat) (gL:Nat→Option Blk) (n' nx:Nat),k≤T.length∧m=T.length - k∧H'=⟨.fn gL,n'⟩∧n < n'∧Hide (∀ b,b < n→gL b=g b)∧gL n=some (.cells [.lit (.int .i64 I),.lit (.int .i64 O),sv] true 0) ∧
  Hide (goT I O T 0 1=goT I O (T.drop k) k nx)∧nx≤1+k * 1000000∧gf 1=some (.ptr n 0)∧gf 3=some (.lit (.int .i64 nx))∧gf 37=some sv∧gf 38=some (.lit (.int .i64 T.length))∧gf 39=some (.lit (.int .i64 k))) (m0:=T.length) ?_ ?_
 ·exact ⟨0,_,_,1,Nat.zero_le _,rfl,rfl,by omega,⟨fun b hb=>gpl hb⟩,gpe,⟨rfl⟩,by omega,by simp,by simp,by simp,by simp,by simp⟩
 rintro m gf H' ⟨k,gL,n',nx,hk,rfl,rfl,hn',HG,hgn,HV,hnx,w1,w3,w37,w38,w39⟩ ih
 refine LX.roundP (noO_ok _ _) hG [] (by decide +kernel) ?_
 by_cases hlt:k < T.length
 ·have hltI:(k:Int) < (T.length:Int):=by omega
  obtain ⟨q1,hw1,hrep⟩:=HR.out.2 k hlt
  obtain ⟨a2,off,ha2,hrow,hia⟩:=HS.out.ia (P:=Tryz.prog) hlt 1
  simp only [Nat.mul_one] at hia
  have hkl:k < svs.length:=(List.getElem?_eq_some_iff.1 hw1).1
  have hcell:=(hrow.mono (HG.out a2 ha2)).one (k:=k) (s:=1) hkl
  rw [(List.getElem?_eq_some_iff.1 hw1).2] at hcell
  have hlw:=@lenV Tryz.prog _ _ _ _ _ hrep
  have hdrop:T.drop k=T[k] :: T.drop (k+1):=List.drop_eq_getElem_cons hlt
  have hv:=HV.out
  rw [hdrop,goT_cons] at hv
  have hrl:=HW.out _ (List.getElem_mem hlt)
  have HREP:=Hide.mk hrep
  have HV2:=Hide.mk hv
  clear hrow hrep hw1 ha2 hdrop hv HV
  generalize T[k]=row at *
  have h1q:oneC q1=true:=HREP.out.one
  by_cases u1:(row.length:Int)=I
  ·subst u1
   by_cases u2:k < nx
   ·have u2I:¬(nx:Int)≤(k:Int):=by omega
    have hv:=HV2.out
    rw [if_pos ⟨rfl,u2⟩] at hv
    have HV3:=Hide.mk hv
    clear hv HV2
    iterate 8 all_goals try first|with_reducible refine spI (fun h=>?_) fun h=>?_|with_reducible refine spB (fun h=>?_) fun h=>?_|simp (maxSteps:=999999) (disch:=first|assumption|omega|(simp;done)|fail) [Tryz.results28, *]
    refine LX.ind (fun m gf H'=>∃ (i:Nat) (gM:Nat→Option Blk) (n2 nz:Nat),i≤row.length∧m=row.length - i∧H'=⟨.fn gM,n2⟩∧n < n2∧Hide (∀ b,b < n→gM b=g b)∧gM n=some (.cells [.lit (.int .i64 (row.length:Int)),.lit (.int .i64 O),sv] true 0) ∧
     Hide (goT (row.length:Int) O T 0 1=restT (row.length:Int) O (T.drop (k+1)) k (row.drop i) nz)∧nz≤1+k * 1000000+i∧gf 1=some (.ptr n 0)∧gf 3=some (.lit (.int .i64 nz))∧gf 37=some sv∧gf 38=some (.lit (.int .i64 T.length))∧gf 39=some (.lit (.int .i64 k)) ∧
     gf 54=some q1∧gf 55=some (.lit (.int .i64 row.length))∧gf 56=some (.lit (.int .i64 i))) (m0:=row.length) ?_ ?_
    ·exact ⟨0,gL,n',nx,Nat.zero_le _,rfl,rfl,hn',HG,hgn,HV3,by omega,by simp [*],by simp [*],by simp [*],by simp [*],by simp [*],by simp [*],by simp [*],by simp⟩
    rintro m gf H' ⟨i,gM,n2,nz,hi,rfl,rfl,hn2,HGM,hgMn,HVM,hnz,x1,x3,x37,x38,x39,x54,x55,x56⟩ ih2
    refine LX.roundP (noO_ok _ _) hG [] (by decide +kernel) ?_
    by_cases hlt2:i < row.length
    ·have hlt2I:(i:Int) < (row.length:Int):=by omega
     obtain ⟨a3,of3,ha3,hia3,hc3⟩:=RepE.at HREP.out hlt2
     rw [← HGM.out a3 ha3] at hc3
     have hdr:row.drop i=row[i] :: row.drop (i+1):=List.drop_eq_getElem_cons hlt2
     have hv:=HVM.out
     rw [hdr,restT_cons] at hv
     have HV4:=Hide.mk hv
     clear hv HVM hdr
     generalize row[i]=e at *
     obtain ⟨to,out⟩:=e
     simp only [edC] at hc3
     by_cases e1:to = -1
     ·subst e1
      by_cases e2:out = -1
      ·subst e2
       have hv2:goT (row.length:Int) O T 0 1=restT (row.length:Int) O (T.drop (k+1)) k (row.drop (i+1)) nz:=by rw [HV4.out]; simp [edOK]
       iterate 8 all_goals try first|with_reducible refine spI (fun h=>?_) fun h=>?_|with_reducible refine spB (fun h=>?_) fun h=>?_|simp (maxSteps:=999999) (disch:=first|assumption|omega|(simp;done)|fail) [Tryz.results28, *]
       refine ih2.out (row.length - (i+1)) _ _ (by omega) ⟨i+1,_,_,nz,by omega,rfl,rfl,by omega,⟨fun b hb=>(gpl (by omega)).trans (HGM.out b hb)⟩,(gpl (by omega)).trans hgMn,⟨hv2⟩,by omega,by simp [*],by simp [*],by simp [*],by simp [*],by simp [*],by simp [*],by simp [*],by simp [*]⟩
      ·by_cases e3:out = -2
       ·subst e3
        have hv2:goT (row.length:Int) O T 0 1=restT (row.length:Int) O (T.drop (k+1)) k (row.drop (i+1)) nz:=by rw [HV4.out]; simp [edOK]
        iterate 8 all_goals try first|with_reducible refine spI (fun h=>?_) fun h=>?_|with_reducible refine spB (fun h=>?_) fun h=>?_|simp (maxSteps:=999999) (disch:=first|assumption|omega|(simp;done)|fail) [Tryz.results28, *]
        refine ih2.out (row.length - (i+1)) _ _ (by omega) ⟨i+1,_,_,nz,by omega,rfl,rfl,by omega,⟨fun b hb=>(gpl (by omega)).trans (HGM.out b hb)⟩,(gpl (by omega)).trans hgMn,⟨hv2⟩,by omega,by simp [*],by simp [*],by simp [*],by simp [*],by simp [*],by simp [*],by simp [*],by simp [*]⟩
       ·have e4:¬(-1:Int)=(nz:Int):=by omega
        have hv2:goT (row.length:Int) O T 0 1=none:=by rw [HV4.out]; simp [edOK,e2,e3,e4]
        have hr:ret=1:=by rw [HRET.out,hv2]; simp
        clear hv2
        iterate 8 all_goals try first|with_reducible refine spI (fun h=>?_) fun h=>?_|with_reducible refine spB (fun h=>?_) fun h=>?_|simp (maxSteps:=999999) (disch:=first|assumption|omega|(simp;done)|fail) [Tryz.results28, *]
        exact ⟨Nat.le_of_lt (Nat.lt_succ_of_lt hn2),fun b (hb:b < n)=>(gpl (by omega)).trans (HGM.out b hb)⟩
     ·by_cases e4:to=(nz:Int)
      ·subst e4
       by_cases e5:0≤out
       ·by_cases e6:out < O
        ·have hv2:goT (row.length:Int) O T 0 1=restT (row.length:Int) O (T.drop (k+1)) k (row.drop (i+1)) (nz+1):=by rw [HV4.out]; simp [edOK,e1,e5,e6]
         iterate 8 all_goals try first|with_reducible refine spI (fun h=>?_) fun h=>?_|with_reducible refine spB (fun h=>?_) fun h=>?_|simp (maxSteps:=999999) (disch:=first|assumption|omega|(simp;done)|fail) [Tryz.results28, *]
         refine ih2.out (row.length - (i+1)) _ _ (by omega) ⟨i+1,_,_,(nz+1),by omega,rfl,rfl,by omega,⟨fun b hb=>(gpl (by omega)).trans (HGM.out b hb)⟩,(gpl (by omega)).trans hgMn,⟨hv2⟩,by omega,by simp [*],by simp [*],by simp [*],by simp [*],by simp [*],by simp [*],by simp [*],by simp [*]⟩
        ·have hv2:goT (row.length:Int) O T 0 1=none:=by rw [HV4.out]; simp [edOK,e1,e6]
         have hr:ret=1:=by rw [HRET.out,hv2]; simp
         clear hv2
         iterate 8 all_goals try first|with_reducible refine spI (fun h=>?_) fun h=>?_|with_reducible refine spB (fun h=>?_) fun h=>?_|simp (maxSteps:=999999) (disch:=first|assumption|omega|(simp;done)|fail) [Tryz.results28, *]
         exact ⟨Nat.le_of_lt (Nat.lt_succ_of_lt hn2),fun b (hb:b < n)=>(gpl (by omega)).trans (HGM.out b hb)⟩
       ·have hv2:goT (row.length:Int) O T 0 1=none:=by rw [HV4.out]; simp [edOK,e1,e5]
        have hr:ret=1:=by rw [HRET.out,hv2]; simp
        clear hv2
        iterate 8 all_goals try first|with_reducible refine spI (fun h=>?_) fun h=>?_|with_reducible refine spB (fun h=>?_) fun h=>?_|simp (maxSteps:=999999) (disch:=first|assumption|omega|(simp;done)|fail) [Tryz.results28, *]
        exact ⟨Nat.le_of_lt (Nat.lt_succ_of_lt hn2),fun b (hb:b < n)=>(gpl (by omega)).trans (HGM.out b hb)⟩
      ·have hv2:goT (row.length:Int) O T 0 1=none:=by rw [HV4.out]; simp [edOK,e1,e4]
       have hr:ret=1:=by rw [HRET.out,hv2]; simp
       clear hv2
       iterate 8 all_goals try first|with_reducible refine spI (fun h=>?_) fun h=>?_|with_reducible refine spB (fun h=>?_) fun h=>?_|simp (maxSteps:=999999) (disch:=first|assumption|omega|(simp;done)|fail) [Tryz.results28, *]
       exact ⟨Nat.le_of_lt (Nat.lt_succ_of_lt hn2),fun b (hb:b < n)=>(gpl (by omega)).trans (HGM.out b hb)⟩
    ·have hlt2I:¬(i:Int) < (row.length:Int):=by omega
     have hi2:i=row.length:=by omega
     have hv:=HVM.out
     rw [hi2,List.drop_length] at hv
     have HV4:=Hide.mk (show goT (row.length:Int) O T 0 1=goT (row.length:Int) O (T.drop (k+1)) (k+1) nz from hv)
     clear hv HVM hi2
     iterate 8 all_goals try first|with_reducible refine spI (fun h=>?_) fun h=>?_|with_reducible refine spB (fun h=>?_) fun h=>?_|simp (maxSteps:=999999) (disch:=first|assumption|omega|(simp;done)|fail) [Tryz.results28, *]
     refine ih.out (T.length - (k+1)) _ _ (by omega) ⟨k+1,gM,n2,nz,by omega,rfl,rfl,hn2,HGM,hgMn,HV4,by omega,by simp [*],by simp [*],by simp [*],by simp [*],by simp [*]⟩
   ·have u2I:(nx:Int)≤(k:Int):=by omega
    have hv:=HV2.out
    rw [if_neg (fun h=>u2 h.2)] at hv
    have hr:ret=1:=by rw [HRET.out,hv]; simp
    clear hv
    iterate 8 all_goals try first|with_reducible refine spI (fun h=>?_) fun h=>?_|with_reducible refine spB (fun h=>?_) fun h=>?_|simp (maxSteps:=999999) (disch:=first|assumption|omega|(simp;done)|fail) [Tryz.results28, *]
    exact ⟨Nat.le_of_lt hn',fun b hb=>HG.out b hb⟩
  ·have hv:=HV2.out
   rw [if_neg (fun h=>u1 h.1)] at hv
   have hr:ret=1:=by rw [HRET.out,hv]; simp
   clear hv
   iterate 8 all_goals try first|with_reducible refine spI (fun h=>?_) fun h=>?_|with_reducible refine spB (fun h=>?_) fun h=>?_|simp (maxSteps:=999999) (disch:=first|assumption|omega|(simp;done)|fail) [Tryz.results28, *]
   exact ⟨Nat.le_of_lt hn',fun b hb=>HG.out b hb⟩
 ·have hltI:¬(k:Int) < (T.length:Int):=by omega
  have hk2:k=T.length:=by omega
  have hv:=HV.out
  rw [hk2,List.drop_length] at hv
  have hv' : goT I O T 0 1=some nx:=hv
  clear hk2 hv HV
  by_cases u3:nx=T.length
  ·rw [u3] at w3
   have hr:ret=0:=by rw [HRET.out,hv',u3]; simp
   clear hv' u3
   iterate 8 all_goals try first|with_reducible refine spI (fun h=>?_) fun h=>?_|with_reducible refine spB (fun h=>?_) fun h=>?_|simp (maxSteps:=999999) (disch:=first|assumption|omega|(simp;done)|fail) [Tryz.results28, *]
   exact ⟨Nat.le_of_lt hn',fun b hb=>HG.out b hb⟩
  ·have u3I:¬(nx:Int)=(T.length:Int):=by omega
   have hr:ret=1:=by rw [HRET.out,hv',if_neg (fun h=>u3 (by injection h))]
   clear hv'
   iterate 8 all_goals try first|with_reducible refine spI (fun h=>?_) fun h=>?_|with_reducible refine spB (fun h=>?_) fun h=>?_|simp (maxSteps:=999999) (disch:=first|assumption|omega|(simp;done)|fail) [Tryz.results28, *]
   exact ⟨Nat.le_of_lt hn',fun b hb=>HG.out b hb⟩
theorem rowsL_len {I:Nat} {ts:List (List Int×List Int)} : (rowsL I ts).length=(nodesM ts).length:=rowsT_len
theorem check_tree {I:Nat} {O:Int} {rows:List (List (Int×Int))} (hI1:1≤I) (hI2:I≤16) (hO1:1≤O) (hO2:O≤16) (h0:0 < rows.length) (hl:rows.length≤65537) (hgo:goT I O rows 0 1=some rows.length) (hw:∀ r∈rows,r.length≤1000000) (g:Nat→Option Blk) (n:Nat) (tv:AV) (hT:TreeV g n rows tv) :
  WC 3 Tryz.prog 28 [.agg [.lit (.int .i64 I),.lit (.int .i64 O),tv]] ⟨.fn g,n⟩ fun r=>r=.ret (.lit (.int .i64 0)) ⟨.fn g,n⟩:=by
 obtain ⟨svs,h1,h2,h3⟩:=hT
 have h:=CheckTree_w I O rows (by omega) hw g n tv svs h1 ⟨h2,h3⟩
 have e:treeErr I O rows=0:=by
  unfold treeErr
  rw [if_neg (by omega),if_neg (by omega),if_pos hgo]
 rw [e] at h
 exact h
end Go.Ai
end
section
namespace Go.Ai
set_option maxRecDepth 10000
end Go.Ai
end
section
namespace Go.Ai
open Go.Proofs
set_option maxRecDepth 10000
set_option maxHeartbeats 40000000
theorem okT_of {I O:Int} {T:List (List (Int×Int))} (h:goT I O T 0 1=some T.length) : ∀ r∈T,(r.length:Int)=I∧∀ e∈r,e.1 = -1∨(0≤e.1∧e.1 < T.length):=by
 intro r hr
 obtain ⟨h1,h2⟩:=goT_ok h (Nat.le_refl _) (Nat.le_refl _) r hr
 refine ⟨h1,fun e he=>?_⟩
 have h3:=h2 e he
 unfold okE at h3
 rw [Bool.or_eq_true,decide_eq_true_eq,decide_eq_true_eq] at h3
 omega
end Go.Ai
end
section
namespace Go.Ai
set_option maxRecDepth 10000
theorem nod_nodes {I:Nat} {O:Int} {ts:List (List Int×List Int)} (hv:∀ t∈ts,validB I O t=true) (hc:Cons ts) : Nod (valT ts) (nodesM ts):=by
 obtain ⟨us,hN,_⟩:=tree_ok (I:=I) _ ts rfl hc hv
 exact ⟨(nodesM_ok hv).1.nodup,fun w=>nodesM_val hv hc w,hN.clo⟩
theorem idx_nil {ws:List (List Int)} (hs:Srt2 ws) (h:[]∈ws) : ws.idxOf []=0:=by
 obtain ⟨hl,hat⟩:=idx_at h
 by_cases h0:ws.idxOf []=0
 ·exact h0
 ·have h1:=hs 0 (ws.idxOf []) (by omega) hl (by omega)
  rw [hat] at h1
  have h2:=h1.le
  have h3:ws[0]=[]:=List.eq_nil_of_length_eq_zero (by simpa using h2)
  rw [h3] at h1
  exact absurd h1 SL.irrefl
structure Lab (T:List (List (Int×Int))) (W:List (List Int)) : Prop where
 len:W.length=T.length
 nil:W.getD 0 []=[]
 ed:∀ p j t,EdT T p j t→t < T.length∧1≤t∧p < t∧W.getD t []=W.getD p []++[(j:Int)]
 src:∀ t,1≤t→t < T.length→∃ p j,EdT T p j t
 inc:∀ a b,a < b→b < T.length→SL (W.getD a []) (W.getD b [])
theorem rWords_zero {T:List (List (Int×Int))} {O:Int} (hok:∀ r∈T,∀ e∈r,okE T.length O e=true) (h1:1≤T.length) : (rWords T).getD 0 []=[]:=by
 cases hs:wR T T.length 0 (wSt0 T.length) with
 | none=>unfold rWords; rw [hs]; rfl
 | some s =>
  have hr0:rWords T=if s.many < T.length then [] else s.out:=by unfold rWords; rw [hs]
  by_cases hm:s.many < T.length
  ·rw [hr0,if_pos hm]; rfl
  rw [hr0,if_neg hm]
  have hs0:∀ m,Sn (wSt0 T.length) m→m=0:=fun m hm=>by
   have h2:((List.replicate T.length false).set 0 true).getD m false=true:=hm
   rw [getD_set] at h2
   by_cases e:0=m
   ·exact e.symm
   ·rw [if_neg (fun h=>e h.1)] at h2
    rw [List.getD_eq_getElem?_getD,List.getElem?_replicate] at h2
    split at h2 <;> simp at h2
  have ho0:∀ m,(wSt0 T.length).out.getD m []=[]:=fun m=>by
   show (List.replicate T.length ([] : List Int)).getD m []=[]
   rw [List.getD_eq_getElem?_getD,List.getElem?_replicate]
   split <;> rfl
  have hinv0:WInv T (wSt0 T.length):=by
   refine ⟨by simp [wSt0],by simp [wSt0],?_,ho0 0,?_,fun m hm h=>absurd (hs0 m hm) h⟩
   ·show ((List.replicate T.length false).set 0 true).getD 0 false=true
    rw [getD_set,if_pos ⟨rfl,by simp; omega⟩]
   ·show 1=((List.replicate T.length false).set 0 true).count true
    rw [count_set _ _ (by simp; omega) (by rw [List.getD_eq_getElem?_getD,List.getElem?_replicate]; split <;> rfl)]
    simp [List.count_replicate]
  obtain ⟨a1,a2⟩:=wR_inv hok T.length 0 _ s rfl hinv0 (fun m hm=>by rw [ho0]; simp) (fun m hm h=>by omega) (by show 0+1≤1; omega) hs
  exact a1.o0
theorem lab_of {I O:Int} {T:List (List (Int×Int))} (h:treeErr I O T=0) : Lab T (rWords T):=by
 have hr:=treeErr_eq I O T
 rw [h] at hr
 unfold treeErr at h
 by_cases c1:I > 16∨O > 16∨T.length > 65537
 ·rw [if_pos c1] at h; cases h
 rw [if_neg c1] at h
 by_cases c2:I < 1∨O < 1∨T.length < 1
 ·rw [if_pos c2] at h; cases h
 rw [if_neg c2] at h
 by_cases c3:goT I O T 0 1=some T.length
 ·have hok:=fun r hr=>(goT_ok c3 (Nat.le_refl _) (Nat.le_refl _) r hr).2
  unfold rTreeErr at hr
  rw [if_neg c1,if_neg c2] at hr
  have h1:1≤T.length:=by omega
  have hr2:(rWords T).length=T.length∧incW (rWords T)=true:=by
   revert hr
   split
   ·rename_i q
    intro _
    rw [Bool.and_eq_true,Bool.and_eq_true] at q
    exact ⟨of_decide_eq_true q.1.2,q.2⟩
   ·intro hr; cases hr
  obtain ⟨hl,hin⟩:=hr2
  obtain ⟨l1,l2⟩:=rWords_lab hok h1 hl
  have hinc:=inc_SL hin
  rw [hl] at hinc
  refine ⟨hl,rWords_zero hok h1,fun p j t hE=>?_,l2,hinc⟩
  obtain ⟨a1,a2,a3⟩:=l1 p j t hE
  refine ⟨a1,a2,?_,a3⟩
  by_cases hpt:p < t
  ·exact hpt
  ·have hl2:((rWords T).getD t []).length≤((rWords T).getD p []).length:=by
    by_cases e:t=p
    ·rw [e]; exact Nat.le_refl _
    ·exact (hinc t p (by omega) hE.lt).le
   rw [a3,List.length_append,List.length_singleton] at hl2
   omega
 ·rw [if_neg c3] at h; cases h
theorem Lab.inj {T:List (List (Int×Int))} {W:List (List Int)} (h:Lab T W) {a b:Nat} (ha:a < T.length) (hb:b < T.length) (he:W.getD a []=W.getD b []) : a=b:=by
 rcases Nat.lt_trichotomy a b with h1 | h1 | h1
 ·have:=h.inc a b h1 hb; rw [he] at this; exact absurd this SL.irrefl
 ·exact h1
 ·have:=h.inc b a h1 ha; rw [he] at this; exact absurd this SL.irrefl
theorem Lab.uniq {T:List (List (Int×Int))} {W:List (List Int)} (h:Lab T W) {p j p' j' t:Nat} (h1:EdT T p j t) (h2:EdT T p' j' t) : p=p'∧j=j':=by
 obtain ⟨_,_,a3,a4⟩:=h.ed p j t h1
 obtain ⟨_,_,b3,b4⟩:=h.ed p' j' t h2
 rw [a4] at b4
 obtain ⟨e1,e2⟩:=snoc_inj b4
 exact ⟨h.inj h1.lt h2.lt e1,by omega⟩
theorem Lab.le {T:List (List (Int×Int))} {W:List (List Int)} (h:Lab T W) : ∀ (n t:Nat),t≤n→t < T.length→(W.getD t []).length≤t
 | 0,t,ht,_=>by
  have:t=0:=by omega
  subst this
  rw [h.nil]; exact Nat.le_refl _
 | n+1,t,ht,hl=>by
  by_cases h0:t=0
  ·subst h0; rw [h.nil]; exact Nat.le_refl _
  ·obtain ⟨p,j,hE⟩:=h.src t (by omega) hl
   obtain ⟨_,_,e3,e4⟩:=h.ed p j t hE
   have:=h.le n p (by omega) hE.lt
   rw [e4,List.length_append,List.length_singleton]; omega
def refL (n:Nat) : List (Int×Int)→Nat→List (Nat×Int)
 | [],_=>[]
 | e :: l,i=>(if e.1 = -1∧e.2 = -2 then [(n,(i:Int))] else [])++refL n l (i+1)
def lastB (row:List (Int×Int)) : Bool:=row.all fun e=>decide (e.1 = -1∧¬e.2 = -2)
def endR (n:Nat) (row:List (Int×Int)) : List (Nat×Int):=refL n row 0++if lastB row=true then [(n,-1)] else []
def endsM:List (List (Int×Int))→Nat→List (Nat×Int)
 | [],_=>[]
 | r :: l,n=>endR n r++endsM l (n+1)
theorem refL_app (n:Nat) : ∀ (a b:List (Int×Int)) (i:Nat),refL n (a++b) i=refL n a i++refL n b (i+a.length)
 | [],b,i=>by simp [refL]
 | e :: a,b,i=>by
  show _++refL n (a++b) (i+1)=(_++refL n a (i+1))++_
  rw [refL_app n a b (i+1),List.append_assoc,List.length_cons,show i+1+a.length=i+(a.length+1) by omega]
theorem refL_step {n i:Nat} {row:List (Int×Int)} (h:i < row.length) : refL n (row.take (i+1)) 0=refL n (row.take i) 0++if (row[i]).1 = -1∧(row[i]).2 = -2 then [(n,(i:Int))] else []:=by
 rw [take_snoc h,refL_app,List.length_take,Nat.min_eq_left (by omega),Nat.zero_add]
 simp [refL]
theorem lastB_step {i:Nat} {row:List (Int×Int)} (h:i < row.length) : lastB (row.take (i+1))=(lastB (row.take i) && decide ((row[i]).1 = -1∧¬(row[i]).2 = -2)):=by
 unfold lastB
 rw [take_snoc h,List.all_append]
 simp
theorem endsM_app:∀ (a b:List (List (Int×Int))) (n:Nat),endsM (a++b) n=endsM a n++endsM b (n+a.length)
 | [],b,n=>by simp [endsM]
 | r :: a,b,n=>by
  show endR n r++endsM (a++b) (n+1)=(endR n r++endsM a (n+1))++_
  rw [endsM_app a b (n+1),List.append_assoc,List.length_cons,show n+1+a.length=n+(a.length+1) by omega]
theorem endsM_step {n:Nat} {T:List (List (Int×Int))} (h:n < T.length) : endsM (T.take (n+1)) 0=endsM (T.take n) 0++endR n T[n]:=by
 rw [take_snoc h,endsM_app,List.length_take,Nat.min_eq_left (by omega),Nat.zero_add]
 simp [endsM]
theorem endsM_pre (T:List (List (Int×Int))) (n:Nat) : ∃ r,endsM T 0=endsM (T.take n) 0++r:=by
 refine ⟨endsM (T.drop n) (0+(T.take n).length),?_⟩
 rw [← endsM_app,List.take_append_drop]
def eW (W:List (List Int)) (s:Nat×Int) : List Int:=W.getD s.1 []++if s.2 = -1 then [] else [s.2]
def sumW (W:List (List Int)) : List (Nat×Int)→Nat
 | []=>0
 | s :: l=>(eW W s).length+sumW W l
theorem sumW_app (W:List (List Int)) : ∀ (a b:List (Nat×Int)),sumW W (a++b)=sumW W a+sumW W b
 | [],b=>by simp [sumW]
 | s :: a,b=>by
  show (eW W s).length+sumW W (a++b)=((eW W s).length+sumW W a)+sumW W b
  rw [sumW_app W a b]; omega
theorem sumW_le {W:List (List Int)} {k:Nat} : ∀ {l:List (Nat×Int)},(∀ s∈l,(eW W s).length≤k)→sumW W l≤l.length * k
 | [],_=>by simp [sumW]
 | s :: l,h=>by
  have h1:=h s (by simp)
  have h2:=sumW_le (l:=l) fun x hx=>h x (by simp [hx])
  show (eW W s).length+sumW W l≤(l.length+1) * k
  rw [Nat.add_mul,Nat.one_mul]; omega
theorem refL_mem {n:Nat} {s:Nat×Int} : ∀ {row:List (Int×Int)} {i:Nat},s∈refL n row i↔∃ k,∃ h:k < row.length,row[k].1 = -1∧row[k].2 = -2∧s=(n,((i+k:Nat) : Int))
 | [],i=>by simp [refL]
 | e :: row,i=>by
  unfold refL
  rw [List.mem_append,refL_mem]
  constructor
  ·rintro (h | ⟨k,hk,h1,h2,h3⟩)
   ·by_cases hc:e.1 = -1∧e.2 = -2
    ·rw [if_pos hc] at h
     exact ⟨0,by simp,hc.1,hc.2,by simpa using h⟩
    ·rw [if_neg hc] at h; cases h
   ·exact ⟨k+1,by simpa using hk,by simpa using h1,by simpa using h2,by rw [h3]; congr 2; omega⟩
  ·rintro ⟨k,hk,h1,h2,h3⟩
   cases k with
   | zero=>exact .inl (by simp at h1 h2; rw [if_pos ⟨h1,h2⟩]; simpa using h3)
   | succ k=>exact .inr ⟨k,by simpa using hk,by simpa using h1,by simpa using h2,by rw [h3]; congr 2; omega⟩
theorem endsM_mem {s:Nat×Int} : ∀ {T:List (List (Int×Int))} {n:Nat},s∈endsM T n↔∃ k,∃ h:k < T.length,s∈endR (n+k) T[k]
 | [],n=>by simp [endsM]
 | r :: T,n=>by
  unfold endsM
  rw [List.mem_append,endsM_mem]
  constructor
  ·rintro (h | ⟨k,hk,h1⟩)
   ·exact ⟨0,by simp,h⟩
   ·exact ⟨k+1,by simpa using hk,by rw [show n+(k+1)=n+1+k by omega]; simpa using h1⟩
  ·rintro ⟨k,hk,h1⟩
   cases k with
   | zero=>exact .inl h1
   | succ k=>exact .inr ⟨k,by simpa using hk,by rw [show n+1+k=n+(k+1) by omega]; simpa using h1⟩
theorem end_iff {T:List (List (Int×Int))} {s:Nat×Int} : s∈endsM T 0↔(∃ k,∃ h:k < T.length,∃ i,∃ hi:i < (T[k]).length,(T[k])[i]=(-1,-2)∧s=(k,(i:Int)))∨(∃ k,∃ h:k < T.length,lastB T[k]=true∧s=(k,-1)):=by
 rw [endsM_mem]
 constructor
 ·rintro ⟨k,hk,h⟩
  rw [Nat.zero_add] at h
  unfold endR at h
  rcases List.mem_append.1 h with h | h
  ·obtain ⟨i,hi,h1,h2,h3⟩:=refL_mem.1 h
   rw [Nat.zero_add] at h3
   exact .inl ⟨k,hk,i,hi,Prod.ext h1 h2,h3⟩
  ·by_cases hl:lastB T[k]=true
   ·rw [if_pos hl] at h
    exact .inr ⟨k,hk,hl,by simpa using h⟩
   ·rw [if_neg hl] at h; cases h
 ·rintro (⟨k,hk,i,hi,h1,h2⟩ | ⟨k,hk,hl,h2⟩)
  ·refine ⟨k,hk,?_⟩
   unfold endR
   refine List.mem_append_left _ (refL_mem.2 ⟨i,hi,by rw [h1],by rw [h1],?_⟩)
   rw [h2,Nat.zero_add,Nat.zero_add]
  ·refine ⟨k,hk,?_⟩
   unfold endR
   refine List.mem_append_right _ ?_
   rw [if_pos hl,h2,Nat.zero_add]
   simp
end Go.Ai
end
section
namespace Go.Ai
open Go.Proofs
set_option maxRecDepth 10000
set_option maxHeartbeats 40000000
def endC (l:List (Nat×Int)) : List AV:=l.flatMap fun s=>[.lit (.int .i64 ((s.1:Nat) : Int)),.lit (.int .i64 s.2)]
theorem endC_snoc (l:List (Nat×Int)) (s:Nat×Int) : endC (l++[s])=endC l++[.lit (.int .i64 ((s.1:Nat) : Int)),.lit (.int .i64 s.2)]:=by
 unfold endC; rw [List.flatMap_append]; simp
theorem endC_len (l:List (Nat×Int)) : (endC l).length=l.length * 2:=by
 induction l with
 | nil=>rfl
 | cons s l ih=>unfold endC at *; rw [List.flatMap_cons,List.length_append,ih,List.length_cons]; simp; omega
theorem ends_w {I:Nat} {O:Int} {T:List (List (Int×Int))} {W:List (List Int)} (hI1:1≤I) (hI2:I≤16) (h0:0 < T.length) (hl:T.length≤65537) (hgo:goT I O T 0 1=some T.length) (hLab:Lab T W) (hE:(endsM T 0).length≤1024) (hW:∀ t,t < T.length→(W.getD t []).length≤256) (hS:sumW W (endsM T 0)≤65536) (g:Nat→Option Blk) (n:Nat) (tv:AV) (hT:TreeV g n T tv) :
  WC 3 Tryz.prog 68 [.agg [.lit (.int .i64 I),.lit (.int .i64 O),tv]] ⟨.fn g,n⟩ fun r=>∃ g' n' B ov,r=.ret (.tup [ov,.lit (.bool true)]) ⟨.fn g',n'⟩∧n≤n'∧(∀ b,b < n→g' b=g b)∧GrowV g' n n' B ov (endsM T 0).length 2 (endC (endsM T 0)):=by
 have hlen:=@lenV Tryz.prog _ _ _ _ _ hT.choose_spec.1
 have h1t:=hT.choose_spec.1.one
 have hone:allOne [.lit (.int .i64 I),.lit (.int .i64 O),tv]=true:=by simp [h1t]
 have HOK:=Hide.mk (okT_of hgo)
 have HT:=Hide.mk hT
 have HLB:=Hide.mk hLab
 have HW:=Hide.mk hW
 have HPR:=Hide.mk fun k=>endsM_pre T k
 have HSM:=Hide.mk fun (a r:List (Nat×Int)) (h:endsM T 0=a++r)=>(show a.length≤1024∧sumW W a≤65536 from ⟨by rw [h,List.length_append] at hE; omega,by rw [h,sumW_app] at hS; omega⟩)
 have HST:=Hide.mk fun (k:Nat) (h:k < T.length)=>endsM_step h
 obtain ⟨E,hEE⟩ : ∃ E,E=endsM T 0:=⟨_,rfl⟩
 rw [← hEE] at hE ⊢
 have HEE:=Hide.mk hEE
 clear hT hgo hLab hW hS hE hEE
 have hW2:(T.length:Int)≤1048576:=by omega
 refine WC.enterP (noO_ok _ _) hG pl68 Tryz.func68 rfl (by decide +kernel) (Nat.le_of_ble_eq_true (by kernel_rfl)) ?_
 iterate 8 all_goals try first|with_reducible refine spI (fun h=>?_) fun h=>?_|with_reducible refine spB (fun h=>?_) fun h=>?_|simp (maxSteps:=999999) (disch:=first|assumption|omega|(simp;done)|fail) [*]
 refine LX.ind (fun m gf H'=>∃ (k n2 B:Nat) (gL:Nat→Option Blk) (ov:AV) (D:List AV) (out:List (Nat×Int)),k≤T.length∧m=T.length - k∧H'=⟨.fn gL,n2⟩∧n+1+1≤n2∧Hide (∀ b,b < n→gL b=g b)∧gL n=some (.cells [.lit (.int .i64 I),.lit (.int .i64 O),tv] true 0)∧gL (n+1)=some (.cells D true 0)∧D.length=T.length∧Hide (∀ t,t < T.length→(t=0∨∃ p j,EdT T p j t∧p < k)→D[t]?=some (.lit (.int .i64 (((W.getD t []).length:Nat) : Int))))∧Hide (out=endsM (T.take k) 0)∧Hide (GrowV gL (n+1+1) n2 B ov out.length 2 (endC out)) ∧
  gf 1=some (.ptr n 0)∧gf 4=some (.sl (n+1) 0 T.length T.length)∧gf 5=some ov∧gf 6=some (.lit (.int .i64 ((sumW W out:Nat) : Int)))∧gf 17=some tv∧gf 18=some (.lit (.int .i64 T.length))∧gf 19=some (.lit (.int .i64 k))) (m0:=T.length) ?_ ?_
 ·refine ⟨0,_,0,_,_,_,[],Nat.zero_le _,rfl,rfl,Nat.le_refl _,⟨fun b hb=>?_⟩,?_,gpe,?_,⟨fun t ht h=>?_⟩,⟨rfl⟩,⟨.inl ⟨rfl,rfl,rfl⟩⟩,by simp,by simp,by simp,by simp [sumW],by simp,by simp,by simp⟩
  ·simp (disch:=omega) only [gpl]
  ·simp (disch:=omega) only [gpl,gpe]
  ·simp
  ·rcases h with rfl | ⟨p,j,_,hp⟩
   ·rw [HLB.out.nil,List.getElem?_replicate,if_pos ht]; rfl
   ·omega
 rintro m gf H' ⟨k,n2,B,gL,ov,D,out,hk,rfl,rfl,hn2,HG,hgn,hgD,hD,HD,HOUT,HGR,w1,w4,w5,w6,w17,w18,w19⟩ ih
 refine LX.roundP (noO_ok _ _) hG pl68 (by decide +kernel) ?_
 by_cases hlt:k < T.length
 ·have hltI:(k:Int) < (T.length:Int):=by omega
  obtain ⟨a2,o2,q,ha2,hia2,hc2,hq⟩:=HT.out.at hlt
  rw [← HG.out a2 ha2] at hc2
  have h1q:oneC q=true:=hq.one
  have hlq:=@lenV Tryz.prog _ _ _ _ _ hq
  have HO1:=Hide.mk (HOK.out _ (List.getElem_mem hlt))
  have hrl:(T[k]).length=I:=by have:=HO1.out.1; omega
  have hrl16:(T[k]).length≤16:=by omega
  have HES:=Hide.mk (HST.out k hlt)
  have HPX:Hide (∀ i,i≤(T[k]).length→∃ r,E=(out++refL k ((T[k]).take i) 0)++r):=⟨fun i hi=>by
   obtain ⟨r,hr⟩:=HPR.out (k+1)
   rw [HES.out,← HOUT.out] at hr
   have h2:refL k T[k] 0=refL k ((T[k]).take i) 0++refL k ((T[k]).drop i) (0+((T[k]).take i).length):=by rw [← refL_app,List.take_append_drop]
   refine ⟨refL k ((T[k]).drop i) (0+((T[k]).take i).length)++((if lastB T[k]=true then [(k,-1)] else [])++r),?_⟩
   rw [HEE.out,hr]
   unfold endR
   rw [h2]
   simp only [List.append_assoc]⟩
  have HBD:Hide (∀ a r,E=a++r→a.length≤1024∧sumW W a≤65536):=⟨fun a r h=>HSM.out a r (HEE.out ▸ h)⟩
  have HPY:Hide (∃ r,E=(out++endR k T[k])++r):=⟨by
   obtain ⟨r,hr⟩:=HPR.out (k+1)
   rw [HES.out,← HOUT.out] at hr
   exact ⟨r,HEE.out.trans hr⟩⟩
  rw [← HOUT.out] at HES
  have HEDT:Hide (∀ (i:Nat) (h:i < (T[k]).length) (t:Nat),(T[k])[i].1=(t:Int)→EdT T k i t):=⟨fun i h t ht=>⟨_,by rw [List.getD_eq_getElem?_getD,List.getElem?_eq_getElem hlt]; simp [h],ht⟩⟩
  have HEDI:Hide (∀ (j t:Nat),EdT T k j t→∃ h:j < (T[k]).length,(T[k])[j].1=(t:Int)):=⟨fun j t ⟨e,h1,h2⟩=>by
   rw [List.getD_eq_getElem?_getD,List.getElem?_eq_getElem hlt] at h1
   obtain ⟨h3,h4⟩:=List.getElem?_eq_some_iff.1 h1
   exact ⟨h3,by rw [← h2]; exact congrArg _ h4⟩⟩
  have HQ:=Hide.mk hq
  have hDk:D[k]?=some (.lit (.int .i64 (((W.getD k []).length:Nat) : Int))):=HD.out k hlt (by
   by_cases h:k=0
   ·exact .inl h
   ·obtain ⟨p,j,hE⟩:=HLB.out.src k (by omega) hlt
    exact .inr ⟨p,j,hE,(HLB.out.ed p j k hE).2.2.1⟩)
  have hWk:=HW.out k hlt
  clear hq hrl
  generalize T[k]=row at *
  iterate 8 all_goals try first|with_reducible refine spI (fun h=>?_) fun h=>?_|with_reducible refine spB (fun h=>?_) fun h=>?_|simp (maxSteps:=999999) (disch:=first|assumption|omega|(simp;done)|fail) [*]
  refine LX.ind (fun m gf H'=>∃ (i n3 B:Nat) (gI:Nat→Option Blk) (ov:AV) (D:List AV) (oi:List (Nat×Int)),i≤row.length∧m=row.length - i∧H'=⟨.fn gI,n3⟩∧n2≤n3∧Hide (∀ b,b < n→gI b=gL b)∧gI n=some (.cells [.lit (.int .i64 I),.lit (.int .i64 O),tv] true 0)∧gI (n+1)=some (.cells D true 0)∧D.length=T.length∧D[k]?=some (.lit (.int .i64 (((W.getD k []).length:Nat) : Int)))∧Hide (∀ t,t < T.length→(t=0∨∃ p j,EdT T p j t∧(p < k∨p=k∧j < i))→D[t]?=some (.lit (.int .i64 (((W.getD t []).length:Nat) : Int))))∧Hide (oi=out++refL k (row.take i) 0)∧oi.length≤1024∧sumW W oi≤65536∧Hide (GrowV gI (n+1+1) n3 B ov oi.length 2 (endC oi)) ∧
   gf 1=some (.ptr n 0)∧gf 4=some (.sl (n+1) 0 T.length T.length)∧gf 5=some ov∧gf 6=some (.lit (.int .i64 ((sumW W oi:Nat) : Int)))∧gf 7=some (.lit (.int .i64 k))∧gf 9=some (.lit (.bool (lastB (row.take i))))∧gf 17=some tv∧gf 18=some (.lit (.int .i64 T.length))∧gf 19=some (.lit (.int .i64 k)) ∧
   gf 24=some q∧gf 25=some (.lit (.int .i64 row.length))∧gf 26=some (.lit (.int .i64 i))) (m0:=row.length) ?_ ?_
  ·have hob:out.length≤1024∧sumW W out≤65536:=by
    obtain ⟨r,hr⟩:=HPR.out k
    rw [← HOUT.out] at hr
    exact HSM.out _ _ hr
   exact ⟨0,n2,B,gL,ov,D,out,Nat.zero_le _,rfl,rfl,Nat.le_refl _,⟨fun _ _=>rfl⟩,hgn,hgD,hD,hDk,⟨fun t ht h=>HD.out t ht (h.imp id fun ⟨p,j,h1,h2⟩=>⟨p,j,h1,by omega⟩)⟩,⟨by simp [refL]⟩,hob.1,hob.2,HGR,by simp [*],by simp [*],by simp [*],by simp [*],by simp [*],by simp [lastB],by simp [*],by simp [*],by simp [*],by simp [*],by simp [*],by simp⟩
  clear hgn hgD hD hDk HD HGR w1 w4 w5 w6 w17 w18 w19
  rintro m gf H' ⟨i,n3,B,gI,ov,D,oi,hi,rfl,rfl,hn3,HGI,hgn,hgD,hD,hDk,HD,HOI,hoi1,hoi2,HGR,w1,w4,w5,w6,w7,w9,w17,w18,w19,w24,w25,w26⟩ ih2
  refine LX.roundP (noO_ok _ _) hG pl68 (by decide +kernel) ?_
  by_cases hil:i < row.length
  ·have hilI:(i:Int) < (row.length:Int):=by omega
   obtain ⟨a3,o3,ha3,hia3,hc3⟩:=edge_at HQ.out hil
   rw [← HG.out a3 ha3,← HGI.out a3 ha3] at hc3
   have HE1:=Hide.mk (HO1.out.2 _ (List.getElem_mem hil))
   have HRS:=Hide.mk (refL_step (n:=k) hil)
   have HLS:=Hide.mk (lastB_step hil)
   have HED:=Hide.mk fun t ht=>HEDT.out i hil t ht
   have HDI:Hide (∀ j t,EdT T k j t→(k < k∨k=k∧j < i+1)→¬ j < i→((row[i]).1=(t:Int))):=⟨fun j t hE h1 h2=>by
    obtain ⟨h3,h4⟩:=HEDI.out j t hE
    have:j=i:=by omega
    subst this
    exact h4⟩
   generalize row[i]=e at *
   obtain ⟨to,eo⟩:=e
   dsimp only at HE1 HRS HLS HED HDI hc3
   by_cases ht:to = -1
   ·subst ht
    by_cases ho:eo = -2
    ·subst ho
     rw [if_pos ⟨rfl,rfl⟩] at HRS
     have HLF:Hide (lastB (row.take (i+1))=false):=⟨by rw [HLS.out]; simp⟩
     have HON:Hide (oi++[(k,(i:Int))]=out++refL k (row.take (i+1)) 0):=⟨by rw [HRS.out,HOI.out,List.append_assoc]⟩
     have hB2:(oi++[(k,(i:Int))]).length≤1024∧sumW W (oi++[(k,(i:Int))])≤65536:=by
      obtain ⟨r,hr⟩:=HPX.out (i+1) (by omega)
      rw [← HON.out] at hr
      exact HBD.out _ _ hr
     have HSW:Hide (sumW W (oi++[(k,(i:Int))])=sumW W oi+((W.getD k []).length+1)):=⟨by
      rw [sumW_app]
      show sumW W oi+((W.getD k []++if (i:Int) = -1 then [] else [(i:Int)]).length+0)=_
      rw [if_neg (by omega),List.length_append]; rfl⟩
     have HB2:=Hide.mk hB2
     have hsw1:sumW W oi+((W.getD k []).length+1)≤65536:=by rw [← HSW.out]; exact hB2.2
     have HEC:=Hide.mk (endC_snoc oi (k,(i:Int)))
     have hel:=endC_len oi
     have hel2:(endC oi++[AV.lit (.int .i64 ((k:Nat) : Int)),AV.lit (.int .i64 (i:Int))]).length=(oi.length+1) * 2:=by rw [List.length_append,hel]; simp; omega
     have HDN:Hide (∀ t,t < T.length→(t=0∨∃ p j,EdT T p j t∧(p < k∨p=k∧j < i+1))→D[t]?=some (.lit (.int .i64 (((W.getD t []).length:Nat) : Int)))):=⟨fun t ht h=>HD.out t ht (h.imp id fun ⟨p,j,h1,h2⟩=>⟨p,j,h1,by
      by_cases h3:p < k
      ·exact .inl h3
      ·have hpk:p=k:=by omega
       subst hpk
       refine .inr ⟨rfl,?_⟩
       by_cases hji:j < i
       ·exact hji
       ·have:=HDI.out j t h1 (by omega) hji
        omega⟩)⟩
     have hDkl:k < D.length:=by omega
     have hDk2:D[k]'hDkl=.lit (.int .i64 (((W.getD k []).length:Nat) : Int)):=(List.getElem?_eq_some_iff.1 hDk).2
     clear hB2
     generalize hWl:(W.getD k []).length=wl at *
     rcases HGR.out with ⟨hk0,hc0,hs0⟩ | ⟨hk0,hs0,hB1,hB2,hB3,hB4⟩
     ·subst hs0
      have HZ:=Hide.mk (And.intro hk0 hc0)
      clear hk0 hc0
      iterate 8 all_goals try first|with_reducible refine spI (fun h=>?_) fun h=>?_|with_reducible refine spB (fun h=>?_) fun h=>?_|simp (maxSteps:=999999) (disch:=first|assumption|omega|(simp;done)|fail) [*]
      refine ih2.out (row.length - (i+1)) _ _ (by omega) ⟨i+1,_,n3+1+1,_,.slq (n3+1+1) 0 (oi++[(k,(i:Int))]).length 0,D,oi++[(k,(i:Int))],by omega,rfl,rfl,by omega,⟨fun b hb=>?_⟩,?_,?_,hD,hDk,HDN,HON,HB2.out.1,HB2.out.2,⟨.inr ⟨?_,rfl,by omega,by omega,?_,?_⟩⟩,by simp [*],by simp [*],by simp [HZ.out.1],by simp [*,HSW.out],by simp [*],by simp [HLF.out],by simp [*],by simp [*],by simp [*],by simp [*],by simp [*],by simp⟩
      ·simp (disch:=omega) only [gpl,gpn]; exact HGI.out b hb
      ·simp (disch:=omega) only [gpl,gpn]; exact hgn
      ·simp (disch:=omega) only [gpl,gpn]; exact hgD
      ·simp
      ·rw [HEC.out,HZ.out.2]; simp (disch:=omega) only [gpl,gpn,gpe]; rfl
      ·rw [endC_len]
     ·subst hs0
      iterate 8 all_goals try first|with_reducible refine spI (fun h=>?_) fun h=>?_|with_reducible refine spB (fun h=>?_) fun h=>?_|simp (maxSteps:=999999) (disch:=first|assumption|omega|(simp;done)|fail) [*]
      refine ih2.out (row.length - (i+1)) _ _ (by omega) ⟨i+1,_,n3+1+1,_,.slq (n3+1+1) 0 (oi++[(k,(i:Int))]).length 0,D,oi++[(k,(i:Int))],by omega,rfl,rfl,by omega,⟨fun b hb=>?_⟩,?_,?_,hD,hDk,HDN,HON,HB2.out.1,HB2.out.2,⟨.inr ⟨?_,rfl,by omega,by omega,?_,?_⟩⟩,by simp [*],by simp [*],by simp,by simp [*,HSW.out],by simp [*],by simp [HLF.out],by simp [*],by simp [*],by simp [*],by simp [*],by simp [*],by simp⟩
      ·simp (disch:=omega) only [gpl,gpn]; exact HGI.out b hb
      ·simp (disch:=omega) only [gpl,gpn]; exact hgn
      ·simp (disch:=omega) only [gpl,gpn]; exact hgD
      ·simp
      ·rw [HEC.out]; simp (disch:=omega) only [gpl,gpn,gpe]
      ·rw [endC_len]
    ·rw [if_neg (fun h=>ho h.2),List.append_nil] at HRS
     have HLF:Hide (lastB (row.take (i+1))=lastB (row.take i)):=⟨by rw [HLS.out]; simp [ho]⟩
     have HDN:Hide (∀ t,t < T.length→(t=0∨∃ p j,EdT T p j t∧(p < k∨p=k∧j < i+1))→D[t]?=some (.lit (.int .i64 (((W.getD t []).length:Nat) : Int)))):=⟨fun t ht h=>HD.out t ht (h.imp id fun ⟨p,j,h1,h2⟩=>⟨p,j,h1,by
      by_cases h3:p < k
      ·exact .inl h3
      ·have hpk:p=k:=by omega
       subst hpk
       refine .inr ⟨rfl,?_⟩
       by_cases hji:j < i
       ·exact hji
       ·have:=HDI.out j t h1 (by omega) hji
        omega⟩)⟩
     rw [← HRS.out] at HOI
     iterate 8 all_goals try first|with_reducible refine spI (fun h=>?_) fun h=>?_|with_reducible refine spB (fun h=>?_) fun h=>?_|simp (maxSteps:=999999) (disch:=first|assumption|omega|(simp;done)|fail) [*]
     refine ih2.out (row.length - (i+1)) _ _ (by omega) ⟨i+1,_,B,_,ov,D,oi,by omega,rfl,rfl,by omega,⟨fun b hb=>?_⟩,?_,?_,hD,hDk,HDN,HOI,hoi1,hoi2,⟨GrowV.keep HGR.out (by omega) fun h1 h2=>?_⟩,by simp [*],by simp [*],by simp [*],by simp [*],by simp [*],by simp [HLF.out, *],by simp [*],by simp [*],by simp [*],by simp [*],by simp [*],by simp⟩
     ·simp (disch:=omega) only [gpl,gpn]; exact HGI.out b hb
     ·simp (disch:=omega) only [gpl,gpn]; exact hgn
     ·simp (disch:=omega) only [gpl,gpn]; exact hgD
     ·simp (disch:=omega) only [gpl,gpn]
   ·obtain ⟨t,rfl⟩ : ∃ t:Nat,to=t:=⟨to.toNat,by have:=HE1.out; omega⟩
    have htl:t < T.length:=by have:=HE1.out; omega
    have hEd:=HED.out t rfl
    have HEL:=Hide.mk (HLB.out.ed k i t hEd)
    rw [if_neg (fun h=>ht h.1),List.append_nil] at HRS
    have HLF:Hide (lastB (row.take (i+1))=false):=⟨by rw [HLS.out]; simp [ht]⟩
    have hDkl:k < D.length:=by omega
    have hDk2:D[k]'hDkl=.lit (.int .i64 (((W.getD k []).length:Nat) : Int)):=(List.getElem?_eq_some_iff.1 hDk).2
    have htD:t < D.length:=by omega
    have hktI:¬t=k:=by have:=HEL.out.2.2.1; omega
    have HDN:Hide (∀ u,u < T.length→(u=0∨∃ p j,EdT T p j u∧(p < k∨p=k∧j < i+1))→(D.set t (.lit (.int .i64 ((((W.getD k []).length:Nat) : Int)+1))))[u]?=some (.lit (.int .i64 (((W.getD u []).length:Nat) : Int)))):=⟨fun u hu h=>by
     by_cases hut:t=u
     ·subst hut
      rw [List.getElem?_set_self htD,HEL.out.2.2.2,List.length_append]
      simp
     ·rw [List.getElem?_set_ne hut]
      refine HD.out u hu (h.imp id fun ⟨p,j,h1,h2⟩=>⟨p,j,h1,?_⟩)
      by_cases h3:p < k
      ·exact .inl h3
      ·have hpk:p=k:=by omega
       subst hpk
       refine .inr ⟨rfl,?_⟩
       by_cases hji:j < i
       ·exact hji
       ·have:=HDI.out j u h1 (by omega) hji
        omega⟩
    have HDS:Hide ((D.set t (.lit (.int .i64 ((((W.getD k []).length:Nat) : Int)+1)))).length=T.length∧(D.set t (.lit (.int .i64 ((((W.getD k []).length:Nat) : Int)+1))))[k]?=some (.lit (.int .i64 (((W.getD k []).length:Nat) : Int)))):=⟨by rw [List.length_set]; exact hD,by rw [List.getElem?_set_ne hktI]; exact hDk⟩
    rw [← HRS.out] at HOI
    clear HDI HED
    generalize hWl:(W.getD k []).length=wl at *
    iterate 8 all_goals try first|with_reducible refine spI (fun h=>?_) fun h=>?_|with_reducible refine spB (fun h=>?_) fun h=>?_|simp (maxSteps:=999999) (disch:=first|assumption|omega|(simp;done)|fail) [*]
    refine ih2.out (row.length - (i+1)) _ _ (by omega) ⟨i+1,_,B,_,ov,D.set t (.lit (.int .i64 ((wl:Int)+1))),oi,by omega,rfl,rfl,by omega,⟨fun b hb=>?_⟩,?_,?_,HDS.out.1,HDS.out.2,HDN,HOI,hoi1,hoi2,⟨GrowV.keep HGR.out (by omega) fun h1 h2=>?_⟩,by simp [*],by simp [*],by simp [*],by simp [*],by simp [*],by simp [HLF.out],by simp [*],by simp [*],by simp [*],by simp [*],by simp [*],by simp⟩
    ·simp (disch:=omega) only [gpl,gpn]; exact HGI.out b hb
    ·simp (disch:=omega) only [gpl,gpn]; exact hgn
    ·simp (disch:=omega) only [gpl,gpn,gpe]
    ·simp (disch:=omega) only [gpl,gpn]
  ·have hilI:¬(i:Int) < (row.length:Int):=by omega
   have hir:i=row.length:=by omega
   have HRT:Hide (row.take i=row):=⟨by rw [hir,List.take_length]⟩
   rw [HRT.out] at HOI w9
   have HDN:Hide (∀ t,t < T.length→(t=0∨∃ p j,EdT T p j t∧p < k+1)→D[t]?=some (.lit (.int .i64 (((W.getD t []).length:Nat) : Int)))):=⟨fun t ht h=>HD.out t ht (h.imp id fun ⟨p,j,h1,h2⟩=>⟨p,j,h1,by
    by_cases h3:p < k
    ·exact .inl h3
    ·have hpk:p=k:=by omega
     subst hpk
     obtain ⟨h4,_⟩:=HEDI.out j t h1
     exact .inr ⟨rfl,by omega⟩⟩)⟩
   have hDkl:k < D.length:=by omega
   have hDk2:D[k]'hDkl=.lit (.int .i64 (((W.getD k []).length:Nat) : Int)):=(List.getElem?_eq_some_iff.1 hDk).2
   have hel:=endC_len oi
   clear HD HEDI HEDT HPX hia2 hlq
   by_cases hlb:lastB row=true
   ·have HON:Hide (oi++[(k,-1)]=endsM (T.take (k+1)) 0):=⟨by rw [HES.out,HOI.out]; unfold endR; rw [if_pos hlb,List.append_assoc]⟩
    have hB2:(oi++[(k,-1)]).length≤1024∧sumW W (oi++[(k,-1)])≤65536:=by
     obtain ⟨r,hr⟩:=HPY.out
     rw [← HES.out,← HON.out] at hr
     exact HBD.out _ _ hr
    have HSW:Hide (sumW W (oi++[(k,-1)])=sumW W oi+(W.getD k []).length):=⟨by
     rw [sumW_app]
     show sumW W oi+((W.getD k []++if (-1:Int) = -1 then [] else [-1]).length+0)=_
     rw [if_pos rfl,List.append_nil]; rfl⟩
    have HB2:=Hide.mk hB2
    have hsw1:sumW W oi+(W.getD k []).length≤65536:=by rw [← HSW.out]; exact hB2.2
    have hoi3:oi.length+1≤1024:=by have:=hB2.1; rw [List.length_append,List.length_singleton] at this; exact this
    have HEC:=Hide.mk (endC_snoc oi (k,-1))
    have hel2:(endC oi++[AV.lit (.int .i64 ((k:Nat) : Int)),AV.lit (.int .i64 (-1))]).length=(oi.length+1) * 2:=by rw [List.length_append,hel]; simp; omega
    rw [hlb] at w9
    clear hB2 hoi1 hoi2
    generalize hWl:(W.getD k []).length=wl at *
    rcases HGR.out with ⟨hk0,hc0,hs0⟩ | ⟨hk0,hs0,hB1,hB2,hB3,hB4⟩
    ·subst hs0
     have HZ:=Hide.mk (And.intro hk0 hc0)
     clear hk0 hc0
     iterate 8 all_goals try first|with_reducible refine spI (fun h=>?_) fun h=>?_|with_reducible refine spB (fun h=>?_) fun h=>?_|simp (maxSteps:=999999) (disch:=first|assumption|omega|(simp;done)|fail) [Tryz.results68, *]
     all_goals try (exfalso; omega)
     refine ih.out (T.length - (k+1)) _ _ (by omega) ⟨k+1,_,n3+1,_,.slq (n3+1) 0 (oi++[(k,-1)]).length 0,D,oi++[(k,-1)],by omega,rfl,rfl,by omega,⟨fun b hb=>?_⟩,?_,?_,hD,HDN,HON,⟨.inr ⟨?_,rfl,by omega,by omega,?_,?_⟩⟩,by simp [*],by simp [*],by simp [HZ.out.1],by simp [*,HSW.out],by simp [*],by simp [*],by simp⟩
     ·simp (disch:=omega) only [gpl,gpn]; exact (HGI.out b hb).trans (HG.out b hb)
     ·simp (disch:=omega) only [gpl,gpn]; exact hgn
     ·simp (disch:=omega) only [gpl,gpn]; exact hgD
     ·simp
     ·rw [HEC.out,HZ.out.2]; simp (disch:=omega) only [gpl,gpn,gpe]; rfl
     ·rw [endC_len]
    ·subst hs0
     iterate 8 all_goals try first|with_reducible refine spI (fun h=>?_) fun h=>?_|with_reducible refine spB (fun h=>?_) fun h=>?_|simp (maxSteps:=999999) (disch:=first|assumption|omega|(simp;done)|fail) [Tryz.results68, *]
     all_goals try (exfalso; omega)
     refine ih.out (T.length - (k+1)) _ _ (by omega) ⟨k+1,_,n3+1,_,.slq (n3+1) 0 (oi++[(k,-1)]).length 0,D,oi++[(k,-1)],by omega,rfl,rfl,by omega,⟨fun b hb=>?_⟩,?_,?_,hD,HDN,HON,⟨.inr ⟨?_,rfl,by omega,by omega,?_,?_⟩⟩,by simp [*],by simp [*],by simp,by simp [*,HSW.out],by simp [*],by simp [*],by simp⟩
     ·simp (disch:=omega) only [gpl,gpn]; exact (HGI.out b hb).trans (HG.out b hb)
     ·simp (disch:=omega) only [gpl,gpn]; exact hgn
     ·simp (disch:=omega) only [gpl,gpn]; exact hgD
     ·simp
     ·rw [HEC.out]; simp (disch:=omega) only [gpl,gpn,gpe]
     ·rw [endC_len]
   ·have hlb:lastB row=false:=by simpa using hlb
    have HON:Hide (oi=endsM (T.take (k+1)) 0):=⟨by rw [HES.out,HOI.out]; unfold endR; rw [hlb]; simp⟩
    rw [hlb] at w9
    have hlo:=GrowV.slice HGR.out
    have hlo2:=@lenV Tryz.prog _ _ _ _ _ hlo
    generalize hWl:(W.getD k []).length=wl at *
    iterate 8 all_goals try first|with_reducible refine spI (fun h=>?_) fun h=>?_|with_reducible refine spB (fun h=>?_) fun h=>?_|simp (maxSteps:=999999) (disch:=first|assumption|omega|(simp;done)|fail) [Tryz.results68, *]
    all_goals try (exfalso; omega)
    refine ih.out (T.length - (k+1)) _ _ (by omega) ⟨k+1,_,B,_,ov,D,oi,by omega,rfl,rfl,by omega,⟨fun b hb=>?_⟩,?_,?_,hD,HDN,HON,HGR,by simp [*],by simp [*],by simp [*],by simp [*],by simp [*],by simp [*],by simp⟩
    ·exact (HGI.out b hb).trans (HG.out b hb)
    ·exact hgn
    ·exact hgD
 ·have hltI:¬(k:Int) < (T.length:Int):=by omega
  have hkT:k=T.length:=by omega
  have hoE:out=E:=by rw [HOUT.out,hkT,List.take_length]; exact HEE.out.symm
  subst hoE
  iterate 8 all_goals try first|with_reducible refine spI (fun h=>?_) fun h=>?_|with_reducible refine spB (fun h=>?_) fun h=>?_|simp (maxSteps:=999999) (disch:=first|assumption|omega|(simp;done)|fail) [Tryz.results68, *]
  refine ⟨_,_,B,_,⟨rfl,rfl,rfl⟩,by omega,HG.out,?_⟩
  rcases HGR.out with h | ⟨a1,a2,a3,a4,a5,a6⟩
  ·exact .inl h
  ·exact .inr ⟨a1,a2,by omega,a4,a5,a6⟩
end Go.Ai
end
section
namespace Go.Ai
set_option maxRecDepth 10000
def respM (T:List (List (Int×Int))) : Int→List Int→List Int
 | _,[]=>[]
 | a,i :: w=>if ((T.getD a.toNat []).getD i.toNat (-1,-1)).1 = -1 then [-1] else ((T.getD a.toNat []).getD i.toNat (-1,-1)).2 :: respM T ((T.getD a.toNat []).getD i.toNat (-1,-1)).1 w
theorem respM_step {T:List (List (Int×Int))} {a i:Nat} {w:List Int} (ha:a < T.length) (hi:i < (T[a]).length) : respM T ((a:Nat) : Int) (((i:Nat) : Int) :: w)=if (T[a][i]).1 = -1 then [-1] else (T[a][i]).2 :: respM T (T[a][i]).1 w:=by
 have e:(T.getD ((a:Nat) : Int).toNat []).getD ((i:Nat) : Int).toNat (-1,-1)=T[a][i]:=by
  rw [Int.toNat_natCast,Int.toNat_natCast,List.getD_eq_getElem?_getD,List.getD_eq_getElem?_getD,List.getElem?_eq_getElem ha]
  simp [hi]
 rw [respM,e]
def EdO (T:List (List (Int×Int))) (p j t:Nat) (o:Int) : Prop:=∃ (hp:p < T.length) (hj:j < (T[p]).length),T[p][j]=(((t:Nat) : Int),o)
theorem EdT.out {T:List (List (Int×Int))} {p j t:Nat} (h:EdT T p j t) : ∃ o,EdO T p j t o:=by
 have hp:=h.lt
 obtain ⟨e,h1,h2⟩:=h
 rw [List.getD_eq_getElem?_getD,List.getElem?_eq_getElem hp] at h1
 obtain ⟨h3,h4⟩:=List.getElem?_eq_some_iff.1 h1
 have h5:T[p][j]=e:=h4
 exact ⟨e.2,hp,h3,by rw [h5]; exact Prod.ext h2 rfl⟩
theorem EdO.ed {T:List (List (Int×Int))} {p j t:Nat} {o:Int} (h:EdO T p j t o) : EdT T p j t:=by
 obtain ⟨hp,hj,e⟩:=h
 exact ⟨_,by rw [List.getD_eq_getElem?_getD,List.getElem?_eq_getElem hp]; exact List.getElem?_eq_getElem hj,by rw [e]⟩
theorem EdO.step {T:List (List (Int×Int))} {p j t:Nat} {o:Int} (h:EdO T p j t o) (y:List Int) : respM T ((p:Nat) : Int) (((j:Nat) : Int) :: y)=o :: respM T ((t:Nat) : Int) y:=by
 obtain ⟨hp,hj,e⟩:=h
 rw [respM_step hp hj,e,if_neg (by show ¬((t:Nat) : Int) = -1; omega)]
theorem resp_app {T:List (List (Int×Int))} {W:List (List Int)} (hL:Lab T W) : ∀ (n t:Nat),t≤n→t < T.length→∀ y,respM T 0 (W.getD t []++y)=respM T 0 (W.getD t [])++respM T ((t:Nat) : Int) y
 | n,0,_,_,y=>by rw [hL.nil]; rfl
 | 0,t+1,h,_,_=>by omega
 | n+1,t+1,h,hl,y=>by
  obtain ⟨p,j,hE⟩:=hL.src (t+1) (by omega) hl
  obtain ⟨_,_,h3,h4⟩:=hL.ed p j _ hE
  obtain ⟨o,hO⟩:=hE.out
  have i1:=resp_app hL n p (by omega) hE.lt
  rw [h4,List.append_assoc,i1,i1]
  rw [List.singleton_append,hO.step,hO.step]
  simp [respM]
theorem resp_ed {T:List (List (Int×Int))} {W:List (List Int)} (hL:Lab T W) {p j t:Nat} {o:Int} (h:EdO T p j t o) : respM T 0 (W.getD t [])=respM T 0 (W.getD p [])++[o]:=by
 obtain ⟨_,_,_,h4⟩:=hL.ed p j t h.ed
 rw [h4,resp_app hL p p (Nat.le_refl _) h.ed.lt,h.step]; rfl
def bkM (T:List (List (Int×Int))) (W:List (List Int)) : List (List Int×List Int):=(endsM T 0).map fun s=>(eW W s,respM T 0 (eW W s))
theorem resp_end {T:List (List (Int×Int))} {W:List (List Int)} (hL:Lab T W) {k i:Nat} (hk:k < T.length) (hi:i < (T[k]).length) (h:T[k][i]=(-1,-2)) : respM T 0 (eW W (k,(i:Int)))=respM T 0 (W.getD k [])++[-1]:=by
 unfold eW
 dsimp only
 rw [if_neg (by omega),resp_app hL k k (Nat.le_refl _) hk,respM_step hk hi,h,if_pos rfl]
theorem ends_ne {I O:Int} {T:List (List (Int×Int))} {W:List (List Int)} (hL:Lab T W) (h0:0 < T.length) (hok:∀ r∈T,∀ e∈r,e.1 = -1∨(0≤e.1∧e.1 < T.length)) : 0 < (endsM T 0).length:=by
 have hk:T.length - 1 < T.length:=by omega
 have hne:∀ (i:Nat) (hi:i < (T[T.length - 1]).length),(T[T.length - 1][i]).1 = -1:=by
  intro i hi
  rcases hok _ (List.getElem_mem hk) _ (List.getElem_mem hi) with h | h
  ·exact h
  ·obtain ⟨t,ht⟩ : ∃ t:Nat,(T[T.length - 1][i]).1=(t:Int):=⟨(T[T.length - 1][i]).1.toNat,by omega⟩
   have hE:EdT T (T.length - 1) i t:=⟨_,by rw [List.getD_eq_getElem?_getD,List.getElem?_eq_getElem hk]; exact List.getElem?_eq_getElem hi,ht⟩
   have:=hL.ed _ _ _ hE
   omega
 by_cases hr:∃ i,∃ hi:i < (T[T.length - 1]).length,T[T.length - 1][i]=(-1,-2)
 ·obtain ⟨i,hi,h⟩:=hr
  exact List.length_pos_of_mem (end_iff.2 (.inl ⟨_,hk,i,hi,h,rfl⟩))
 ·refine List.length_pos_of_mem (end_iff.2 (.inr ⟨_,hk,?_,rfl⟩))
  unfold lastB
  rw [List.all_eq_true]
  intro e he
  obtain ⟨i,hi,rfl⟩:=List.getElem_of_mem he
  exact decide_eq_true ⟨hne i hi,fun h=>hr ⟨i,hi,Prod.ext (hne i hi) h⟩⟩
end Go.Ai
end
section
namespace Go.Ai
open Go.Proofs
set_option maxRecDepth 10000
set_option maxHeartbeats 40000000
def sumT:List (List Int×List Int)→Nat
 | []=>0
 | t :: ts=>t.1.length+sumT ts
theorem sumT_app:∀ (a b:List (List Int×List Int)),sumT (a++b)=sumT a+sumT b
 | [],b=>by simp [sumT]
 | t :: a,b=>by show t.1.length+sumT (a++b)=(t.1.length+sumT a)+sumT b; rw [sumT_app a b]; omega
theorem sumT_pre (ts:List (List Int×List Int)) (k:Nat) : sumT (ts.take k)≤sumT ts:=by
 have:=sumT_app (ts.take k) (ts.drop k)
 rw [List.take_append_drop] at this; omega
theorem within_big {I O:Int} {ts:List (List Int×List Int)} (hI:I≤16) (hO:O≤16) (hl:ts.length≤1024) (hw:∀ t∈ts,t.1.length≤256) (hs:sumT ts≤65536) (g:Nat→Option Blk) (n:Nat) (sv:AV) (hT:LogR g n ts sv) :
  WC 3 Tryz.prog 46 [.agg [.lit (.int .i64 I),.lit (.int .i64 O),sv]] ⟨.fn g,n⟩ fun r=>r=.ret (.lit (.bool true)) ⟨.fn g,n⟩:=by
 refine WC.drop1 rfl ?_
 have hlen:=@lenV Tryz.prog _ _ _ _ _ hT.choose_spec.1
 have h1s:=hT.choose_spec.1.one
 have hone:allOne [.lit (.int .i64 I),.lit (.int .i64 O),sv]=true:=by simp [h1s]
 have HT:=Hide.mk hT
 have HW:=Hide.mk hw
 clear hT hw
 refine WC.enterP (noO_ok _ _) hG [] Tryz.func46 rfl (by decide +kernel) (Nat.le_of_ble_eq_true (by kernel_rfl)) ?_
 iterate 8 all_goals try first|with_reducible refine spI (fun h=>?_) fun h=>?_|with_reducible refine spB (fun h=>?_) fun h=>?_|simp (maxSteps:=999999) (disch:=first|assumption|omega|(simp;done)|fail) [*]
 refine LX.ind (fun m gf H'=>∃ (k st n' : Nat) (gL:Nat→Option Blk),k≤ts.length∧m=ts.length - k∧H'=⟨.fn gL,n'⟩∧n < n'∧Hide (∀ b,b < n→gL b=g b)∧gL n=some (.cells [.lit (.int .i64 I),.lit (.int .i64 O),sv] true 0) ∧
  Hide (st=sumT (ts.take k))∧gf 1=some (.ptr n 0)∧gf 3=some (.lit (.int .i64 st))∧gf 7=some sv∧gf 8=some (.lit (.int .i64 ts.length))∧gf 9=some (.lit (.int .i64 k))) (m0:=ts.length) ?_ ?_
 ·exact ⟨0,0,_,_,Nat.zero_le _,rfl,rfl,Nat.lt_succ_self n,⟨fun b hb=>gpl hb⟩,gpe,⟨rfl⟩,by simp,by simp,by simp,by simp,by simp⟩
 rintro m gf H' ⟨k,st,n',gL,hk,rfl,rfl,hn',HG,hgn,HST,w1,w3,w7,w8,w9⟩ ih
 refine LX.roundP (noO_ok _ _) hG [] (by decide +kernel) ?_
 by_cases hlt:k < ts.length
 ·have hltI:(k:Int) < (ts.length:Int):=by omega
  obtain ⟨a2,off,s1,s2,HAT0⟩:=(HT.out.mono (Nat.le_of_lt hn') HG.out).at hlt
  have HAT:=Hide.mk HAT0
  clear HAT0
  have hia:∀ {H:Mem} {ev:Ev} {o:Oper} {ty:TypeId},iaS Tryz.prog H ev o ty (some (none,2)) (some sv) (some (.lit (.int .i64 (k:Int))))=.val (.ptr a2 (off+k * 2)) H:=fun {H ev o ty}=>HAT.out.ia
  have hcell:=HAT.out.agg
  have hlw:=@lenV Tryz.prog _ _ _ _ _ HAT.out.r1
  have h1a:=HAT.out.r1.one
  have h1b:=HAT.out.r2.one
  have hone2:allOne [s1,s2]=true:=by simp [h1a,h1b]
  have hwl:=HW.out _ (List.getElem_mem hlt)
  have HSS:Hide (sumT (ts.take (k+1))=st+ts[k].1.length):=⟨by rw [take_snoc hlt,sumT_app,HST.out]; rfl⟩
  have hs1:st+ts[k].1.length≤65536:=by rw [← HSS.out]; exact Nat.le_trans (sumT_pre ts _) hs
  clear HAT
  generalize ts[k]=t at *
  have hbigI:¬256 < (t.1.length:Int):=by omega
  have hk1:¬1024≤(k:Int):=by omega
  have hs1I:¬65536 < (st:Int)+(t.1.length:Int):=by omega
  iterate 8 all_goals try first|with_reducible refine spI (fun h=>?_) fun h=>?_|with_reducible refine spB (fun h=>?_) fun h=>?_|simp (maxSteps:=999999) (disch:=first|assumption|omega|(simp;done)|fail) [*]
  exact ih.out (ts.length - (k+1)) _ _ (by omega) ⟨k+1,st+t.1.length,_,_,by omega,rfl,rfl,by omega,⟨fun b hb=>(gpl (by omega)).trans (HG.out b hb)⟩,(gpl (by omega)).trans hgn,⟨HSS.out.symm⟩,by simp [*],by simp [*],by simp [*],by simp [*],by simp⟩
 ·have hltI:¬(k:Int) < (ts.length:Int):=by omega
  iterate 8 all_goals try first|with_reducible refine spI (fun h=>?_) fun h=>?_|with_reducible refine spB (fun h=>?_) fun h=>?_|simp (maxSteps:=999999) (disch:=first|assumption|omega|(simp;done)|fail) [Tryz.results46, *]
  exact ⟨Nat.le_of_lt hn',fun b hb=>HG.out b hb⟩
theorem endC_at:∀ (E:List (Nat×Int)) (k:Nat) (h:k < E.length),((endC E).drop (k * 2)).take 2=[.lit (.int .i64 ((E[k].1:Nat) : Int)),.lit (.int .i64 E[k].2)]
 | e :: E,0,_=>rfl
 | e :: E,k+1,h=>by
  have:=endC_at E k (by simpa using h)
  have e1:endC (e :: E)=[.lit (.int .i64 ((e.1:Nat) : Int)),.lit (.int .i64 e.2)]++endC E:=rfl
  rw [e1,show (k+1) * 2=2+k * 2 by omega,← List.drop_drop]
  exact this
theorem end_at {g:Nat→Option Blk} {n:Nat} {E:List (Nat×Int)} {ov:AV} (h:SliceV g n ov E.length (endC E)) {k:Nat} (hk:k < E.length) : ∃ a off,a < n∧(∀ {H:Mem} {ev:Ev} {o:Oper} {t:TypeId},iaS Tryz.prog H ev o t (some (none,2)) (some ov) (some (.lit (.int .i64 (k:Int))))=.val (.ptr a (off+k * 2)) H)∧loadB (some (true,2)) (g a) (off+k * 2)=some (.agg [.lit (.int .i64 ((E[k].1:Nat) : Int)),.lit (.int .i64 E[k].2)]):=by
 obtain ⟨a,off,ha,hrow,hia⟩:=h.ia (P:=Tryz.prog) hk 2
 have hc:=hrow.agg (k:=k * 2) (s:=2) (by rw [endC_len]; omega)
 rw [endC_at E k hk] at hc
 exact ⟨a,off,ha,hia,hc⟩
theorem edge1_at {g:Nat→Option Blk} {n:Nat} {row:List (Int×Int)} {q:AV} (h:SliceV g n q row.length (rowC row)) {i:Nat} (hi:i < row.length) : ∃ a off,a < n∧(∀ {H:Mem} {ev:Ev} {o:Oper} {t:TypeId},iaS Tryz.prog H ev o t (some (none,2)) (some q) (some (.lit (.int .i64 (i:Int))))=.val (.ptr a (off+i * 2)) H)∧loadB (some (false,1)) (g a) (off+i * 2+1)=some (.lit (.int .i64 row[i].2)):=by
 obtain ⟨a,off,ha,hrow,hia⟩:=h.ia (P:=Tryz.prog) hi 2
 have hc:=hrow.one (k:=i * 2+1) (s:=1) (by rw [rowC_len]; omega)
 have h2:=(rowC_one row i hi).2
 rw [(List.getElem?_eq_some_iff.1 h2).2] at hc
 exact ⟨a,off,ha,hia,by rw [Nat.add_assoc]; exact hc⟩
theorem RepW.of {g:Nat→Option Blk} {n B:Nat} {w:List Int} {own:Bool} {z:Nat} (h:g B=some (.cells (wdC w) own z)) (hB:B < n) {c:Nat} : RepW g n w (.sl B 0 w.length c):=sliceV_all h hB
end Go.Ai
end
