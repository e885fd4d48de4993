/- A small verified interpreter over names, its proofs, and what was proved with it. No condition. -/
import Derived.Lib.AtoiAll
import Derived.Lib.ItoaNum
import Derived.Test.YtfllomlghjolpaaDoorW05
import Derived.Test.YtfllomlghjolpaaDoorW04
set_option linter.all false
set_option linter.deprecated false
section
namespace Go.Ai
set_option maxRecDepth 10000
theorem Row.ext {g g' : Nat→Option Blk} {a off:Nat} {cs:List AV} (hr:Row g a off cs) (h:∀ x,g a=some x→g' a=some x) : Row g' a off cs :=
 let ⟨l,own,z,h1,h2,h3⟩:=hr; ⟨l,own,z,h _ h1,h2,h3⟩
theorem SliceV.ext {g g' : Nat→Option Blk} {b b' len:Nat} {sv:AV} {cs:List AV} (hb:b≤b') (h:∀ a x,a < b→g a=some x→g' a=some x) : SliceV g b sv len cs→SliceV g' b' sv len cs :=
 fun hs=>hs.imp id fun ⟨a,off,h1,h2,h3⟩=>⟨a,off,by omega,h2,h3.ext fun x hx=>h a x h1 hx⟩
theorem SliceV.one {g:Nat→Option Blk} {b len:Nat} {sv:AV} {cs:List AV} : SliceV g b sv len cs→oneC sv=true:=by
 rintro (⟨_,_,rfl | rfl⟩ | ⟨a,off,_,⟨c,rfl⟩ | ⟨c,rfl⟩,_⟩) <;> rfl
def SliceA (g:Nat→Option Blk) (b:Nat) (sv:AV) (len:Nat) (cs:List AV) : Prop :=
 (len=0∧(sv=.lit (.slice none 0 0)∨sv=.es))∨∃ a off c,a < b∧sv=.sl a off len c∧Row g a off cs
theorem SliceA.mono {g g' : Nat→Option Blk} {b b' len:Nat} {sv:AV} {cs:List AV} (hb:b≤b') (h:∀ a,a < b→g' a=g a) : SliceA g b sv len cs→SliceA g' b' sv len cs :=
 fun hs=>hs.imp id fun ⟨a,off,c,h1,h2,h3⟩=>⟨a,off,c,by omega,h2,h3.mono (h a h1)⟩
theorem SliceA.one {g:Nat→Option Blk} {b len:Nat} {sv:AV} {cs:List AV} : SliceA g b sv len cs→oneC sv=true:=by
 rintro (⟨_,rfl | rfl⟩ | ⟨a,off,c,_,rfl,_⟩) <;> rfl
def rowC (r:List (Int×Int)) : List AV:=r.flatMap fun e=>[.lit (.int .i64 e.1),.lit (.int .i64 e.2)]
theorem rowC_len:∀ (r:List (Int×Int)),(rowC r).length=r.length * 2
 | []=>rfl
 | e :: r=>by
  have:=rowC_len r
  unfold rowC at this ⊢
  rw [List.flatMap_cons,List.length_append,this,List.length_cons]
  simp
  omega
theorem rowC_snoc (r:List (Int×Int)) (e:Int×Int) : rowC (r++[e])=rowC r++[.lit (.int .i64 e.1),.lit (.int .i64 e.2)]:=by
 unfold rowC
 rw [List.flatMap_append]
 simp
theorem rowC_at:∀ (r:List (Int×Int)) (k:Nat) (h:k < r.length),((rowC r).drop (k * 2)).take 2=[.lit (.int .i64 r[k].1),.lit (.int .i64 r[k].2)]
 | e :: r,0,_=>rfl
 | e :: r,k+1,h=>by
  have:=rowC_at r k (by simpa using h)
  have e1:rowC (e :: r)=[.lit (.int .i64 e.1),.lit (.int .i64 e.2)]++rowC r:=rfl
  rw [e1,show (k+1) * 2=2+k * 2 by omega,← List.drop_drop]
  exact this
theorem rowC_one (allr:List (Int×Int)) (k:Nat) (h:k < allr.length) : (rowC allr)[k * 2]?=some (.lit (.int .i64 allr[k].1))∧(rowC allr)[k * 2+1]?=some (.lit (.int .i64 allr[k].2)):=by
 have h1:=rowC_at allr k h
 have h2:(((rowC allr).drop (k * 2)).take 2)[0]?=some (.lit (.int .i64 allr[k].1)):=by rw [h1]; rfl
 have h3:(((rowC allr).drop (k * 2)).take 2)[1]?=some (.lit (.int .i64 allr[k].2)):=by rw [h1]; rfl
 rw [List.getElem?_take_of_lt (by omega),List.getElem?_drop] at h2 h3
 exact ⟨h2,h3⟩
def RowsE (g:Nat→Option Blk) (b:Nat) : List (List (Int×Int))→List AV→Prop
 | [],cs=>cs=[]
 | r :: l,cs=>∃ c t,cs=c :: t∧SliceV g b c r.length (rowC r)∧RowsE g b l t
theorem RowsE.ext {g g' : Nat→Option Blk} {b b' : Nat} (hb:b≤b') (h:∀ a x,a < b→g a=some x→g' a=some x) : ∀ {l:List (List (Int×Int))} {cs:List AV},RowsE g b l cs→RowsE g' b' l cs
 | [],_,h0=>h0
 | _ :: _,_,⟨c,t,h1,h2,h3⟩=>⟨c,t,h1,h2.ext hb h,h3.ext hb h⟩
theorem RowsE.len {g:Nat→Option Blk} {b:Nat} : ∀ {l:List (List (Int×Int))} {cs:List AV},RowsE g b l cs→cs.length=l.length
 | [],cs,h=>by have h' : cs=[]:=h; rw [h']; rfl
 | r :: l,cs,⟨c,t,h1,h2,h3⟩=>by rw [h1,List.length_cons,List.length_cons,h3.len]
theorem RowsE.at {g:Nat→Option Blk} {b:Nat} : ∀ {l:List (List (Int×Int))} {cs:List AV},RowsE g b l cs→∀ (k:Nat) (h:k < l.length) (h' : k < cs.length),SliceV g b cs[k] l[k].length (rowC l[k])
 | r :: l,cs,⟨c,t,h1,h2,h3⟩,0,h,h'=>by subst h1; exact h2
 | r :: l,cs,⟨c,t,h1,h2,h3⟩,k+1,h,h'=>by subst h1; exact h3.at k (by simpa using h) (by simpa using h')
theorem RowsE.snoc {g:Nat→Option Blk} {b:Nat} {r:List (Int×Int)} {c:AV} (hr:SliceV g b c r.length (rowC r)) : ∀ {l:List (List (Int×Int))} {cs:List AV},RowsE g b l cs→RowsE g b (l++[r]) (cs++[c])
 | [],cs,h=>by have h' : cs=[]:=h; subst h'; exact ⟨c,[],rfl,hr,rfl⟩
 | _ :: _,_,⟨d,t,h1,h2,h3⟩=>⟨d,t++[c],by rw [h1]; rfl,h2,h3.snoc hr⟩
def RepM (g:Nat→Option Blk) (b:Nat) (M:MachM) (cs:List AV) : Prop :=
 ∃ sv svs,cs=[.lit (.int .i64 M.inp),.lit (.int .i64 M.out),sv]∧RowsE g b M.rows svs∧SliceV g b sv M.rows.length svs
theorem RepM.ext {g g' : Nat→Option Blk} {b b' : Nat} (hb:b≤b') (h:∀ a x,a < b→g a=some x→g' a=some x) {M:MachM} {cs:List AV} : RepM g b M cs→RepM g' b' M cs :=
 fun ⟨sv,svs,h1,h2,h3⟩=>⟨sv,svs,h1,h2.ext hb h,h3.ext hb h⟩
theorem RepM.mono {g g' : Nat→Option Blk} {b b' : Nat} (hb:b≤b') (h:∀ a,a < b→g' a=g a) {M:MachM} {cs:List AV} (hr:RepM g b M cs) : RepM g' b' M cs:=hr.ext hb fun a x ha hx=>(h a ha).trans hx
theorem RepM.one {g:Nat→Option Blk} {b:Nat} {M:MachM} {cs:List AV} (h:RepM g b M cs) : ∃ sv,cs=[.lit (.int .i64 M.inp),.lit (.int .i64 M.out),sv]∧oneC sv=true :=
 let ⟨sv,_,h1,_,h3⟩:=h; ⟨sv,h1,h3.one⟩
def FreshM (g:Nat→Option Blk) (n n' : Nat) (M:MachM) (cs:List AV) : Prop:=∃ gk:Nat→Option Blk,(∀ a z,gk a=some z→g a=some z∧n≤a∧a < n')∧RepM gk n' M cs
theorem FreshM.keep {g g' : Nat→Option Blk} {n0 n n' n2:Nat} {M:MachM} {cs:List AV} (h:FreshM g n n' M cs) (h0:n0≤n) (h2:n'≤n2) (hg:∀ a,n≤a→a < n'→g' a=g a) : FreshM g' n0 n2 M cs:=by
 obtain ⟨gk,h1,h3⟩:=h
 refine ⟨gk,fun a z hz=>?_,h3.ext h2 fun a z _ hz=>hz⟩
 obtain ⟨e1,e2,e3⟩:=h1 a z hz
 exact ⟨(hg a e2 e3).trans e1,by omega,by omega⟩
theorem FreshM.rep {g:Nat→Option Blk} {n n' : Nat} {M:MachM} {cs:List AV} (h:FreshM g n n' M cs) : RepM g n' M cs :=
 let ⟨_,h1,h3⟩:=h; h3.ext (Nat.le_refl _) fun a z _ hz=>(h1 a z hz).1
def GrowV (g:Nat→Option Blk) (lo n' B:Nat) (sv:AV) (len sz:Nat) (cs:List AV) : Prop :=
 (len=0∧cs=[]∧sv=.lit (.slice none 0 0))∨(0 < len∧sv=.slq B 0 len 0∧lo≤B∧B < n'∧g B=some (.cells cs true sz)∧cs.length=len * sz)
theorem GrowV.keep {g g' : Nat→Option Blk} {lo n' n2 B len sz:Nat} {sv:AV} {cs:List AV} (h:GrowV g lo n' B sv len sz cs) (hn:n'≤n2) (hg:lo≤B→B < n'→g' B=g B) : GrowV g' lo n2 B sv len sz cs :=
 h.imp id fun ⟨h0,h1,h2,h3,h4,h5⟩=>⟨h0,h1,h2,by omega,(hg h2 h3).trans h4,h5⟩
theorem GrowV.mk {g:Nat→Option Blk} {lo n' B len sz:Nat} {cs:List AV} (h:g B=some (.cells cs true sz)) (h1:lo≤B) (h2:B < n') (h3:cs.length=(len+1) * sz) : GrowV g lo n' B (.slq B 0 (len+1) 0) (len+1) sz cs :=
 .inr ⟨by omega,rfl,h1,h2,h,h3⟩
theorem GrowV.one {g:Nat→Option Blk} {lo n' B len sz:Nat} {sv:AV} {cs:List AV} : GrowV g lo n' B sv len sz cs→oneC sv=true:=by
 rintro (⟨_,_,rfl⟩ | ⟨_,rfl,_⟩) <;> rfl
theorem GrowV.slice {g:Nat→Option Blk} {lo n' B len sz:Nat} {sv:AV} {cs:List AV} (h:GrowV g lo n' B sv len sz cs) : SliceV (fun a=>if a=B∧lo≤B∧B < n' then g a else none) n' sv len cs:=by
 rcases h with ⟨h1,h2,h3⟩ | ⟨h0,h1,h2,h3,h4,h5⟩
 ·exact .inl ⟨h1,h2,.inl h3⟩
 ·exact .inr ⟨B,0,h3,.inr ⟨0,h1⟩,cs,true,sz,(if_pos ⟨rfl,h2,h3⟩).trans h4,by simp,by simp⟩
def edgeM (part:Bool) (n O v:Nat) : Int×Int:=if part=true∧v % 4=3 then (-1,-1) else (((v / 4 % n:Nat) : Int),((v / 4 / n % O:Nat) : Int))
def rowM (part:Bool) (es:List Nat) (n I O s:Nat) : List (Int×Int):=(List.range I).map fun i=>edgeM part n O (es.getD (s * I+i) 0)
def machOf (st inp out:Nat) (part:Bool) (es:List Nat) : MachM :=
 ⟨1+((inp % 3:Nat) : Int),1+((out % 3:Nat) : Int),(List.range (1+st % 6)).map (rowM part es (1+st % 6) (1+inp % 3) (1+out % 3))⟩
theorem machOf_ok (st inp out:Nat) (part:Bool) (es:List Nat) : (machOf st inp out part es).ok:=by
 have h1:=Nat.mod_lt inp (show 0 < 3 by omega)
 have h2:=Nat.mod_lt out (show 0 < 3 by omega)
 have h3:=Nat.mod_lt st (show 0 < 6 by omega)
 refine ⟨?_,?_,?_,?_,?_,?_,?_⟩
 ·show (1:Int)≤1+((inp % 3:Nat) : Int); omega
 ·show 1+((inp % 3:Nat) : Int)≤16; omega
 ·show (1:Int)≤1+((out % 3:Nat) : Int); omega
 ·show 1+((out % 3:Nat) : Int)≤16; omega
 ·show 1≤((List.range (1+st % 6)).map _).length; simp
 ·show ((List.range (1+st % 6)).map _).length≤64; simp; omega
 ·intro r hr
  have hr' : r∈(List.range (1+st % 6)).map (rowM part es (1+st % 6) (1+inp % 3) (1+out % 3)):=hr
  obtain ⟨s,hs,rfl⟩:=List.mem_map.1 hr'
  refine ⟨?_,fun e he=>?_⟩
  ·show ((((List.range (1+inp % 3)).map _).length:Nat) : Int)=1+((inp % 3:Nat) : Int)
   rw [List.length_map,List.length_range]; omega
  ·obtain ⟨i,hi,rfl⟩:=List.mem_map.1 he
   have hl:(machOf st inp out part es).rows.length=1+st % 6:=by show ((List.range (1+st % 6)).map _).length=_; simp
   rw [hl]
   show edgeOK (1+st % 6) (1+((out % 3:Nat) : Int)) _=true
   generalize es.getD (s * (1+inp % 3)+i) 0=v
   unfold edgeM
   split
   ·rfl
   ·have e1:=Nat.mod_lt (v / 4) (show 0 < 1+st % 6 by omega)
    have e2:=Nat.mod_lt (v / 4 / (1+st % 6)) (show 0 < 1+out % 3 by omega)
    simp only [edgeOK,Bool.or_eq_true,Bool.and_eq_true,decide_eq_true_eq]
    refine .inr ⟨by omega,by omega,by omega,by omega⟩
end Go.Ai
end
section
namespace Go.Ai
set_option maxRecDepth 10000
def u64C (l:List Nat) : List AV:=l.map fun (c:Nat)=>.lit (.int .u64 (c:Int))
theorem u64C_len (l:List Nat) : (u64C l).length=l.length:=List.length_map _
theorem u64C_at (l:List Nat) (k:Nat) (h:k < (u64C l).length) : (u64C l)[k]=.lit (.int .u64 ((l.getD k 0:Nat) : Int)):=by
 unfold u64C at h ⊢
 rw [List.getElem_map]
 rw [List.length_map] at h
 rw [List.getD_eq_getElem?_getD,List.getElem?_eq_getElem h]
 rfl
def RepG (g:Nat→Option Blk) (b:Nat) (M:MachM) (nx:List Nat) (all:Nat) (cs:List AV) : Prop :=
 ∃ rv nv,cs=[.lit (.int .i64 M.inp),.lit (.int .i64 M.out),rv,nv,.lit (.int .u64 (all:Int))]∧RepM g b M [.lit (.int .i64 M.inp),.lit (.int .i64 M.out),rv]∧SliceV g b nv nx.length (u64C nx)
theorem RepG.mono {g g' : Nat→Option Blk} {b b' : Nat} (hb:b≤b') (h:∀ a,a < b→g' a=g a) {M:MachM} {nx:List Nat} {all:Nat} {cs:List AV} : RepG g b M nx all cs→RepG g' b' M nx all cs :=
 fun ⟨rv,nv,h1,h2,h3⟩=>⟨rv,nv,h1,h2.mono hb h,h3.mono hb h⟩
theorem lenV {P:Program} {g:Nat→Option Blk} {b len:Nat} {sv:AV} {cs:List AV} (h:SliceV g b sv len cs) : ∀ {H:Mem} {ev:Ev} {o:Oper} {c:Call} {e:TypeId},lenS P H ev o c (some (.slice e)) (some [sv])=.val (.lit (.int .i64 len)) H:=by
 intro H ev o c e
 rcases h with ⟨rfl,_,rfl | rfl⟩ | ⟨a,off,_,⟨c',rfl⟩ | ⟨c',rfl⟩,_⟩ <;> rfl
theorem edge_at {M:MachM} {k i:Nat} {row:List (Int×Int)} {e:Int×Int} (h:M.rows[k]?=some row) (hi:row[i]?=some e) : M.edge k i=e:=by
 have e1:M.rows.getD k []=row:=by rw [List.getD_eq_getElem?_getD,h]; rfl
 unfold MachM.edge
 rw [e1,List.getD_eq_getElem?_getD,hi]; rfl
end Go.Ai
end
section
namespace Go.Ai
set_option maxRecDepth 10000
def valL (acc:Nat) : List UInt8→Nat
 | []=>acc
 | c :: r=>valL (acc * 10+(c.toNat - 48)) r
theorem valL_snoc:∀ (l:List UInt8) (acc:Nat) (d:UInt8),valL acc (l++[d])=valL acc l * 10+(d.toNat - 48)
 | [],acc,d=>rfl
 | c :: r,acc,d=>valL_snoc r (acc * 10+(c.toNat - 48)) d
theorem tl_len (s:ByteArray) : s.data.toList.length=s.size:=by simp
theorem bAt_list {s:ByteArray} {k:Nat} (h:k < s.size) : bAt s k=((s.data.toList[k]'(by simpa using h)).toNat:Nat):=by
 unfold bAt
 rw [dif_pos h]
 simp
 rfl
theorem drop_at {l:List UInt8} {k:Nat} (h:k < l.length) : l.drop k=l[k] :: l.drop (k+1):=List.drop_eq_getElem_cons h
theorem valN_list {s:ByteArray} (m:Nat) : ∀ (k acc:Nat),k+m=s.size→valN s m k acc=valL acc (s.data.toList.drop k):=by
 induction m with
 | zero =>
  intro k acc h
  rw [List.drop_eq_nil_of_le (by simp; omega)]
  rfl
 | succ m ih =>
  intro k acc h
  have hk:k < s.size:=by omega
  have hl:k < s.data.toList.length:=by simpa using hk
  have e2:(bAt s k - 48).toNat=(s.data.toList[k]).toNat - 48:=by
   rw [bAt_list hk]
   omega
  have e1:valN s (m+1) k acc=valN s m (k+1) (acc * 10+(bAt s k - 48).toNat):=by rw [valN]
  rw [e1,ih (k+1) _ (by omega),e2,drop_at hl]
  rfl
theorem list_digits {s:ByteArray} (hd:∀ c∈s.data.toList,48≤c.toNat∧c.toNat≤57) : digitsB s:=by
 intro k hk
 have:=hd _ (List.getElem_mem (l:=s.data.toList) (n:=k) (by simpa using hk))
 rw [bAt_list hk]
 unfold digitM
 rw [decide_eq_true]
 omega
theorem valB_list (s:ByteArray) : valB s=valL 0 s.data.toList:=by
 have:=valN_list (s:=s) s.size 0 0 (by omega)
 rw [List.drop_zero] at this
 exact this
def Plain (l:List UInt8) : Prop:=l≠[]∧(∀ c∈l,48≤c.toNat∧c.toNat≤57)∧(∀ c r,l=c :: r→r≠[]→c.toNat≠48)
theorem ofNat_dig {u:Nat} (h:u < 10) : (UInt8.ofNat (48+u)).toNat=48+u:=by
 rw [UInt8.toNat_ofNat']
 omega
theorem plain_dec:∀ (n u:Nat),u≤n→Plain (Lib.decDigits u)∧(1≤u→∀ c r,Lib.decDigits u=c :: r→c.toNat≠48)∧∀ k,u < 10 ^ (k+1)→(Lib.decDigits u).length≤k+1
 | n,u,hn=>by
  by_cases h:u < 10
  ·rw [Lib.decDigits,dif_pos h]
   have e:=ofNat_dig h
   refine ⟨⟨by simp,fun c hc=>?_,fun c r hr hne=>?_⟩,fun h1 c r hr=>?_,fun k _=>by simp⟩
   ·have:c=UInt8.ofNat (48+u):=by simpa using hc
    rw [this,e]; omega
   ·cases hr; exact absurd rfl hne
   ·cases hr; rw [e]; omega
  ·obtain ⟨n',rfl⟩ : ∃ n',n=n'+1:=⟨n - 1,by omega⟩
   obtain ⟨⟨p1,p2,p3⟩,p4,p5⟩:=plain_dec n' (u / 10) (by omega)
   have e:=ofNat_dig (u:=u % 10) (by omega)
   have hne0:=p4 (by omega)
   rw [Lib.decDigits,dif_neg h]
   refine ⟨⟨by simp,fun c hc=>?_,fun c r hr _=>?_⟩,fun _ c r hr=>?_,fun k hk=>?_⟩
   ·rcases List.mem_append.1 hc with hc | hc
    ·exact p2 c hc
    ·have:c=UInt8.ofNat (48+u % 10):=by simpa using hc
     rw [this,e]; omega
   ·cases hq:Lib.decDigits (u / 10) with
    | nil=>exact absurd hq p1
    | cons x y=>rw [hq] at hr; cases hr; exact hne0 _ _ hq
   ·cases hq:Lib.decDigits (u / 10) with
    | nil=>exact absurd hq p1
    | cons x y=>rw [hq] at hr; cases hr; exact hne0 _ _ hq
   ·cases k with
    | zero=>simp at hk; omega
    | succ k =>
     have:=p5 k (by rw [Nat.pow_succ] at hk; omega)
     simp; omega
end Go.Ai
end
section
namespace Go.Ai
set_option maxRecDepth 10000
def decB (n:Nat) : ByteArray:=⟨(Lib.decDigits n).toArray⟩
theorem dec_size (n k:Nat) (h:n < 10 ^ (k+1)) : (decB n).size≤k+1:=by
 have:=(plain_dec n n (Nat.le_refl _)).2.2 k h
 unfold decB
 show (Lib.decDigits n).toArray.size≤_
 simpa using this
def rankM (op:Nat) : Int:=if op=6 then 1 else if op=5 then 2 else if subsM op=1 then 3 else 4
def parM (s:ByteArray) (r least:Int) : ByteArray:=if r < least then ⟨#[40]⟩++s++⟨#[41]⟩ else s
def joinM (op:Nat) (a b:Int) : List (ByteArray×Int)→ByteArray
 | []=>if op=0 then signB op else if op=3 then signB op++⟨#[32]⟩++decB a.toNat++⟨#[32]⟩++decB b.toNat else signB op++⟨#[32]⟩++decB a.toNat
 | [x]=>signB op++⟨#[32]⟩++parM x.1 x.2 3
 | x :: y :: _=>if op=10∨op=14 then signB op++⟨#[91]⟩++x.1++⟨#[32,85,32]⟩++y.1++⟨#[93]⟩ else parM x.1 x.2 (rankM op)++⟨#[32]⟩++signB op++⟨#[32]⟩++parM y.1 y.2 (rankM op+1)
mutual
def textM:NodeM→ByteArray
 | .mk op a b subs=>joinM op a b (textL subs)
def textL:List NodeM→List (ByteArray×Int)
 | []=>[]
 | x :: l=>(textM x,rankM x.op) :: textL l
end
theorem par_size (s:ByteArray) (r l:Int) : (parM s r l).size≤s.size+2:=by
 unfold parM
 split
 ·rw [ba_size_append,ba_size_append]
  show 1+s.size+1≤_
  omega
 ·omega
theorem sign_size (op:Nat) : (signB op).size≤5:=by
 by_cases h:op < 15
 ·have:op=0∨op=1∨op=2∨op=3∨op=4∨op=5∨op=6∨op=7∨op=8∨op=9∨op=10∨op=11∨op=12∨op=13∨op=14:=by omega
  rcases this with rfl | rfl | rfl | rfl | rfl | rfl | rfl | rfl | rfl | rfl | rfl | rfl | rfl | rfl | rfl <;> decide
 ·unfold signB
  rw [List.getD_eq_getElem?_getD,List.getElem?_eq_none (by show 15≤op; omega)]
  decide
mutual
theorem text_size:∀ (x:NodeM),validM 10000 10000 10000 x=true→(textM x).size≤32 * sizeN x
 | .mk op a b subs,h=>by
  simp only [validM,Bool.and_eq_true,decide_eq_true_eq] at h
  obtain ⟨h1,h2,h3,h4,h5,h6,h7⟩:=h
  have hs:=textL_size subs h7
  have hg:=sign_size op
  have hda:=dec_size a.toNat 3 (by split at h5 <;> (try split at h5) <;> omega)
  have hdb:=dec_size b.toNat 3 (by split at h6 <;> omega)
  unfold textM sizeN
  have e1:(⟨#[32]⟩ : ByteArray).size=1:=rfl
  have e2:(⟨#[91]⟩ : ByteArray).size=1:=rfl
  have e3:(⟨#[93]⟩ : ByteArray).size=1:=rfl
  have e4:(⟨#[32,85,32]⟩ : ByteArray).size=3:=rfl
  match subs,hs with
  | [],_ =>
   simp only [textL,joinM,sizeL]
   split
   ·omega
   ·split
    ·simp only [ba_size_append]; omega
    ·simp only [ba_size_append]; omega
  | [x],hs =>
   simp only [textL,joinM,sizeL,List.map_cons,List.map_nil,List.sum_cons,List.sum_nil,ba_size_append] at hs ⊢
   have:=par_size (textM x) (rankM x.op) 3
   omega
  | x :: y :: l,hs =>
   simp only [textL,List.map_cons,List.sum_cons,sizeL] at hs ⊢
   simp only [joinM]
   split
   ·simp only [ba_size_append]; omega
   ·have p1:=par_size (textM x) (rankM x.op) (rankM op)
    have p2:=par_size (textM y) (rankM y.op) (rankM op+1)
    simp only [ba_size_append]; omega
theorem textL_size:∀ (l:List NodeM),validL 10000 10000 10000 l=true→((textL l).map (·.1.size)).sum≤32 * sizeL l
 | [],_=>by simp [textL,sizeL]
 | x :: l,h=>by
  simp only [validL,Bool.and_eq_true] at h
  have h1:=text_size x h.1
  have h2:=textL_size l h.2
  simp only [textL,List.map_cons,List.sum_cons,sizeL]
  omega
end
theorem validL_mem {st inp out:Int} : ∀ {l:List NodeM},validL st inp out l=true→∀ y∈l,validM st inp out y=true
 | x :: l,h,y,hy=>by
  simp only [validL,Bool.and_eq_true] at h
  rcases List.mem_cons.1 hy with rfl | hy
  ·exact h.1
  ·exact validL_mem h.2 y hy
end Go.Ai
end
section
namespace Go.Ai
open Go.RowKit (Below)
variable {B G:Nat} {P:Program} {n n0:Nat} {ρ0 ρ:Rn} {w0 w:World} {a:Act} {ops:Array Oper} {o:Oper} {callf:CallF} {fr:Fr} {g:Nat→Option AV} {ds:List Dfr} {H:Mem} {d:Tmp} {v:AV}
def und:Dg→Nat
 | .d0=>0 | .d1=>1 | .d2=>2 | .d3=>3 | .d4=>4 | .d5=>5 | .d6=>6 | .d7=>7
 | .d8=>8 | .d9=>9 | .d10=>10 | .d11=>11 | .d12=>12 | .d13=>13 | .d14=>14 | .d15=>15
theorem und_dig:∀ n,n < 16→und (dig n)=n:=by decide
theorem dig_inj {m k:Nat} (hm:m < 16) (hk:k < 16) (h:dig m=dig k) : m=k:=by
 have:=congrArg und h
 rwa [und_dig _ hm,und_dig _ hk] at this
theorem path2 {j k:Nat} (hj:j < 256) (hk:k < 256) (h0:d0 k=d0 j) (h1:d1 k=d1 j) : k=j:=by
 have e0:k % 16=j % 16:=dig_inj (Nat.mod_lt _ (by omega)) (Nat.mod_lt _ (by omega)) h0
 have e1:k / 16 % 16=j / 16 % 16:=dig_inj (Nat.mod_lt _ (by omega)) (Nat.mod_lt _ (by omega)) h1
 omega
theorem path3 {j k:Nat} (hj:j < 4096) (hk:k < 4096) (h0:d0 k=d0 j) (h1:d1 k=d1 j) (h2:d2 k=d2 j) : k=j:=by
 have e0:k % 16=j % 16:=dig_inj (Nat.mod_lt _ (by omega)) (Nat.mod_lt _ (by omega)) h0
 have e1:k / 16 % 16=j / 16 % 16:=dig_inj (Nat.mod_lt _ (by omega)) (Nat.mod_lt _ (by omega)) h1
 have e2:k / 256 % 16=j / 256 % 16:=dig_inj (Nat.mod_lt _ (by omega)) (Nat.mod_lt _ (by omega)) h2
 omega
theorem leaf_same {α:Type} (k:Nat) (x:α) : leaf k (.v k x)=some x:=by simp [leaf]
theorem get2_ne {α:Type} (t:T2 α) {k j:Nat} (x:Lf α) (hk:k < 256) (hj:j < 256) (hne:j≠k) : get2 (u2 t k x) j=get2 t j:=by
 unfold get2 u2
 rcases Dg.em (d0 k) (d0 j) with h0 | h0
 ·rw [h0,gN_same]
  rcases Dg.em (d1 k) (d1 j) with h1 | h1
  ·exact absurd (path2 hk hj h0 h1) hne
  ·rw [gN_ne _ _ _ _ h1]
 ·rw [gN_ne _ _ _ _ h0]
theorem get3_ne {α:Type} (t:T3 α) {k j:Nat} (x:Lf α) (hk:k < 4096) (hj:j < 4096) (hne:j≠k) : get3 (u3 t k x) j=get3 t j:=by
 unfold get3 u3
 rcases Dg.em (d0 k) (d0 j) with h0 | h0
 ·rw [h0,gN_same]
  rcases Dg.em (d1 k) (d1 j) with h1 | h1
  ·rw [h1,gN_same]
   rcases Dg.em (d2 k) (d2 j) with h2 | h2
   ·exact absurd (path3 hk hj h0 h1 h2) hne
   ·rw [gN_ne _ _ _ _ h2]
  ·rw [gN_ne _ _ _ _ h1]
 ·rw [gN_ne _ _ _ _ h0]
noncomputable def roomOf (fr:Fr) : Nat:=Fr.rec (motive:=fun _=>Nat) (fun _ _=>256) (fun _ _=>4096) (fun _ _=>0) fr
theorem room_upd (fr:Fr) (d:Tmp) (v:AV) : roomOf (fr.upd d v)=roomOf fr:=by
 cases fr <;> simp [Fr.upd,Fr.set,fpS,fpG,fpF,put2_eq,put3_eq,roomOf]
theorem room_put (fr:Fr) (d:Option Tmp) (v:AV) : roomOf (fr.put d v)=roomOf fr:=by
 cases d with
 | none=>rfl
 | some d=>exact room_upd fr d v
theorem room_defer (fr:Fr) (x:Dfr) : roomOf (fr.defer x)=roomOf fr:=by cases fr <;> rfl
theorem get_upd_same (fr:Fr) (d:Tmp) (v:AV) : (fr.upd d v).get d=some v:=by
 cases fr with
 | s t ds=>simp [Fr.upd,Fr.set,fpS,put2_eq,Fr.get,fgS]; unfold get2; rw [at2_same]; exact leaf_same _ _
 | g t ds=>simp [Fr.upd,Fr.set,fpG,put3_eq,Fr.get,fgG]; unfold get3; rw [at3_same]; exact leaf_same _ _
 | f g ds=>exact if_pos rfl
theorem get_upd_ne (fr:Fr) {d k:Tmp} (v:AV) (hd:d < roomOf fr) (hk:k < roomOf fr) (h:k≠d) : (fr.upd d v).get k=fr.get k:=by
 cases fr with
 | s t ds=>simp [Fr.upd,Fr.set,fpS,put2_eq,Fr.get,fgS]; exact get2_ne _ _ hd hk h
 | g t ds=>simp [Fr.upd,Fr.set,fpG,put3_eq,Fr.get,fgG]; exact get3_ne _ _ hd hk h
 | f g ds=>exact if_neg h
structure FE (fr:Fr) (g:Nat→Option AV) (ds:List Dfr) : Prop where
 lo:∀ k,k < roomOf fr→fr.get k=g k
 up:∀ k v,fr.get k=some v→g k=some v
 dfr:fr.defers=ds
theorem FE.refl (fr:Fr) : FE fr fr.get fr.defers:=⟨fun _ _=>rfl,fun _ _ h=>h,rfl⟩
theorem FE.upd (h:FE fr g ds) (hd:d < roomOf fr) (v:AV) : FE (fr.upd d v) (fput g d v) ds:=by
 refine ⟨fun k hk=>?_,fun k y hy=>?_,(Fr.defers_upd fr d v).trans h.dfr⟩
 ·rw [room_upd] at hk
  unfold fput
  by_cases e:k=d
  ·subst e; rw [if_pos rfl]; exact get_upd_same fr k v
  ·rw [if_neg e,get_upd_ne fr v hd hk e]; exact h.lo k hk
 ·unfold fput
  rcases Fr.get_upd hy with ⟨rfl,rfl⟩ | ⟨hne,hy⟩
  ·exact if_pos rfl
  ·rw [if_neg hne]; exact h.up k y hy
def putG (g:Nat→Option AV) (d:Option Tmp) (v:AV) : Nat→Option AV:=match d with | some d=>fput g d v | none=>g
theorem put_f (g:Nat→Option AV) (ds:List Dfr) (d:Option Tmp) (v:AV) : (Fr.f g ds).put d v=.f (putG g d v) ds:=by cases d <;> rfl
theorem FE.put (h:FE fr g ds) {d:Option Tmp} (hd:∀ t,d=some t→t < roomOf fr) (v:AV) : FE (fr.put d v) (putG g d v) ds:=by
 cases d with
 | none=>exact h
 | some d=>exact h.upd (hd d rfl) v
theorem FE.defer (h:FE fr g ds) (x:Dfr) : FE (fr.defer x) g (x :: ds) :=
 ⟨fun k hk=>by rw [room_defer] at hk; rw [Fr.get_defer]; exact h.lo k hk,fun k v hv=>by rw [Fr.get_defer] at hv; exact h.up k v hv,by rw [Fr.defers_defer,h.dfr]⟩
theorem St.toF (s:St B G n n0 ρ0 w0 ρ fr H a w) : St B G n n0 ρ0 w0 ρ (.f fr.get fr.defers) H a w:=⟨s.ext,s.sim,⟨s.frel.slot,s.frel.dfr,s.frel.size,s.frel.only⟩,s.le⟩
theorem St.ofF (h:FE fr g ds) (s:St B G n n0 ρ0 w0 ρ (.f g ds) H a w) : St B G n n0 ρ0 w0 ρ fr H a w :=
 ⟨s.ext,s.sim,⟨fun t v hv hn=>s.frel.slot t v (h.up t v hv) hn,by rw [h.dfr]; exact s.frel.dfr,s.frel.size,fun t v hv=>s.frel.only t v (h.up t v hv)⟩,s.le⟩
def noSel (o:Oper) : Bool:=match o.op with | .select _ _=>false | _=>true
theorem noSel_spec (h:noSel o=true) : ∀ cs b,o.op≠.select cs b:=by
 intro cs b e; unfold noSel at h; rw [e] at h; cases h
def roomy (m:Nat) (o:Oper) : Bool:=dstOk m o && (tmpsOf o).all (fun t=>Nat.blt t m) && noSel o
theorem FE.op (h:FE fr g ds) (hr:roomy (roomOf fr) o=true) : opV P H fr.ev o=opV P H (Fr.f g ds).ev o:=by
 unfold roomy at hr
 simp only [Bool.and_eq_true] at hr
 refine opV_evs (noSel_spec hr.2) fun x hx=>?_
 cases x with
 | tmp t =>
  have:=List.all_eq_true.1 hr.1.2 t (mem_tmps hx)
  exact h.lo t (Nat.le_of_ble_eq_true this)
 | const v=>rfl
 | global g=>rfl
 | func f=>rfl
theorem roomy_dst {m:Nat} (hr:roomy m o=true) : ∀ t,o.dst=some t→t < m:=by
 intro t ht
 unfold roomy dstOk at hr
 rw [ht] at hr
 simp only [Bool.and_eq_true] at hr
 exact Nat.le_of_ble_eq_true hr.1.1
def wOf (callf:CallF) : WF:=fun f args H K=>match callf f args H with
 | .bad=>False
 | r=>K r
theorem wOf_ok (hc:∀ B,CallOK B G P callf) : WOK G P (wOf callf):=by
 intro f args H K h
 refine orW_sound (O:=callf) hc ?_
 unfold wOf at h; unfold orW
 cases hr:callf f args H <;> rw [hr] at h <;> first | exact h.elim | exact h
theorem wOf_mono:WMono (wOf callf):=by
 intro f args H K K' hk h
 unfold wOf at h ⊢
 cases hr:callf f args H <;> rw [hr] at h <;> first | exact h.elim | exact hk _ h
theorem one_W {k:Fr→Mem→Out} {kk:Fr→Mem→Prop} {Q:Out→Prop} {r:Out} (he:FE fr g ds) (hr:roomy (roomOf fr) o=true) (hall:ops.toList.all (roomy (roomOf fr))=true) (h:oneOp P callf ops o fr H k=r) (hne:r≠.bad)
  (hk:∀ fr1 g1 ds1 H1,FE fr1 g1 ds1→roomOf fr1=roomOf fr→k fr1 H1=r→kk (.f g1 ds1) H1)
  (hp:∀ v fr1 H1,FE fr1 g ds→r=.panic v fr1 H1→Q (.panic v (.f g ds) H1)) : oneW P (wOf callf) ops o (.f g ds) H kk Q:=by
 have hput:∀ (v:AV) (H1:Mem),(fr.putK o.dst v fun fr=>k fr H1)=r→kk ((Fr.f g ds).put o.dst v) H1:=by
  intro v H1 h1
  rw [Fr.putK_eq] at h1
  rw [put_f]
  exact hk _ _ _ _ (he.put (roomy_dst hr) v) (room_put fr o.dst v) h1
 have haft:after callf o fr k (opV P H fr.ev o)=r→afterW (wOf callf) o (.f g ds) kk Q (opV P H (Fr.f g ds).ev o):=by
  rw [← he.op hr]
  generalize opV P H fr.ev o=x
  intro h1
  cases x with
  | val v H1=>exact hput v H1 h1
  | skip H1=>exact hput _ H1 h1
  | enter f args H1 =>
   have h2:(match callf f args H1 with | .ret v H=>fr.putK o.dst v fun fr=>k fr H | .panic v H=>.panic v fr H | .bad=>.bad)=r:=h1
   show wOf callf f args H1 _
   unfold wOf
   cases hc:callf f args H1 with
   | ret v H2=>rw [hc] at h2; exact hput v H2 h2
   | panic v H2=>rw [hc] at h2; exact hp v fr H2 he h2.symm
   | bad=>rw [hc] at h2; exact absurd h2.symm hne
  | dfr fn cap args H1 =>
   have h2:((fr.defer (fn,cap,args)).putK o.dst (.lit undef) fun fr=>k fr H1)=r:=h1
   rw [Fr.putK_eq] at h2
   show kk ((Fr.f g ((fn,cap,args) :: ds)).put o.dst (.lit undef)) H1
   rw [put_f]
   exact hk _ _ _ _ ((he.defer _).put (by rw [room_defer]; exact roomy_dst hr) _) ((room_put _ _ _).trans (room_defer _ _)) h2
  | panic v H1=>exact hp v fr H1 he h1.symm
  | _=>exact absurd h1.symm hne
 unfold oneW
 unfold oneOp at h
 cases hg:o.guard with
 | none=>rw [hg] at h; exact haft h
 | some gd =>
  rw [hg] at h
  have h2:guarded P callf ops o fr H k gd=r:=h
  unfold guarded at h2
  have hs:guardSlot ops fr gd.1=guardSlot ops (.f g ds) gd.1:=by
   unfold guardSlot
   split
   ·rename_i p hp'
    have hm:=List.all_eq_true.1 hall p (List.mem_of_getElem? (toList_at.2 hp'))
    split
    ·rename_i d hd; exact he.lo d (roomy_dst hm d hd)
    ·rfl
   ·rfl
  show byGuard (guardSlot ops (.f g ds) gd.1) gd.2 _ _
  rw [← hs]
  have hw:∀ x,wantedG ops fr gd=some x→(x=true→(∃ b,guardSlot ops fr gd.1=some (.lit (.bool b))∧b=gd.2)) ∧
    (x=false→(∃ b,guardSlot ops fr gd.1=some (.lit (.bool b))∧b = !gd.2)∨∃ y,guardSlot ops fr gd.1=some (.lit (.tuple y))):=by
   intro x hx
   unfold wantedG yieldedA at hx
   unfold guardSlot
   generalize gd.2=want at hx ⊢
   cases hp:ops[gd.1]? with
   | none=>simp [hp] at hx
   | some p =>
    cases hd:p.dst with
    | none=>simp [hp,hd] at hx
    | some d =>
     simp only [hp,hd] at hx ⊢
     revert hx
     generalize fr.get d=z
     intro hx
     by_cases hb:∃ b,z=some (.lit (.bool b))
     ·obtain ⟨b,rfl⟩:=hb
      cases b <;> cases want <;> first
       | (obtain rfl:x=true:=(Option.some.inj hx).symm; clear hx; simp)
       | (obtain rfl:x=false:=(Option.some.inj hx).symm; clear hx; simp)
     ·split at hx
      ·rename_i b hz
       exfalso
       split at hz
       ·rename_i b'; exact hb ⟨_,rfl⟩
       ·cases hz
      ·split at hx
       ·rename_i vs
        cases hx
        exact ⟨fun e=>(by cases e),fun _=>.inr ⟨_,rfl⟩⟩
       ·cases hx
  split at h2
  ·rename_i hx
   obtain ⟨b,hb,rfl⟩:=(hw _ hx).1 rfl
   rw [hb]
   exact ⟨fun _=>haft h2,fun e=>by cases hgd:gd.2 <;> simp [hgd] at e⟩
  ·rename_i hx
   rcases (hw _ hx).2 rfl with ⟨b,hb,e⟩ | ⟨y,hy⟩
   ·rw [hb]
    subst e
    exact ⟨fun e=>by cases hgd:gd.2 <;> simp [hgd] at e,fun _=>hput _ _ h2⟩
   ·rw [hy]; exact hput _ _ h2
  ·exact absurd h2.symm hne
end Go.Ai
end
section
namespace Go.Ai
open Go.RowKit (Below)
variable {B G:Nat} {P:Program} {n n0:Nat} {ρ0 ρ:Rn} {w0 w:World} {a:Act} {ops:Array Oper} {callf:CallF} {loopf:LoopF} {fr:Fr} {g:Nat→Option AV} {ds:List Dfr} {H:Mem}
inductive FI where
 | run (o:Oper)
 | mk (i:Nat) (o:Oper)
 | gate (hs as:List Nat)
 | no
def itF (ops:Array Oper) (it:It) : FI:=match it with
 | .run i=>match ops[i]? with | some o=>.run o | none=>.no
 | .mk i=>match ops[i]? with | some o=>.mk i o | none=>.no
 | .gate hs as=>.gate hs as
def eqU (x y:AV) : Bool:=match x,y with
 | .lit (.tuple a),.lit (.tuple b)=>Nat.beq a.size 0 && Nat.beq b.size 0
 | x,y=>eqAV x y
theorem eqU_sound {x y:AV} (h:eqU x y=true) : x=y:=by
 unfold eqU at h
 split at h
 ·rename_i a b
  simp only [Bool.and_eq_true] at h
  have h1:=Nat.eq_of_beq_eq_true h.1
  have h2:=Nat.eq_of_beq_eq_true h.2
  rw [Array.eq_empty_of_size_eq_zero h1,Array.eq_empty_of_size_eq_zero h2]
 ·exact eqAV_sound _ _ h
noncomputable def againC (P:Program) (callf:CallF) (ops:Array Oper) (fr:Fr) (H:Mem) : List Nat→Bool
 | []=>true
 | i :: l=>match ops[i]? with
  | some o=>match oneOp P callf ops o fr H (fun fr' H'=>.norm fr' H') with
   | .norm fr' _=>match slotOf fr' o.dst,slotOf fr o.dst with
    | some x,some y=>match eqU x y with | true=>againC P callf ops fr H l | false=>false
    | _,_=>false
   | _=>false
  | none=>false
def elemN (i:Nat) : List Nat→Bool
 | []=>false
 | j :: l=>match Nat.beq i j with | true=>true | false=>elemN i l
theorem elemN_mem {i:Nat} : ∀ {l:List Nat},i∈l→elemN i l=true
 | j :: l,h=>by
  unfold elemN
  split
  ·rfl
  ·rename_i hb
   rcases List.mem_cons.1 h with rfl | h
   ·simp at hb
   ·exact elemN_mem h
noncomputable def keptC (H:Mem) (as:List Nat) : AlP→Bool
 | []=>true
 | (i,a,b) :: l=>match elemN i as with
  | true=>match H.get a,b with
   | some x,some y=>match eqBlk x y with | true=>keptC H as l | false=>false
   | _,_=>false
  | false=>keptC H as l
abbrev FlF:=Program→CallF→Array Oper→Fr→Mem→AlP→Out
noncomputable def flN:FlF:=fun _ _ _ fr H _=>.norm fr H
noncomputable def flRun (o:Oper) : FlF→FlF:=fun ih P callf ops fr H als=>oneOp P callf ops o fr H fun fr H=>ih P callf ops fr H als
noncomputable def flMk (i:Nat) (o:Oper) : FlF→FlF:=fun ih P callf ops fr H als=>oneOp P callf ops o fr H fun fr H'=>ih P callf ops fr H' ((i,H.next,H'.get H.next) :: als)
noncomputable def flGate (hs as:List Nat) : FlF→FlF:=fun ih P callf ops fr H als=>match againC P callf ops fr H hs,keptC H as als with
 | true,true=>ih P callf ops fr H als
 | _,_=>.bad
noncomputable def flNo:FlF→FlF:=fun _ _ _ _ _ _ _=>.bad
noncomputable def flC (it:It) (_:List It) (ih:FlF) : FlF:=fun P callf ops fr H als=>FI.rec (motive:=fun _=>FlF→FlF) flRun flMk flGate flNo (itF ops it) ih P callf ops fr H als
noncomputable def flatRun (P:Program) (callf:CallF) (ops:Array Oper) (l:List It) (fr:Fr) (H:Mem) (als:AlP) : Out:=List.rec (motive:=fun _=>FlF) flN flC l P callf ops fr H als
def OE (r out:Out) : Prop:=match r,out with
 | .norm fr H,.norm fr' H'=>H'=H∧∃ g ds,fr'=.f g ds∧FE fr g ds
 | .panic v fr H,.panic v' fr' H'=>v'=v∧H'=H∧fr'=fr.clear
 | _,_=>False
theorem clear_eq (fr:Fr) : fr.clear=.s e2 fr.defers:=by cases fr <;> rfl
theorem again_W (he:FE fr g ds) (hall:ops.toList.all (roomy (roomOf fr))=true) : ∀ {l:List Nat},againC P callf ops fr H l=true→againW P (wOf callf) ops (.f g ds) H l
 | [],_=>trivial
 | i :: l,h=>by
  unfold againC at h
  unfold againW
  split at h
  ·rename_i o ho
   have hm:=List.all_eq_true.1 hall o (List.mem_of_getElem? (toList_at.2 ho))
   split at h
   ·rename_i fr2 H2 hr
    split at h
    ·rename_i x y hx hy
     split at h
     ·rename_i hxy
      have hxy':=eqU_sound hxy
      subst hxy'
      refine ⟨?_,again_W he hall h⟩
      rw [ho]
      dsimp only
      refine one_W he hm hall hr (by simp) (fun fr1 g1 ds1 H1 he1 _ h1=>?_) (fun v fr1 H1 _ h1=>by cases h1)
      cases h1
      have key:∀ {fr:Fr} {g:Nat→Option AV} {ds:List Dfr},FE fr g ds→∀ {x},slotOf fr o.dst=some x→slotOf (.f g ds) o.dst=some x:=by
       intro fr g ds he x hx
       unfold slotOf at hx ⊢
       split at hx
       ·exact he.up _ _ hx
       ·cases hx
      rw [key he1 hx,key he hy]
     ·cases h
    ·cases h
   ·cases h
  ·cases h
theorem kept_W {as:List Nat} : ∀ {als:AlP},keptC H as als=true→keptW H as als
 | [],_=>trivial
 | (i,a,b) :: l,h=>by
  unfold keptC at h
  unfold keptW
  split at h
  ·split at h
   ·rename_i x y hx
    split at h
    ·rename_i he
     exact ⟨fun _=>hx.trans (congrArg some (eqBlk_sound he)),kept_W h⟩
    ·cases h
   ·cases h
  ·rename_i he
   exact ⟨fun hi=>(by rw [elemN_mem hi] at he; cases he),kept_W h⟩
theorem flat_W:∀ (l:List It) {fr:Fr} {g:Nat→Option AV} {ds:List Dfr} {H:Mem} {als:AlP} {r:Out},FE fr g ds→ops.toList.all (roomy (roomOf fr))=true→flatRun P callf ops l fr H als=r→r≠.bad →
  planW P (wOf callf) ops (clearQ (OE r)) l (.f g ds) H als
 | [],fr,g,ds,H,als,r,he,hall,h,hne=>by
  have h' : Out.norm fr H=r:=h
  subst h'
  exact ⟨rfl,g,ds,rfl,he⟩
 | it :: l,fr,g,ds,H,als,r,he,hall,h,hne=>by
  have h' : FI.rec (motive:=fun _=>FlF→FlF) flRun flMk flGate flNo (itF ops it) (fun P callf ops fr H als=>flatRun P callf ops l fr H als) P callf ops fr H als=r:=h
  have hp:∀ v fr1 H1,FE fr1 g ds→r=.panic v fr1 H1→clearQ (OE r) (.panic v (.f g ds) H1):=by
   rintro v fr1 H1 he1 rfl
   refine ⟨rfl,rfl,?_⟩
   rw [clear_eq,clear_eq,he1.dfr]; rfl
  cases it with
  | run i =>
   unfold planW
   cases ho:ops[i]? with
   | none =>
    rw [show itF ops (.run i)=.no by simp only [itF,ho]] at h'
    exact absurd h'.symm hne
   | some o =>
    rw [show itF ops (.run i)=.run o by simp only [itF,ho]] at h'
    dsimp only
    have hm:=List.all_eq_true.1 hall o (List.mem_of_getElem? (toList_at.2 ho))
    exact one_W he hm hall h' hne (fun fr1 g1 ds1 H1 he1 hr1 h1=>flat_W l he1 (by rw [hr1]; exact hall) h1 hne) hp
  | mk i =>
   unfold planW
   cases ho:ops[i]? with
   | none =>
    rw [show itF ops (.mk i)=.no by simp only [itF,ho]] at h'
    exact absurd h'.symm hne
   | some o =>
    rw [show itF ops (.mk i)=.mk i o by simp only [itF,ho]] at h'
    dsimp only
    have hm:=List.all_eq_true.1 hall o (List.mem_of_getElem? (toList_at.2 ho))
    exact one_W he hm hall h' hne (fun fr1 g1 ds1 H1 he1 hr1 h1=>flat_W l he1 (by rw [hr1]; exact hall) h1 hne) hp
  | gate hs as =>
   have h2:(match againC P callf ops fr H hs,keptC H as als with | true,true=>flatRun P callf ops l fr H als | _,_=>.bad)=r:=h'
   unfold planW
   split at h2
   ·rename_i h3 h4
    exact ⟨again_W he hall h3,kept_W h4,flat_W l he hall h2 hne⟩
   ·exact absurd h2.symm hne
noncomputable def clearO (r:Out) : Out:=match r with
 | .panic v fr H=>.panic v fr.clear H
 | .norm fr H=>.norm fr H
 | _=>.bad
noncomputable def drawnF (P:Program) (callf:CallF) (ops:Array Oper) (fr:Fr) (H:Mem) : Out:=match flatOk P ops.toList,ops.toList.all (roomy (roomOf fr)) with
 | true,true=>clearO (flatRun P callf ops (planOf ops.toList) fr H [])
 | _,_=>.bad
theorem drawnF_sound (hc:∀ B,CallOK B G P callf) (hG:G=P.globals.size) {id:Nat} (s:St B G n n0 ρ0 w0 ρ fr H a w) (hd:dstsOk n (.region id ops true)=true) (hne:drawnF P callf ops fr H≠.bad) :
  (Code.region id ops true).wp P (OutPost B G n n0 ρ0 w0 (drawnF P callf ops fr H)) a w:=by
 unfold drawnF at hne ⊢
 split at hne
 ·rename_i hok hall
  generalize hr:flatRun P callf ops (planOf ops.toList) fr H []=r at hne ⊢
  have hr0:r≠.bad:=fun e=>hne (by rw [e]; rfl)
  have key:=drawnW_sound (wOf_ok hc) (id:=id) hG s.toF hd (planW_drawn wOf_mono hok (flat_W _ (FE.refl fr) hall hr hr0))
  refine Code.wp_mono ?_ key
  rintro e a' w' ⟨out,hq,ho⟩
  cases r with
  | norm fr1 H1 =>
   cases out with
   | norm fr2 H2 =>
    obtain ⟨rfl,g,ds,rfl,he⟩:=hq
    cases e with
    | normal=>obtain ⟨ρ',s'⟩:=ho; exact ⟨ρ',St.ofF he s'⟩
    | _=>exact ho.elim
   | _=>exact hq.elim
  | panic v fr1 H1 =>
   cases out with
   | panic v2 fr2 H2 =>
    obtain ⟨rfl,rfl,rfl⟩:=hq
    exact ho
   | _=>exact hq.elim
  | exit=>cases out <;> exact hq.elim
  | ret=>cases out <;> exact hq.elim
  | bad=>exact absurd rfl hr0
 ·exact absurd rfl hne
/- Codes. -/
noncomputable def xRegionF (_:Nat) (ops:Array Oper) (draw:Bool) : XF:=fun P callf _ fr H=>match draw with
 | false=>seqOps P callf ops ops.toList fr H
 | true=>drawnF P callf ops fr H
noncomputable def execCF:Code→XF:=Code.rec (motive:=fun _=>XF) xSkip xRegionF xSeq xCond xBlock xLoop xRangeFunc xExit xScope xLabel xGoto xRet xRefuse
noncomputable def execF (P:Program) (callf:CallF) (loopf:LoopF) (c:Code) (fr:Fr) (H:Mem) : Out:=execCF c P callf loopf fr H
def GoodF (B G:Nat) (P:Program) (callf:CallF) (loopf:LoopF) (c:Code) : Prop :=
 ∀ (n n0:Nat) (ρ0:Rn) (w0:World) (ρ:Rn) (fr:Fr) (H:Mem) (a:Act) (w:World),dstsOk n c=true→St B G n n0 ρ0 w0 ρ fr H a w→execF P callf loopf c fr H≠.bad →
  c.wp P (OutPost B G n n0 ρ0 w0 (execF P callf loopf c fr H)) a w
theorem good_loopF {callf:CallF} {loopf:LoopF} {b:Code} (hl:LoopOK B G P loopf) (hb:GoodF B G P callf loopf b) (n n0:Nat) (ρ0:Rn) (w0:World) (ρ:Rn) (fr:Fr) (H:Mem) (a:Act) (w:World)
  (hd:dstsOk n b=true) (s:St B G n n0 ρ0 w0 ρ fr H a w) (hne:execF P callf loopf (.loop b) fr H≠.bad) : LW P b (OutPost B G n n0 ρ0 w0 (execF P callf loopf (.loop b) fr H)) a w:=by
 have he:execF P callf loopf (.loop b) fr H=thenO (execF P callf loopf b fr H) (loopf (.loop b)):=rfl
 rw [he] at hne ⊢
 have hr:execF P callf loopf b fr H≠.bad:=fun h=>hne (by rw [h]; rfl)
 refine LW.unroll (Code.wp_mono (thenO_post hne fun fr' H' ρ' a' w' hr' s' hk=>?_) (hb n n0 ρ0 w0 ρ fr H a w hd s hr))
 rw [hr']
 exact hl b n n0 ρ0 w0 ρ' fr' H' a' w' hd s' hk
theorem execF_sound {callf:CallF} {loopf:LoopF} (hcs:∀ B,CallOK B G P callf) (hl:LoopOK B G P loopf) (hG:G=P.globals.size) : ∀ c:Code,GoodF B G P callf loopf c:=by
 intro c
 have hc:=hcs B
 induction c with
 | skip=>intro n n0 ρ0 w0 ρ fr H a w hd s hne; exact wp_skip ⟨ρ,s⟩
 | region id ops draw =>
  intro n n0 ρ0 w0 ρ fr H a w hd s hne
  cases draw with
  | false =>
   refine wp_region_list (seqOps_sound hc hG hne ops.toList fr H ρ a w ?_ s rfl)
   exact fun o ho=>List.all_eq_true.1 hd o ho
  | true=>exact drawnF_sound hcs hG s hd hne
 | seq x y ihx ihy =>
  intro n n0 ρ0 w0 ρ fr H a w hd s hne
  have he:execF P callf loopf (.seq x y) fr H=thenO (execF P callf loopf x fr H) (execF P callf loopf y):=rfl
  rw [he] at hne ⊢
  simp only [dstsOk,Bool.and_eq_true] at hd
  have hr:execF P callf loopf x fr H≠.bad:=fun h=>hne (by rw [h]; rfl)
  refine wp_seq (Code.wp_mono (thenO_post hne fun fr' H' ρ' a' w' hr' s' hk=>?_) (ihx n n0 ρ0 w0 ρ fr H a w hd.1 s hr))
  rw [hr']
  exact ihy n n0 ρ0 w0 ρ' fr' H' a' w' hd.2 s' hk
 | cond cnd x y ihx ihy =>
  intro n n0 ρ0 w0 ρ fr H a w hd s hne
  have he:execF P callf loopf (.cond cnd x y) fr H=condO (fr.ev cnd) (execF P callf loopf x) (execF P callf loopf y) fr H:=rfl
  rw [he] at hne ⊢
  simp only [dstsOk,Bool.and_eq_true] at hd
  unfold condO at hne ⊢
  split at hne
  ·rename_i hev
   have:=s.ev _ _ hev
   exact wp_cond_true this (ihx n n0 ρ0 w0 ρ fr H a w hd.1 s hne)
  ·rename_i hev
   have:=s.ev _ _ hev
   exact wp_cond_false this (ihy n n0 ρ0 w0 ρ fr H a w hd.2 s hne)
  ·exact absurd rfl hne
 | block id b ih =>
  intro n n0 ρ0 w0 ρ fr H a w hd s hne
  have he:execF P callf loopf (.block id b) fr H=blockO id (execF P callf loopf b fr H):=rfl
  rw [he] at hne ⊢
  have hr:execF P callf loopf b fr H≠.bad:=fun h=>hne (by rw [h]; rfl)
  refine wp_block (Code.wp_mono ?_ (ih n n0 ρ0 w0 ρ fr H a w hd s hr))
  intro e a' w' h
  generalize execF P callf loopf b fr H=r at h hne ⊢
  cases r with
  | norm fr' H'=>cases e <;> first | exact h.elim | exact h
  | exit id' fr' H' =>
   cases e with
   | exit id2 =>
    obtain ⟨rfl,ρ',s'⟩:=h
    unfold blockO
    dsimp only
    split
    ·rename_i hb
     have:=Nat.eq_of_beq_eq_true hb
     subst this
     simp only [Exit.inBlock,if_true]
     exact ⟨ρ',s'⟩
    ·rename_i hb
     have hne2:id2≠id:=by intro h0; subst h0; simp at hb
     simp only [Exit.inBlock,hne2,if_false]
     exact ⟨rfl,ρ',s'⟩
   | _=>exact h.elim
  | ret fr' H'=>cases e <;> first | exact h.elim | exact h
  | panic v fr' H'=>cases e <;> first | exact h.elim | exact h
  | bad=>exact absurd rfl hne
 | loop b ih =>
  intro n n0 ρ0 w0 ρ fr H a w hd s hne
  exact (good_loopF hl ih n n0 ρ0 w0 ρ fr H a w hd s hne).wp
 | rangeFunc f ps x y ihx ihy=>intro n n0 ρ0 w0 ρ fr H a w hd s hne; exact absurd rfl hne
 | exit id=>intro n n0 ρ0 w0 ρ fr H a w hd s hne; exact wp_exit ⟨rfl,ρ,s⟩
 | scope b ih=>intro n n0 ρ0 w0 ρ fr H a w hd s hne; exact absurd rfl hne
 | label l=>intro n n0 ρ0 w0 ρ fr H a w hd s hne; exact wp_label ⟨ρ,s⟩
 | goto l=>intro n n0 ρ0 w0 ρ fr H a w hd s hne; exact absurd rfl hne
 | ret=>intro n n0 ρ0 w0 ρ fr H a w hd s hne; exact wp_ret ⟨ρ,s⟩
 | refuse why=>intro n n0 ρ0 w0 ρ fr H a w hd s hne; exact absurd rfl hne
noncomputable def enterQB (P:Program) (callf:CallF) (loopf:LoopF) (fn:Func) (c:Code) (args:List AV) (H:Mem) : COut :=
 match dstsOk fn.ntmps c,Nat.ble (len args) fn.ntmps with
 | true,true=>finish P callf loopf fn (putArgsK args (frame0 fn.ntmps) fun fr=>execF P callf loopf c fr H)
 | _,_=>.bad
noncomputable def enterQ (P:Program) (callf:CallF) (loopf:LoopF) (f:FuncId) (args:List AV) (H:Mem) : COut :=
 match P.funcs[f]? with
 | some fn=>match fn.body with
  | some c=>enterQB P callf loopf fn c args H
  | none=>.bad
 | none=>.bad
theorem enterQ_sound {callf:CallF} {loopf:LoopF} (hcs:∀ B,CallOK B G P callf) (hl:LoopOK B G P loopf) (hG:G=P.globals.size) : CallOK B G P (enterQ P callf loopf):=by
 have hc:=hcs B
 intro f args H hne ρ us w hs hv
 unfold enterQ at hne ⊢
 split at hne
 ·rename_i fn hfn
  split at hne
  ·rename_i c hb
   unfold enterQB at hne ⊢
   split at hne
   ·rename_i hdst hlen
    rw [putArgsK_eq] at hne ⊢
    have hfe:=frame_entered (n:=fn.ntmps) hv (by rw [← len_eq]; exact Nat.le_of_ble_eq_true hlen)
    have s1:St B G fn.ntmps H.next ρ w ρ (putArgs args (frame0 fn.ntmps) 0) H { tmps:=us++Array.replicate (fn.ntmps - us.size) undef,defers:=[] } w:=⟨Ext.refl _ _ _ _,hs,hfe,Nat.le_refl _⟩
    have hr:execF P callf loopf c (putArgs args (frame0 fn.ntmps) 0) H≠.bad:=fun h0=>hne (by rw [h0]; rfl)
    have key:=execF_sound hcs hl hG c fn.ntmps H.next ρ w ρ _ H _ w hdst s1 hr
    refine calls_of_wp_defers hfn hb (Code.wp_mono ?_ key)
    intro e a' w' h
    generalize execF P callf loopf c (putArgs args (frame0 fn.ntmps) 0) H=r at h hne ⊢
    cases r with
    | norm fr' H' =>
     cases e with
     | normal=>obtain ⟨ρ',s'⟩:=h; exact leave_sound hc hl hG hne _ _ .returning H' ρ' .returning w' s'.frel.dfr s' rfl rfl
     | _=>exact h.elim
    | ret fr' H' =>
     cases e with
     | ret=>obtain ⟨ρ',s'⟩:=h; exact leave_sound hc hl hG hne _ _ .returning H' ρ' .returning w' s'.frel.dfr s' rfl rfl
     | _=>exact h.elim
    | panic v fr' H' =>
     cases e with
     | panic chain=>obtain ⟨ρ',x,rfl,hx,s'⟩:=h; exact leave_sound hc hl hG hne _ _ (.panicking v) H' ρ' _ w' s'.frel.dfr s' ⟨x,rfl,hx⟩ rfl
     | _=>exact h.elim
    | exit id fr' H'=>exact absurd rfl hne
    | bad=>exact absurd rfl hne
   ·exact absurd rfl hne
  ·exact absurd rfl hne
 ·exact absurd rfl hne
noncomputable def bothF (P:Program) (O:CallF) (n:Nat) : CallF×LoopF :=
 Nat.rec (motive:=fun _=>CallF×LoopF) (fun _ _ _=>.bad,fun _ _ _=>.bad) (fun _ ih=>(orC O (enterQ P ih.1 ih.2),execF P ih.1 ih.2)) n
noncomputable def callF (P:Program) (O:CallF) (n:Nat) : CallF:=(bothF P O n).1
theorem bothF_sound {O:CallF} (hO:∀ B,CallOK B G P O) (hG:G=P.globals.size) : ∀ n,(∀ B,CallOK B G P (bothF P O n).1)∧∀ B,LoopOK B G P (bothF P O n).2
 | 0=>⟨fun B f args H hne=>absurd rfl hne,fun B b n n0 ρ0 w0 ρ fr H a w hd s hne=>absurd rfl hne⟩
 | m+1=>by
  obtain ⟨hc,hl⟩:=bothF_sound hO hG m
  refine ⟨fun B=>orC_ok (hO B) (enterQ_sound hc (hl B) hG),fun B b n n0 ρ0 w0 ρ fr H a w hd s hne=>?_⟩
  exact good_loopF (hl B) (execF_sound hc (hl B) hG b) n n0 ρ0 w0 ρ fr H a w hd s hne
theorem callF_ok {O:CallF} (hO:∀ B,CallOK B G P O) (hG:G=P.globals.size) (fuel:Nat) : ∀ B,CallOK B G P (callF P O fuel):=(bothF_sound hO hG fuel).1
end Go.Ai
end
section
namespace Go.Ai
set_option maxRecDepth 10000
def noneS:SetS:=fun _=>false
mutual
def semN (M:MachM) : NodeM→SetS→Prop
 | .mk op a b subs,X=>∃ A B,semL M subs A B∧opSem M op a b A B X
def semL (M:MachM) : List NodeM→SetS→SetS→Prop
 | [],A,B=>eqS M.gr.n A noneS∧eqS M.gr.n B noneS
 | x :: l,A,B=>semN M x A∧semL1 M l B
def semL1 (M:MachM) : List NodeM→SetS→Prop
 | [],B=>eqS M.gr.n B noneS
 | y :: _,B=>semN M y B
end
mutual
theorem semN_uniq {M:MachM} (hM:M.ok) : ∀ (x:NodeM) {X Y:SetS},semN M x X→semN M x Y→eqS M.gr.n X Y
 | .mk op a b subs,X,Y,⟨A,B,h1,h2⟩,⟨A',B',h3,h4⟩=>by
  obtain ⟨hA,hB⟩:=semL_uniq hM subs h1 h3
  exact opSem_uniq hM h2 h4 hA hB
theorem semL_uniq {M:MachM} (hM:M.ok) : ∀ (l:List NodeM) {A B A' B' : SetS},semL M l A B→semL M l A' B'→eqS M.gr.n A A'∧eqS M.gr.n B B'
 | [],_,_,_,_,h,h'=>⟨h.1.trans h'.1.symm,h.2.trans h'.2.symm⟩
 | x :: l,_,_,_,_,h,h'=>⟨semN_uniq hM x h.1 h'.1,semL1_uniq hM l h.2 h'.2⟩
theorem semL1_uniq {M:MachM} (hM:M.ok) : ∀ (l:List NodeM) {B B' : SetS},semL1 M l B→semL1 M l B'→eqS M.gr.n B B'
 | [],_,_,h,h'=>h.trans h'.symm
 | y :: _,_,_,h,h'=>semN_uniq hM y h h'
end
theorem ok_row {M:MachM} (h:M.ok) : ∀ r∈M.rows,(r.length:Int)=M.inp:=fun r hr=>(h.2.2.2.2.2.2 r hr).1
theorem ok_edge {M:MachM} (h:M.ok) {s i:Nat} (hs:s < M.gr.n) (hi:(i:Int) < M.inp) : M.edge s i=(-1,-1)∨(0≤(M.edge s i).1∧(M.edge s i).1 < M.gr.n∧0≤(M.edge s i).2∧(M.edge s i).2 < M.out):=by
 have hs' : s < M.rows.length:=hs
 have h1:=h.2.2.2.2.2.2 _ (List.getElem_mem hs')
 have hi' : i < M.rows[s].length:=by omega
 have h2:=h1.2 _ (List.getElem_mem hi')
 rw [edge_at (List.getElem?_eq_getElem hs') (List.getElem?_eq_getElem hi')]
 unfold edgeOK at h2
 simp only [Bool.or_eq_true,Bool.and_eq_true,decide_eq_true_eq] at h2
 exact h2
theorem ok_edge1 {M:MachM} (h:M.ok) (s i:Nat) (hs:s < M.gr.n) (hi:(i:Int) < M.inp) : -1≤(M.edge s i).1:=by
 rcases ok_edge h hs hi with h1 | h1
 ·rw [h1]; decide
 ·omega
end Go.Ai
end
section
namespace Go.Ai
section
variable {P:Program} {H:Mem} {ev:Ev} {d:Option Tmp} {ty:TypeId} {p:String} {af:Array Edge} {g:Option (Nat×Bool)}
noncomputable def mkI (P:Program) (t:TypeId) : Option AV:=match elemOfSlice P t with
 | some (e,size,bytes)=>if size=1∧bytes≤1048576 then (match zeroL P e with | some [v]=>some v | _=>none) else none
 | none=>none
noncomputable def mksS (P:Program) (H:Mem) (t:TypeId) (q:Option AV) (x y:Option AV) : R:=match q,x,y with
 | some v,some (.lit (.int .i64 a)),some (.lit (.int .i64 b))=>if a=b∧0≤a∧a≤1048576 then .val (.sl H.next 0 a.toNat a.toNat) (H.add (.cells (List.replicate a.toNat v) true 0)) else oMakeSlice P H t x y
 | _,_,_=>oMakeSlice P H t x y
theorem rep_one (v:AV) : ∀ n,rep [v] n=List.replicate n v
 | 0=>rfl
 | n+1=>by rw [rep_succ,rep_one v n]; rfl
theorem mkI_inv {t:TypeId} {v:AV} (h:mkI P t=some v) : ∃ e bytes,elemOfSlice P t=some (e,1,bytes)∧bytes≤1048576∧zeroL P e=some [v]:=by
 unfold mkI at h
 split at h
 ·rename_i e size bytes he
  split at h
  ·rename_i hc
   obtain ⟨rfl,hb⟩:=hc
   split at h
   ·rename_i u hz; cases h; exact ⟨e,bytes,he,hb,hz⟩
   ·cases h
  ·cases h
 ·cases h
theorem op_mks {t:TypeId} {l c:Operand} : opV P H ev ⟨d,.makeSlice t l c,ty,p,af,g⟩=mksS P H t (mkI P t) (ev l) (ev c):=by
 show oMakeSlice P H t (ev l) (ev c)=_
 unfold mksS
 split
 ·rename_i v a b hq hx hy
  split
  ·rename_i h
   obtain ⟨rfl,h0,h1⟩:=h
   obtain ⟨e,bytes,h2,h3,h4⟩:=mkI_inv hq
   rw [hx,hy]
   unfold oMakeSlice
   rw [h2]
   simp only [Option.bind_some,natOf_int h0]
   have hc:(Nat.ble a.toNat a.toNat && Nat.ble a.toNat 1048576 && Nat.ble bytes 1048576)=true:=by
    rw [Nat.ble_eq_true_of_le (Nat.le_refl _),Nat.ble_eq_true_of_le (show a.toNat≤1048576 by omega),Nat.ble_eq_true_of_le h3]; rfl
   rw [hc]
   by_cases hz:a.toNat=0
   ·have e1:zeroFor P e (a.toNat * 1)=some []:=by unfold zeroFor; rw [hz]; try rfl
    rw [e1]
    dsimp only
    rw [hz]
    show newBlk H [] true _=_
    simp [newBlk,Mem.newK_eq]
   ·have e1:zeroFor P e (a.toNat * 1)=some [v]:=by
     unfold zeroFor
     have:Nat.beq (a.toNat * 1) 0=false:=by
      cases hb:Nat.beq (a.toNat * 1) 0 with
      | false=>rfl
      | true=>have:=Nat.eq_of_beq_eq_true hb; omega
     rw [this]; exact h4
    rw [e1]
    dsimp only
    rw [rep_one]
    simp [newBlk,Mem.newK_eq]
  ·rw [hx,hy]
 ·rfl
theorem mksS_congr {tk:Nat} (_h0:tick=tk) {t:TypeId} {q q' : Option AV} {x x' y y' : Option AV} {H H' : Mem} (h0:q=q') (h1:H=H') (h2:x=x') (h3:y=y') : mksS P H t q x y=mksS P H' t q' x' y':=by rw [h0,h1,h2,h3]
attribute [congr] mksS_congr
theorem mksS_ok {t:TypeId} {v:AV} {a:Int} (h0:0≤a) (h1:a≤1048576) : mksS P H t (some v) (some (.lit (.int .i64 a))) (some (.lit (.int .i64 a)))=.val (.sl H.next 0 a.toNat a.toNat) (H.add (.cells (List.replicate a.toNat v) true 0)):=if_pos ⟨rfl,h0,h1⟩
attribute [simp] op_mks mksS_ok
end
section
variable {H:Mem}
theorem stS_int {l:List AV} {z:Nat} {ag:Bool} {a off:Nat} {k:IntKind} {v:Int} (h:off < l.length) :
  stS (some (ag,1)) (some (.cells l true z)) H a off [.lit (.int k v)]=.skip (H.upd a (.cells (l.set off (.lit (.int k v))) true z)):=by
 refine (stS_cells (size:=1) rfl rfl h).trans ?_
 have e:putL l off [.lit (.int k v)]=l.set off (.lit (.int k v)):=by
  unfold putL
  rw [List.set_eq_take_append_cons_drop,if_pos h]
  simp
 rw [e]
attribute [simp] stS_int
end
theorem put_set {α:Type} {l:List α} {k:Nat} {v:α} (h:k < l.length) : l.take k++v :: l.drop (k+1)=l.set k v:=by
 rw [List.set_eq_take_append_cons_drop,if_pos h]
end Go.Ai
end
section
namespace Go.Ai
set_option maxRecDepth 10000
def rowN (r:List (Int×Int)) : Nat→Nat
 | 0=>0
 | k+1=>if (r.getD k (-1,-1)).1 = -1 then rowN r k else orN (rowN r k) (bitN (r.getD k (-1,-1)).1.toNat)
theorem rowN_lt {r:List (Int×Int)} (h:∀ e∈r,e.1 = -1∨(0≤e.1∧e.1≤63)) : ∀ k,k≤r.length→rowN r k < 18446744073709551616
 | 0,_=>by unfold rowN; omega
 | k+1,hk=>by
  have ih:=rowN_lt h k (by omega)
  unfold rowN
  split
  ·exact ih
  ·rename_i hn
   refine orN_lt ih (bitN_lt ?_)
   rw [List.getD_eq_getElem?_getD,List.getElem?_eq_getElem (by omega)] at hn ⊢
   have:=h _ (List.getElem_mem (show k < r.length by omega))
   simp only [Option.getD_some] at hn ⊢
   omega
theorem rowN_bit {r:List (Int×Int)} (h:∀ e∈r,e.1 = -1∨(0≤e.1∧e.1≤63)) (u:Nat) : ∀ k,k≤r.length→((rowN r k).testBit u=true↔∃ e∈r.take k,0≤e.1∧e.1.toNat=u)
 | 0,_=>by unfold rowN; simp
 | k+1,hk=>by
  have ih:=rowN_bit h u k (by omega)
  have hk' : k < r.length:=by omega
  have h1:=h _ (List.getElem_mem hk')
  have hg:r.getD k (-1,-1)=r[k]:=by rw [List.getD_eq_getElem?_getD,List.getElem?_eq_getElem hk']; rfl
  have ht:r.take (k+1)=r.take k++[r[k]]:=by rw [List.take_succ,List.getElem?_eq_getElem hk']; rfl
  unfold rowN
  rw [hg,ht]
  simp only [List.mem_append,List.mem_singleton]
  split
  ·rename_i hn
   rw [ih]
   constructor
   ·rintro ⟨e,h2,h3⟩; exact ⟨e,.inl h2,h3⟩
   ·rintro ⟨e,h2 | rfl,h3⟩
    ·exact ⟨e,h2,h3⟩
    ·omega
  ·rename_i hn
   rw [orN_bit,Bool.or_eq_true,ih,bitN_bit,decide_eq_true_eq]
   constructor
   ·rintro (⟨e,h2,h3⟩ | h2)
    ·exact ⟨e,.inl h2,h3⟩
    ·exact ⟨_,.inr rfl,by omega,h2⟩
   ·rintro ⟨e,h2 | rfl,h3⟩
    ·exact .inl ⟨e,h2,h3⟩
    ·exact .inr h3.2
theorem succL_iff {l:List (Int×Int)} {t:Nat} : t∈succL l↔∃ e∈l,0≤e.1∧e.1.toNat=t:=by
 constructor
 ·exact succL_mem
 ·induction l with
  | nil=>rintro ⟨e,h,_⟩; cases h
  | cons x l ih =>
   rintro ⟨e,h,h1,h2⟩
   unfold succL
   rcases List.mem_cons.1 h with rfl | h
   ·rw [if_neg (by omega),h2]; exact List.mem_cons_self ..
   ·split
    ·exact ih ⟨e,h,h1,h2⟩
    ·exact List.mem_cons_of_mem _ (ih ⟨e,h,h1,h2⟩)
def nxK (M:MachM) (k j:Nat) : List Nat:=(List.range M.rows.length).map fun s=>if s < k then rowN (M.rows.getD s []) (M.rows.getD s []).length else if s=k then rowN (M.rows.getD s []) j else 0
theorem nxK_len (M:MachM) (k j:Nat) : (nxK M k j).length=M.rows.length:=by unfold nxK; rw [List.length_map,List.length_range]
theorem nxK_at (M:MachM) (k j s:Nat) (h:s < M.rows.length) : (nxK M k j).getD s 0=if s < k then rowN (M.rows.getD s []) (M.rows.getD s []).length else if s=k then rowN (M.rows.getD s []) j else 0:=by
 unfold nxK
 rw [List.getD_eq_getElem?_getD,List.getElem?_map,List.getElem?_range h]
 rfl
theorem nxK_zero (M:MachM) : nxK M 0 0=List.replicate M.rows.length 0:=by
 apply List.ext_getElem
 ·rw [nxK_len,List.length_replicate]
 ·intro i h1 h2
  rw [List.getElem_replicate]
  have h3:=nxK_at M 0 0 i (by rw [nxK_len] at h1; exact h1)
  rw [List.getD_eq_getElem?_getD,List.getElem?_eq_getElem h1] at h3
  have h4:(nxK M 0 0)[i]=if i < 0 then rowN (M.rows.getD i []) (M.rows.getD i []).length else if i=0 then rowN (M.rows.getD i []) 0 else 0:=h3
  rw [h4,if_neg (by omega)]
  split <;> rfl
theorem nxK_next (M:MachM) (k:Nat) : nxK M k (M.rows.getD k []).length=nxK M (k+1) 0:=by
 unfold nxK
 refine List.map_congr_left fun s hs=>?_
 by_cases h1:s < k
 ·rw [if_pos h1,if_pos (by omega)]
 ·rw [if_neg h1]
  by_cases h2:s=k
  ·rw [if_pos h2,if_pos (by omega),h2]
  ·rw [if_neg h2,if_neg (by omega)]
   split <;> rfl
theorem nxK_set (M:MachM) (k j v:Nat) (hk:k < M.rows.length) (hv:rowN (M.rows.getD k []) (j+1)=v) : (u64C (nxK M k j)).set k (.lit (.int .u64 (v:Int)))=u64C (nxK M k (j+1)):=by
 apply List.ext_getElem
 ·rw [List.length_set,u64C_len,u64C_len,nxK_len,nxK_len]
 ·intro i h1 h2
  rw [List.getElem_set]
  rw [List.length_set,u64C_len,nxK_len] at h1
  rw [u64C_at,u64C_at,nxK_at M k (j+1) i h1,nxK_at M k j i h1]
  split
  ·rename_i e; subst e
   rw [if_neg (by omega),if_pos rfl,hv]
  ·rename_i e
   by_cases h3:i < k
   ·rw [if_pos h3,if_pos h3]
   ·rw [if_neg h3,if_neg h3,if_neg (by omega),if_neg (by omega)]
def allK:Nat→Nat
 | 0=>0
 | k+1=>orN (allK k) (bitN k)
theorem allK_lt:∀ k,k≤64→allK k < 18446744073709551616
 | 0,_=>by unfold allK; omega
 | k+1,h=>by unfold allK; exact orN_lt (allK_lt k (by omega)) (bitN_lt (by omega))
theorem allK_bit (s:Nat) : ∀ k,(allK k).testBit s=decide (s < k)
 | 0=>by unfold allK; simp
 | k+1=>by
  unfold allK
  rw [orN_bit,allK_bit s k,bitN_bit,← Bool.decide_or,decide_eq_decide]
  omega
theorem ok_row_edge {M:MachM} (h:M.ok) {r:List (Int×Int)} (hr:r∈M.rows) : ∀ e∈r,e.1 = -1∨(0≤e.1∧e.1≤63):=fun e he=>by
 have h2:=(h.2.2.2.2.2.2 r hr).2 e he
 have h64:=h.2.2.2.2.2.1
 unfold edgeOK at h2
 simp only [Bool.or_eq_true,Bool.and_eq_true,decide_eq_true_eq] at h2
 rcases h2 with h2 | h2
 ·left; rw [h2]
 ·right; omega
theorem grN_of {M:MachM} (h:M.ok) : GrN M.gr (nxK M M.rows.length 0) (allK M.rows.length):=by
 have h64:M.rows.length≤64:=h.2.2.2.2.2.1
 refine ⟨M.gr_ok h,nxK_len ..,h64,fun x hx=>?_,fun s hs u=>?_,fun s=>allK_bit s _,allK_lt _ h64⟩
 ·unfold nxK at hx
  obtain ⟨s,hs,rfl⟩:=List.mem_map.1 hx
  have hs':=List.mem_range.1 hs
  rw [if_pos hs']
  have hg:M.rows.getD s []=M.rows[s]:=by rw [List.getD_eq_getElem?_getD,List.getElem?_eq_getElem hs']; rfl
  rw [hg]
  exact rowN_lt (ok_row_edge h (List.getElem_mem hs')) _ (Nat.le_refl _)
 ·have hs' : s < M.rows.length:=hs
  rw [nxK_at _ _ _ _ hs',if_pos hs']
  have hg:M.rows.getD s []=M.rows[s]:=by rw [List.getD_eq_getElem?_getD,List.getElem?_eq_getElem hs']; rfl
  have hG:M.gr.succ s=succL M.rows[s]:=by show succL (M.rows.getD s [])=_; rw [hg]
  rw [hg,hG,rowN_bit (ok_row_edge h (List.getElem_mem hs')) u _ (Nat.le_refl _),List.take_length,succL_iff]
end Go.Ai
end
section
namespace Go.Ai
set_option maxRecDepth 10000
def okE (r:List (Int×Int)) (i:Nat) : Bool:=decide (0≤(r.getD i (-1,-1)).1)
def manyN (r:List (Int×Int)) : Nat→Nat
 | 0=>0
 | k+1=>if okE r k=true then manyN r k+1 else manyN r k
def someN (r:List (Int×Int)) (X:SetS) : Nat→Nat
 | 0=>0
 | k+1=>if okE r k=true then someN r X k+(if X (r.getD k (-1,-1)).1.toNat=true then 1 else 0) else someN r X k
theorem many_le (r:List (Int×Int)) : ∀ k,manyN r k≤k
 | 0=>Nat.le_refl _
 | k+1=>by have:=many_le r k; unfold manyN; split <;> omega
theorem some_le (r:List (Int×Int)) (X:SetS) : ∀ k,someN r X k≤manyN r k
 | 0=>Nat.le_refl _
 | k+1=>by
  have:=some_le r X k
  unfold manyN someN
  split
  ·split <;> omega
  ·exact this
theorem succL_snoc:∀ (l:List (Int×Int)) (e:Int×Int),succL (l++[e])=if e.1 < 0 then succL l else succL l++[e.1.toNat]
 | [],e=>by show succL [e]=_; unfold succL; split <;> simp [succL]
 | x :: l,e=>by
  have ih:=succL_snoc l e
  show succL (x :: (l++[e]))=_
  rw [succL,ih]
  split
  ·rename_i h
   split
   ·rw [succL,if_pos h]
   ·rw [succL,if_pos h]
  ·rename_i h
   split
   ·rw [succL,if_neg h]
   ·rw [succL,if_neg h]; rfl
theorem counts {r:List (Int×Int)} (X:SetS) : ∀ k,k≤r.length→manyN r k=(succL (r.take k)).length∧someN r X k=((succL (r.take k)).filter X).length
 | 0,_=>⟨rfl,rfl⟩
 | k+1,h=>by
  have hk:k < r.length:=by omega
  obtain ⟨h1,h2⟩:=counts X k (by omega:k≤r.length)
  have ht:r.take (k+1)=r.take k++[r[k]]:=by rw [List.take_succ,List.getElem?_eq_getElem hk]; rfl
  have hg:r.getD k (-1,-1)=r[k]:=by rw [List.getD_eq_getElem?_getD,List.getElem?_eq_getElem hk]; rfl
  unfold manyN someN okE
  rw [ht,succL_snoc,hg,h1,h2]
  by_cases h0:0≤r[k].1
  ·rw [decide_eq_true h0,if_neg (show ¬r[k].1 < 0 by omega),List.filter_append,List.length_append,List.length_append]
   refine ⟨rfl,?_⟩
   rw [if_pos rfl]
   by_cases hx:X r[k].1.toNat=true
   ·rw [if_pos hx,List.filter_cons_of_pos hx]; rfl
   ·rw [if_neg hx,List.filter_cons_of_neg hx]; rfl
  ·rw [decide_eq_false h0,if_pos (show r[k].1 < 0 by omega)]
   exact ⟨rfl,rfl⟩
theorem filter_len {l:List Nat} {X:SetS} : (0 < (l.filter X).length↔l.any X=true)∧((l.filter X).length=l.length↔l.all X=true):=by
 induction l with
 | nil=>simp
 | cons x l ih =>
  have hle:=List.length_filter_le X l
  by_cases hx:X x=true
  ·rw [List.filter_cons_of_pos hx]
   simp only [List.length_cons,List.any_cons,List.all_cons,hx,Bool.true_or,Bool.true_and]
   refine ⟨by simp,?_⟩
   rw [← ih.2]; omega
  ·rw [List.filter_cons_of_neg hx]
   have hx' : X x=false:=by simpa using hx
   simp only [List.length_cons,List.any_cons,List.all_cons,hx',Bool.false_or,Bool.false_and]
   refine ⟨ih.1,?_⟩
   constructor
   ·intro h; omega
   ·intro h; cases h
theorem counts_mean (M:MachM) (X:SetS) (s k:Nat) (hr:(M.rows.getD s []).length=k) : (decide (0 < someN (M.rows.getD s []) X k)=M.gr.pre X s)∧(decide (someN (M.rows.getD s []) X k=manyN (M.rows.getD s []) k)=M.gr.post X s)∧(decide (manyN (M.rows.getD s []) k=0)=M.gr.ends s):=by
 obtain ⟨h1,h2⟩:=counts (r:=M.rows.getD s []) X k (by omega)
 rw [← hr,List.take_length] at h1 h2
 rw [← hr,h1,h2]
 have h3:=filter_len (l:=succL (M.rows.getD s [])) (X:=X)
 refine ⟨?_,?_,?_⟩
 ·show _=(succL (M.rows.getD s [])).any X
  rw [Bool.eq_iff_iff,decide_eq_true_eq]; exact h3.1
 ·show _=(succL (M.rows.getD s [])).all X
  rw [Bool.eq_iff_iff,decide_eq_true_eq]; exact h3.2
 ·show _=(succL (M.rows.getD s [])).isEmpty
  rw [Bool.eq_iff_iff,decide_eq_true_eq,List.isEmpty_iff,List.length_eq_zero_iff]
def b01 (b:Bool) : Int:=if b=true then 1 else 0
def intC (N:Nat) (X:SetS) : List AV:=(List.range N).map fun s=>.lit (.int .i64 (b01 (X s)))
theorem intC_len (N:Nat) (X:SetS) : (intC N X).length=N:=by unfold intC; rw [List.length_map,List.length_range]
theorem intC_at (N:Nat) (X:SetS) (i:Nat) : (intC N X)[i]?=if i < N then some (.lit (.int .i64 (b01 (X i)))) else none:=by
 unfold intC
 rw [List.getElem?_map]
 split
 ·rename_i h; rw [List.getElem?_range h]; rfl
 ·rename_i h; rw [List.getElem?_eq_none (by rw [List.length_range]; omega)]; rfl
def upS (X:SetS) (k:Nat) : SetS:=fun s=>decide (s < k) && X s
theorem intC_zero (N:Nat) (X:SetS) : intC N (upS X 0)=List.replicate N (.lit (.int .i64 0)):=by
 apply List.ext_getElem?
 intro i
 rw [intC_at,List.getElem?_replicate]
 rfl
theorem intC_none (N:Nat) : intC N noneS=List.replicate N (.lit (.int .i64 0)):=by
 apply List.ext_getElem?
 intro i
 rw [intC_at,List.getElem?_replicate]
 rfl
theorem intC_set (N:Nat) (X:SetS) (k:Nat) (hk:k < N) : (intC N (upS X k)).set k (.lit (.int .i64 (b01 (X k))))=intC N (upS X (k+1)):=by
 apply List.ext_getElem?
 intro i
 rw [List.getElem?_set,intC_at,intC_at,intC_len]
 unfold upS
 split
 ·rename_i e; subst e
  rw [if_pos hk,decide_eq_true (Nat.lt_succ_self _)]
  first | rfl | (rw [if_pos hk]; rfl)
 ·rename_i e
  rw [show decide (i < k+1)=decide (i < k) by rw [decide_eq_decide]; omega]
theorem intC_end (N:Nat) (X:SetS) : intC N (upS X N)=intC N X:=by
 apply List.ext_getElem?
 intro i
 rw [intC_at,intC_at]
 split
 ·rename_i h
  unfold upS
  rw [decide_eq_true h]; rfl
 ·rfl
end Go.Ai
end
section
namespace Go.Ai
set_option maxRecDepth 10000
theorem up_none (k:Nat) : upS noneS k=noneS:=by funext s; unfold upS noneS; simp
variable (M:MachM) (A B:SetS)
def rounds (op r:Nat) : SetS :=
 match op with
 | 8=>iterS (M.gr.fE allS A) r
 | 10=>iterS (M.gr.fE A B) r
 | 12=>iterS (M.gr.fA allS A) r
 | 14=>iterS (M.gr.fA A B) r
 | 9=>notS (iterS (M.gr.fA allS (notS A)) r)
 | _=>notS (iterS (M.gr.fE allS (notS A)) r)
theorem step8 (r k:Nat) : rounds M A B 8 (r+1) k=(A k || M.gr.pre (rounds M A B 8 r) k):=by
 show M.gr.fE allS A (iterS _ r) k=_
 unfold GraphM.fE allS
 rw [Bool.true_and]; rfl
theorem step10 (r k:Nat) : rounds M A B 10 (r+1) k=(B k || (A k && M.gr.pre (rounds M A B 10 r) k)):=rfl
theorem step12 (r k:Nat) : rounds M A B 12 (r+1) k=(A k || (!M.gr.ends k && M.gr.post (rounds M A B 12 r) k)):=by
 show M.gr.fA allS A (iterS _ r) k=_
 unfold GraphM.fA allS
 rw [Bool.true_and]; rfl
theorem step14 (r k:Nat) : rounds M A B 14 (r+1) k=(B k || (A k && (!M.gr.ends k && M.gr.post (rounds M A B 14 r) k))):=rfl
theorem step9 (r k:Nat) : rounds M A B 9 (r+1) k=(A k && (M.gr.ends k || M.gr.pre (rounds M A B 9 r) k)):=by
 show notS (M.gr.fA allS (notS A) (iterS _ r)) k=(A k && (M.gr.ends k || M.gr.pre (notS (iterS _ r)) k))
 rw [not_pre]
 unfold notS GraphM.fA allS
 dsimp only
 generalize M.gr.post _ k=p
 cases A k <;> cases M.gr.ends k <;> cases p <;> rfl
theorem step13 (r k:Nat) : rounds M A B 13 (r+1) k=(A k && M.gr.post (rounds M A B 13 r) k):=by
 show notS (M.gr.fE allS (notS A) (iterS _ r)) k=(A k && M.gr.post (notS (iterS _ r)) k)
 have h:=not_pre M.gr (notS (iterS (M.gr.fE allS (notS A)) r)) k
 rw [show notS (notS (iterS (M.gr.fE allS (notS A)) r))=iterS (M.gr.fE allS (notS A)) r by funext s; unfold notS; simp] at h
 unfold notS GraphM.fE allS at *
 dsimp only at *
 rw [h]
 generalize M.gr.post _ k=p
 cases A k <;> cases p <;> rfl
theorem rounds_all (op:Nat) (h:op=9∨op=13) : rounds M A B op 0=allS:=by rcases h with rfl | rfl <;> rfl
theorem rounds_sem (hM:M.ok) (op:Nat) (a b:Int) (h:op=8∨op=9∨op=10∨op=12∨op=13∨op=14) : opSem M op a b A B (rounds M A B op (M.rows.length+1)):=by
 have hG:=M.gr_ok hM
 have nn:∀ X:SetS,notS (notS X)=X:=fun X=>by funext s; unfold notS; simp
 rcases h with rfl | rfl | rfl | rfl | rfl | rfl
 ·exact iter_lfp (fun X Y=>M.gr.fE_mono hG _ _)
 ·show IsL _ _ (notS (notS _))
  rw [nn]
  exact iter_lfp (n:=M.gr.n) (fun X Y=>M.gr.fA_mono hG _ _)
 ·exact iter_lfp (fun X Y=>M.gr.fE_mono hG _ _)
 ·exact iter_lfp (fun X Y=>M.gr.fA_mono hG _ _)
 ·show IsL _ _ (notS (notS _))
  rw [nn]
  exact iter_lfp (n:=M.gr.n) (fun X Y=>M.gr.fE_mono hG _ _)
 ·exact iter_lfp (fun X Y=>M.gr.fA_mono hG _ _)
end Go.Ai
end
section
namespace Go.Ai
set_option maxRecDepth 10000
theorem bAt_app_l {a b:ByteArray} {i:Nat} (h:i < a.size) : bAt (a++b) i=bAt a i:=by
 unfold bAt
 have h2:i < (a++b).size:=by rw [ba_size_append]; omega
 rw [dif_pos h2,dif_pos h,ByteArray.getElem_append_left h]
theorem bAt_app_r {a b:ByteArray} {i:Nat} (h:i < b.size) : bAt (a++b) (a.size+i)=bAt b i:=by
 unfold bAt
 have h2:a.size+i < (a++b).size:=by rw [ba_size_append]; omega
 rw [dif_pos h2,dif_pos h,ByteArray.getElem_append_right (by omega)]
 simp
theorem bAt_extract {s:ByteArray} {k m j:Nat} (h:j < m) (hm:k+m≤s.size) : bAt (s.extract k (k+m)) j=bAt s (k+j):=by
 have hsz:(s.extract k (k+m)).size=m:=by rw [ByteArray.size_extract]; omega
 unfold bAt
 rw [dif_pos (by omega),dif_pos (by omega)]
 rw [ByteArray.getElem_extract]
structure Has (s:ByteArray) (k:Nat) (w:ByteArray) : Prop where
 le:k+w.size≤s.size
 at' : ∀ i,i < w.size→bAt s (k+i)=bAt w i
theorem Has.self (s:ByteArray) : Has s 0 s:=⟨by omega,fun i _=>by rw [Nat.zero_add]⟩
theorem Has.app {s a b:ByteArray} {k:Nat} (h:Has s k (a++b)) : Has s k a∧Has s (k+a.size) b:=by
 obtain ⟨h1,h2⟩:=h
 rw [ba_size_append] at h1
 refine ⟨⟨by omega,fun i hi=>?_⟩,⟨by omega,fun i hi=>?_⟩⟩
 ·rw [h2 i (by rw [ba_size_append]; omega),bAt_app_l hi]
 ·rw [Nat.add_assoc,h2 _ (by rw [ba_size_append]; omega),bAt_app_r hi]
theorem ba_ext {a b:ByteArray} (h:a.size=b.size) (h2:∀ i,i < a.size→bAt a i=bAt b i) : a=b:=by
 refine ByteArray.ext_getElem h fun i h3 h4=>?_
 have:=h2 i h3
 unfold bAt at this
 rw [dif_pos h3,dif_pos h4] at this
 exact UInt8.toNat_inj.1 (by omega)
theorem Has.ext {s w:ByteArray} {k:Nat} (h:Has s k w) : s.extract k (k+w.size)=w:=by
 have hs:(s.extract k (k+w.size)).size=w.size:=by rw [ByteArray.size_extract]; have:=h.le; omega
 refine ba_ext hs fun i hi=>?_
 rw [bAt_extract (by omega) h.le]
 exact h.at' i (by omega)
theorem Has.byte {s w:ByteArray} {k:Nat} (h:Has s k w) (h0:0 < w.size) : bAt s k=bAt w 0:=by
 have:=h.at' 0 h0
 rwa [Nat.add_zero] at this
def Stop (s:ByteArray) (j:Nat) : Prop:=j=s.size∨(j < s.size∧letterM (bAt s j)=false∧digitM (bAt s j)=false)
theorem runF_eq {F:Nat→Int→Bool} {s:ByteArray} {k L:Nat} : ∀ (m j:Nat),j≤L→k+L≤s.size→L - j≤m→(∀ i,j≤i→i < L→F i (bAt s (k+i))=true)→(k+L=s.size∨F L (bAt s (k+L))=false)→runF F s k m j=L
 | 0,j,h1,_,h3,_,_=>by unfold runF; omega
 | m+1,j,h1,h2,h3,h4,h5=>by
  unfold runF
  by_cases h:j=L
  ·subst h
   rcases h5 with h5 | h5
   ·rw [if_neg (by omega)]
   ·split
    ·rw [if_neg (by rw [h5]; simp)]
    ·rfl
  ·rw [if_pos (by omega),if_pos (h4 j (Nat.le_refl _) (by omega))]
   exact runF_eq m (j+1) (by omega) h2 (by omega) (fun i h6 h7=>h4 i (by omega) h7) h5
theorem tok_of {s w:ByteArray} {k:Nat} (h:Has s k w) (h0:0 < w.size) (ht:tokN s k=w.size) : tokB s k=w:=by
 have:=h.le
 unfold tokB
 rw [if_neg (by omega),ht,h.ext]
theorem tok_word {s w:ByteArray} {k:Nat} (h:Has s k w) (h0:0 < w.size) (hp:∀ i,i < w.size→letterM (bAt w i)=true) (hs:Stop s (k+w.size)) : tokB s k=w:=by
 refine tok_of h h0 ?_
 have:=h.le
 unfold tokN
 rw [h.byte h0,if_pos (hp 0 h0)]
 refine runF_eq _ _ h0 h.le (by omega) (fun i _ hi=>?_) ?_
 ·rw [h.at' i hi]; exact hp i hi
 ·exact hs.imp id fun h=>h.2.1
theorem digit_letter {c:Int} (h:digitM c=true) : ¬letterM c=true:=by
 have:=digit_in h
 simp only [letterM,Bool.or_eq_true,decide_eq_true_eq]
 omega
theorem tok_num {s w:ByteArray} {k:Nat} (h:Has s k w) (h0:0 < w.size) (hp:∀ i,i < w.size→digitM (bAt w i)=true) (hs:Stop s (k+w.size)) : tokB s k=w:=by
 refine tok_of h h0 ?_
 have:=h.le
 unfold tokN
 rw [h.byte h0,if_neg (digit_letter (hp 0 h0)),if_pos (hp 0 h0)]
 refine runF_eq _ _ h0 h.le (by omega) (fun i _ hi=>?_) ?_
 ·rw [h.at' i hi]; exact hp i hi
 ·exact hs.imp id fun h=>h.2.2
theorem tok_one {s w:ByteArray} {k:Nat} (h:Has s k w) (h0:w.size=1) (hl:letterM (bAt w 0)=false) (hd:digitM (bAt w 0)=false) : tokB s k=w:=by
 refine tok_of h (by omega) ?_
 unfold tokN
 rw [h.byte (by omega),if_neg (by rw [hl]; simp),if_neg (by rw [hd]; simp),h0]
theorem adv_at {s w:ByteArray} {k:Nat} (h:Has s k w) (h0:0 < w.size∧bAt w 0≠32) : advM s k=k:=adv_stay (.inr (by rw [h.byte h0.1]; exact h0.2))
theorem adv_blank {s w:ByteArray} {k:Nat} (h1:Has s k ⟨#[32]⟩) (h2:Has s (k+1) w) (h0:0 < w.size∧bAt w 0≠32) : advM s k=k+1:=by
 have hb:bAt s k=32:=(h1.byte (by decide)).trans (by decide)
 have:=h2.le
 rw [adv_skip (by omega) hb,adv_at h2 h0]
theorem stop_byte {s w:ByteArray} {k:Nat} (h:Has s k w) (h0:0 < w.size) (hl:letterM (bAt w 0)=false) (hd:digitM (bAt w 0)=false) : Stop s k:=by
 have:=h.le
 exact .inr ⟨by omega,by rw [h.byte h0]; exact hl,by rw [h.byte h0]; exact hd⟩
section
variable (s:ByteArray)
def RdT (r k:Nat) (x:NodeM) (k' : Nat) : Prop:=∀ m,20 * (s.size - k)+10≤m+r→readF s m r k=some (.ok x k')
def LpT (r:Nat) (x:NodeM) (k:Nat) (y:NodeM) (k' : Nat) : Prop:=∀ m,20 * (s.size - k)+1≤m→loopF s m r x k=some (.ok y k')
def SgT (k:Nat) (x:NodeM) (k' : Nat) : Prop:=∀ m,20 * (s.size - k)+6≤m→singF s m k=some (.ok x k')
end
section
variable {s:ByteArray}
theorem RdT.sing {r k k' : Nat} {x:NodeM} (hr:r=3) (h:SgT s k x k') : RdT s r k x k':=by
 subst hr
 intro m hm
 obtain ⟨m,rfl⟩ : ∃ m',m=m'+1:=⟨m - 1,by omega⟩
 rw [readF,if_pos (Nat.le_refl _)]
 exact h m (by omega)
theorem RdT.step {r k k1 k2:Nat} {x y:NodeM} (hr:r < 3) (h:RdT s (r+1) k x k1) (hk:k < k1) (hk1:k1≤s.size) (hl:LpT s r x k1 y k2) : RdT s r k y k2:=by
 intro m hm
 obtain ⟨m,rfl⟩ : ∃ m',m=m'+1:=⟨m - 1,by omega⟩
 rw [readF,if_neg (by omega),h m (by omega)]
 exact hl m (by omega)
theorem LpT.stop {r k:Nat} {x:NodeM} (h:tokB s k≠signB (bopM r)) : LpT s r x k x k:=by
 intro m hm
 obtain ⟨m,rfl⟩ : ∃ m',m=m'+1:=⟨m - 1,by omega⟩
 rw [loopF,if_neg h]
theorem LpT.step {r k k1 k2:Nat} {x y z:NodeM} (hr:r < 3) (h:tokB s k=signB (bopM r)) (hk:k < s.size) (hd:RdT s (r+1) (nxtM s k) y k1) (hk1:nxtM s k < k1) (hk2:k1≤s.size) (hl:LpT s r (.mk (bopM r) 0 0 [x,y]) k1 z k2) : LpT s r x k z k2:=by
 intro m hm
 obtain ⟨m,rfl⟩ : ∃ m',m=m'+1:=⟨m - 1,by omega⟩
 have:=nxtM_lt hk
 rw [loopF,if_pos h,hd m (by omega)]
 exact hl m (by omega)
theorem SgT.paren {k k1:Nat} {x:NodeM} (h:tokB s k=openT) (hk:k < s.size) (hd:RdT s 1 (nxtM s k) x k1) (hc:tokB s k1=closeT) : SgT s k x (nxtM s k1):=by
 intro m hm
 obtain ⟨m,rfl⟩ : ∃ m',m=m'+1:=⟨m - 1,by omega⟩
 have:=nxtM_lt hk
 rw [singF,if_pos h,hd m (by omega)]
 exact if_pos hc
theorem opOf_sign {o:Nat} (h:o < 15) (h5:o≠5) (h6:o≠6) : opOf (signB o)=some o∧signB o≠openT:=by
 have:o=0∨o=1∨o=2∨o=3∨o=4∨o=7∨o=8∨o=9∨o=10∨o=11∨o=12∨o=13∨o=14:=by omega
 rcases this with rfl | rfl | rfl | rfl | rfl | rfl | rfl | rfl | rfl | rfl | rfl | rfl | rfl <;> decide +kernel
theorem SgT.un {k k1 o:Nat} {x:NodeM} (ho:o < 15) (hs:subsM o=1) (h:tokB s k=signB o) (hk:k < s.size) (hd:SgT s (nxtM s k) x k1) : SgT s k (.mk o 0 0 [x]) k1:=by
 intro m hm
 obtain ⟨m,rfl⟩ : ∃ m',m=m'+1:=⟨m - 1,by omega⟩
 have:=nxtM_lt hk
 obtain ⟨e1,e2⟩:=opOf_sign ho (by rintro rfl; revert hs; decide) (by rintro rfl; revert hs; decide)
 rw [singF,h,if_neg e2,e1]
 dsimp only
 rw [if_neg (by omega),if_pos hs,hd m (by omega)]
theorem SgT.two {k k1 k2 o:Nat} {x y:NodeM} (ho:o=10∨o=14) (h:tokB s k=signB o) (hk:k < s.size) (h1:tokB s (nxtM s k)=leftT) (hd:RdT s 1 (nxtM s (nxtM s k)) x k1) (h2:tokB s k1=untilT) (hk1:nxtM s (nxtM s k) < k1) (hk2:k1≤s.size)
  (hd2:RdT s 1 (nxtM s k1) y k2) (h3:tokB s k2=rightT) : SgT s k (.mk o 0 0 [x,y]) (nxtM s k2):=by
 intro m hm
 obtain ⟨m,rfl⟩ : ∃ m',m=m'+1:=⟨m - 1,by omega⟩
 have n0:=nxtM_lt hk
 have n1:=nxtM_ge (nxtM_le (Nat.le_of_lt hk))
 have n2:=nxtM_ge hk2
 have n3:=nxtM_le (nxtM_le (Nat.le_of_lt hk))
 obtain ⟨e1,e2⟩:=opOf_sign (o:=o) (by omega) (by omega) (by omega)
 have hs:subsM o=2:=by rcases ho with rfl | rfl <;> rfl
 rw [singF,h,if_neg e2,e1]
 dsimp only
 rw [if_pos hs,if_pos h1,hd m (by omega)]
 dsimp only
 rw [if_pos h2,hd2 m (by omega)]
 exact if_pos h3
theorem SgT.tru {k:Nat} (h:tokB s k=signB 0) : SgT s k (.mk 0 0 0 []) (nxtM s k):=by
 intro m hm
 obtain ⟨m,rfl⟩ : ∃ m',m=m'+1:=⟨m - 1,by omega⟩
 rw [singF,h,if_neg (by decide),(opOf_sign (o:=0) (by omega) (by omega) (by omega)).1]
 rfl
theorem SgT.one {k a o:Nat} (ho:o=1∨o=2) (h:tokB s k=signB o) (hn:numM (tokB s (nxtM s k))=some a) : SgT s k (.mk o (a:Nat) 0 []) (nxtM s (nxtM s k)):=by
 intro m hm
 obtain ⟨m,rfl⟩ : ∃ m',m=m'+1:=⟨m - 1,by omega⟩
 obtain ⟨e1,e2⟩:=opOf_sign (o:=o) (by omega) (by omega) (by omega)
 rw [singF,h,if_neg e2,e1]
 dsimp only
 rw [if_neg (by rcases ho with rfl | rfl <;> decide),if_neg (by rcases ho with rfl | rfl <;> decide),if_neg (by omega),hn]
 dsimp only
 rw [if_neg (by omega)]
theorem SgT.giv {k a b:Nat} (h:tokB s k=signB 3) (hn:numM (tokB s (nxtM s k))=some a) (hn2:numM (tokB s (nxtM s (nxtM s k)))=some b) : SgT s k (.mk 3 (a:Nat) (b:Nat) []) (nxtM s (nxtM s (nxtM s k))):=by
 intro m hm
 obtain ⟨m,rfl⟩ : ∃ m',m=m'+1:=⟨m - 1,by omega⟩
 obtain ⟨e1,e2⟩:=opOf_sign (o:=3) (by omega) (by omega) (by omega)
 rw [singF,h,if_neg e2,e1]
 dsimp only
 rw [if_neg (by decide),if_neg (by decide),if_neg (by decide),hn]
 dsimp only
 rw [if_pos rfl,hn2]
structure RdOK (k:Nat) (x:NodeM) (k' r:Nat) : Prop where
 lt:k < k'
 le:k'≤s.size
 sg:3≤r→SgT s k x k'
 c2:2≤r→∀ z q,LpT s 2 x k' z q→RdT s 2 k z q
 c1:tokB s k'≠signB 5→∀ z q,LpT s 1 x k' z q→RdT s 1 k z q
theorem RdOK.ofS {k k' : Nat} {x:NodeM} (h1:k < k') (h2:k'≤s.size) (h:SgT s k x k') (r:Nat) : RdOK (s:=s) k x k' r :=
 have c2:∀ z q,LpT s 2 x k' z q→RdT s 2 k z q:=fun z q hl=>RdT.step (by omega) (RdT.sing rfl h) h1 h2 hl
 ⟨h1,h2,fun _=>h,fun _=>c2,fun hn z q hl=>RdT.step (by omega) (c2 _ _ (LpT.stop (by exact hn))) h1 h2 hl⟩
theorem RdOK.stop1 {k k' r:Nat} {x:NodeM} (h:RdOK (s:=s) k x k' r) (h5:tokB s k'≠signB 5) (h6:tokB s k'≠signB 6) : RdT s 1 k x k':=h.c1 h5 _ _ (LpT.stop (by exact h6))
theorem RdOK.stop2 {k k' r:Nat} {x:NodeM} (h:RdOK (s:=s) k x k' r) (hr:2≤r) (h5:tokB s k'≠signB 5) : RdT s 2 k x k':=h.c2 hr _ _ (LpT.stop (by exact h5))
end
end Go.Ai
end
section
namespace Go.Ai
set_option maxRecDepth 10000
theorem dec_val:∀ (n u:Nat),u≤n→valL 0 (Lib.decDigits u)=u
 | n,u,hn=>by
  by_cases h:u < 10
  ·rw [Lib.decDigits,dif_pos h]
   show 0 * 10+((UInt8.ofNat (48+u)).toNat - 48)=u
   rw [ofNat_dig h]
   omega
  ·obtain ⟨n',rfl⟩ : ∃ n',n=n'+1:=⟨n - 1,by omega⟩
   have ih:=dec_val n' (u / 10) (by omega)
   rw [Lib.decDigits,dif_neg h,valL_snoc,ih,ofNat_dig (by omega)]
   omega
theorem dec_list (n:Nat) : (decB n).data.toList=Lib.decDigits n:=by unfold decB; simp
theorem dec_num {n:Nat} (h:n < 10000) : numM (decB n)=some n∧0 < (decB n).size∧digitsB (decB n):=by
 obtain ⟨⟨p1,p2,p3⟩,p4,p5⟩:=plain_dec n n (Nat.le_refl _)
 have hl:=dec_list n
 have hsz:=tl_len (decB n)
 have h4:=p5 3 (by omega)
 have h1:0 < (decB n).size:=by rw [← hsz,hl]; exact List.length_pos_iff.2 p1
 have hd:digitsB (decB n):=list_digits (by rw [hl]; exact p2)
 refine ⟨?_,h1,hd⟩
 have hno:¬(bAt (decB n) 0=48∧1 < (decB n).size):=by
  rintro ⟨h5,h6⟩
  cases hq:Lib.decDigits n with
  | nil=>exact p1 hq
  | cons c r =>
   rw [bAt_list h1] at h5
   simp only [hl,hq,List.getElem_cons_zero] at h5
   refine p3 c r hq (fun er=>?_) (by omega)
   rw [hl,hq,er] at hsz
   simp only [List.length_cons,List.length_nil] at hsz
   omega
 unfold numM
 rw [if_pos ⟨h1,by rw [← hsz,hl]; exact h4,hd,hno⟩,valB_list,hl,dec_val _ _ (Nat.le_refl _)]
def rkN (op:Nat) : Nat:=if op=6 then 1 else if op=5 then 2 else if subsM op=1 then 3 else 4
theorem rank_rk (op:Nat) : rankM op=(rkN op:Nat):=by
 unfold rankM rkN
 by_cases h1:op=6
 ·simp [h1]
 ·by_cases h2:op=5
  ·simp [h2]
  ·by_cases h3:subsM op=1
   ·simp [h1,h2,h3]
   ·simp [h1,h2,h3]
theorem rk_pos (op:Nat) : 1≤rkN op∧rkN op≤4:=by
 unfold rkN
 by_cases h1:op=6
 ·rw [if_pos h1]; omega
 ·rw [if_neg h1]
  by_cases h2:op=5
  ·rw [if_pos h2]; omega
  ·rw [if_neg h2]
   by_cases h3:subsM op=1
   ·rw [if_pos h3]; omega
   ·rw [if_neg h3]; omega
def NBl (w:ByteArray) : Prop:=0 < w.size∧bAt w 0≠32
theorem NBl.app {a b:ByteArray} (h:NBl a) : NBl (a++b):=⟨by rw [ba_size_append]; have:=h.1; omega,by rw [bAt_app_l h.1]; exact h.2⟩
theorem op_cases {o:Nat} (h:o < 15) : o=0∨o=1∨o=2∨o=3∨o=4∨o=5∨o=6∨o=7∨o=8∨o=9∨o=10∨o=11∨o=12∨o=13∨o=14:=by omega
theorem sign_letters {o:Nat} (h:o < 15) : ∀ i,i < (signB o).size→letterM (bAt (signB o) i)=true:=by
 rcases op_cases h with rfl | rfl | rfl | rfl | rfl | rfl | rfl | rfl | rfl | rfl | rfl | rfl | rfl | rfl | rfl <;> decide +kernel
theorem sign_nb {o:Nat} (h:o < 15) : NBl (signB o):=by
 rcases op_cases h with rfl | rfl | rfl | rfl | rfl | rfl | rfl | rfl | rfl | rfl | rfl | rfl | rfl | rfl | rfl <;> exact ⟨by decide,by decide⟩
theorem par_nb {t:ByteArray} {r l:Int} (h:NBl t) : NBl (parM t r l):=by
 unfold parM
 split
 ·exact NBl.app (NBl.app ⟨by decide,by decide⟩)
 ·exact h
theorem text_nb:∀ (m:Nat) (x:NodeM),sizeN x≤m→validM 10000 10000 10000 x=true→NBl (textM x)
 | 0,x,h,_=>by have:=size_pos x; omega
 | m+1,.mk op a b subs,h,hv=>by
  simp only [validM,Bool.and_eq_true,decide_eq_true_eq] at hv
  obtain ⟨h1,h2,h3,h4,h5,h6,h7⟩:=hv
  have hs:=sign_nb h1
  unfold textM
  match subs,h,h7 with
  | [],_,_ =>
   simp only [textL,joinM]
   split
   ·exact hs
   ·split
    ·exact (((hs.app).app).app).app
    ·exact (hs.app).app
  | [x],_,_ =>
   simp only [textL,joinM]
   exact (hs.app).app
  | x :: y :: l,h,h7 =>
   simp only [textL,joinM]
   simp only [validL,Bool.and_eq_true] at h7
   unfold sizeN sizeL at h
   have:=text_nb m x (by omega) h7.1
   split
   ·exact ((((hs.app).app).app).app).app
   ·exact ((((par_nb this).app).app).app).app
section
variable {s:ByteArray}
theorem RdOK.mono {k k' r r' : Nat} {x:NodeM} (h:RdOK (s:=s) k x k' r) (hr:r'≤r) : RdOK (s:=s) k x k' r' :=
 ⟨h.lt,h.le,fun h1=>h.sg (by omega),fun h1=>h.c2 (by omega),h.c1⟩
theorem read_par {k least:Nat} {y:NodeM} (hy:NBl (textM y)) (hr:∀ k,Has s k (textM y)→Stop s (k+(textM y).size)→RdOK (s:=s) k y (advM s (k+(textM y).size)) (rkN y.op))
  (hh:Has s k (parM (textM y) (rankM y.op) (least:Nat))) (hs:Stop s (k+(parM (textM y) (rankM y.op) (least:Nat)).size)) : RdOK (s:=s) k y (advM s (k+(parM (textM y) (rankM y.op) (least:Nat)).size)) least:=by
 by_cases h:rankM y.op < (least:Nat)
 ·have e0:parM (textM y) (rankM y.op) (least:Nat)=openT++textM y++closeT:=by unfold parM; rw [if_pos h]; rfl
  rw [e0] at hh hs ⊢
  obtain ⟨h12,h3⟩:=hh.app
  obtain ⟨h1,h2⟩:=h12.app
  have e1:openT.size=1:=rfl
  have e2:closeT.size=1:=rfl
  have e3:(openT++textM y).size=1+(textM y).size:=by rw [ba_size_append,e1]
  rw [e1] at h2
  rw [e3] at h3
  have e4:(openT++textM y++closeT).size=1+(textM y).size+1:=by rw [ba_size_append,e3,e2]
  rw [e4] at hs ⊢
  have l3:=h3.le
  rw [e2] at l3
  have t1:tokB s k=openT:=tok_one h1 rfl (by decide) (by decide)
  have t2:tokB s (k+(1+(textM y).size))=closeT:=tok_one h3 rfl (by decide) (by decide)
  have n1:nxtM s k=k+1:=by unfold nxtM; rw [t1,e1,adv_at h2 hy]
  have hst:Stop s (k+1+(textM y).size):=by rw [Nat.add_assoc]; exact stop_byte h3 (by decide) (by decide) (by decide)
  have hb:bAt s (k+(1+(textM y).size))=41:=(h3.byte (by decide)).trans (by decide)
  have a2:advM s (k+1+(textM y).size)=k+(1+(textM y).size):=by rw [Nat.add_assoc]; exact adv_stay (.inr (by rw [hb]; decide))
  have R:=hr (k+1) h2 hst
  rw [a2] at R
  have hrd:=R.stop1 (by rw [t2]; decide) (by rw [t2]; decide)
  rw [← n1] at hrd
  have hsg:=SgT.paren t1 (by omega) hrd t2
  have n2:nxtM s (k+(1+(textM y).size))=advM s (k+(1+(textM y).size+1)):=by unfold nxtM; rw [t2,e2,Nat.add_assoc]
  rw [n2] at hsg
  have l4:=advM_le (s:=s) (j:=k+(1+(textM y).size+1)) (by omega)
  exact RdOK.ofS (by omega) l4.2 hsg _
 ·have e0:parM (textM y) (rankM y.op) (least:Nat)=textM y:=by unfold parM; rw [if_neg h]
  rw [e0] at hh hs ⊢
  refine (hr k hh hs).mono ?_
  rw [rank_rk] at h
  omega
theorem stop_blank {k:Nat} (h:Has s k ⟨#[32]⟩) : Stop s k:=stop_byte h (by decide) (by decide) (by decide)
theorem read_text:∀ (m:Nat) (x:NodeM),sizeN x≤m→validM 10000 10000 10000 x=true→∀ (k:Nat),Has s k (textM x)→Stop s (k+(textM x).size)→RdOK (s:=s) k x (advM s (k+(textM x).size)) (rkN x.op)
 | 0,x,h,_=>by have:=size_pos x; omega
 | m+1,.mk op a b subs,h,hv=>by
  intro k hh hst
  have hnb:=text_nb (m+1) _ h hv
  simp only [validM,Bool.and_eq_true,decide_eq_true_eq] at hv
  obtain ⟨h1,h2,h3,h4,h5,h6,h7⟩:=hv
  obtain ⟨na,rfl⟩:=Int.eq_ofNat_of_zero_le h3
  obtain ⟨nb,rfl⟩:=Int.eq_ofNat_of_zero_le h4
  have hla:=hh.le
  have hadv:=advM_le (s:=s) (j:=k+(textM (.mk op na nb subs)).size) hla
  have hlt:k < advM s (k+(textM (.mk op na nb subs)).size):=by have:=hnb.1; omega
  have hsn:=sign_nb h1
  have hsl:=sign_letters h1
  have e32:(⟨#[32]⟩ : ByteArray).size=1:=rfl
  show RdOK k _ _ (rkN op)
  have done:SgT s k (.mk op na nb subs) (advM s (k+(textM (.mk op na nb subs)).size))→RdOK (s:=s) k (.mk op na nb subs) (advM s (k+(textM (.mk op na nb subs)).size)) (rkN op):=fun hg=>RdOK.ofS hlt hadv.2 hg _
  match subs,h,h2,h7 with
  | [],h,h2,h7 =>
   refine done ?_
   have ho:op=0∨op=1∨op=2∨op=3:=by
    have:subsM op=0:=h2.symm
    unfold subsM at this
    split at this
    ·omega
    ·split at this <;> omega
   by_cases h0:op=0
   ·subst h0
    obtain ⟨rfl,rfl⟩ : na=0∧nb=0:=by simp at h5 h6; omega
    have ht:textM (.mk 0 (0:Nat) (0:Nat) [])=signB 0:=rfl
    rw [ht] at hh hst ⊢
    have t1:=tok_word hh hsn.1 hsl hst
    have:=SgT.tru t1
    unfold nxtM at this
    rw [t1] at this
    exact this
   ·by_cases h30:op=3
    ·subst h30
     have ha:na < 10000:=by simp at h5; omega
     have hb:nb < 10000:=by simp at h6; omega
     obtain ⟨da1,da2,da3⟩:=dec_num ha
     obtain ⟨db1,db2,db3⟩:=dec_num hb
     have ht:textM (.mk 3 (na:Nat) (nb:Nat) [])=signB 3++⟨#[32]⟩++decB na++⟨#[32]⟩++decB nb:=rfl
     rw [ht] at hh hst ⊢
     have nba:NBl (decB na):=⟨da2,by have:=digit_in (da3 0 da2); omega⟩
     have nbb:NBl (decB nb):=⟨db2,by have:=digit_in (db3 0 db2); omega⟩
     generalize decB na=A at *
     generalize decB nb=B at *
     obtain ⟨q4,q5⟩:=hh.app
     obtain ⟨q3,qb⟩:=q4.app
     obtain ⟨q2,q6⟩:=q3.app
     obtain ⟨q1,qa⟩:=q2.app
     simp only [ba_size_append,e32,← Nat.add_assoc] at qa q6 qb q5 hst ⊢
     have t1:=tok_word q1 hsn.1 hsl (stop_blank qa)
     have n1:nxtM s k=k+(signB 3).size+1:=by unfold nxtM; rw [t1]; exact adv_blank qa q6 nba
     have t2:=tok_num q6 da2 da3 (stop_blank qb)
     have n2:nxtM s (k+(signB 3).size+1)=k+(signB 3).size+1+A.size+1:=by unfold nxtM; rw [t2]; exact adv_blank qb q5 nbb
     have t3:=tok_num q5 db2 db3 hst
     have:=SgT.giv t1 (by rw [n1,t2]; exact da1) (by rw [n1,n2,t3]; exact db1)
     rw [n1,n2] at this
     unfold nxtM at this
     rw [t3] at this
     exact this
    ·have ho2:op=1∨op=2:=by omega
     have ha:na < 10000:=by rcases ho2 with rfl | rfl <;> simp at h5 <;> omega
     obtain rfl:nb=0:=by rcases ho2 with rfl | rfl <;> simp at h6 <;> omega
     obtain ⟨da1,da2,da3⟩:=dec_num ha
     have ht:textM (.mk op (na:Nat) (0:Nat) [])=signB op++⟨#[32]⟩++decB na:=by rcases ho2 with rfl | rfl <;> rfl
     rw [ht] at hh hst ⊢
     have nba:NBl (decB na):=⟨da2,by have:=digit_in (da3 0 da2); omega⟩
     generalize decB na=A at *
     obtain ⟨q2,q6⟩:=hh.app
     obtain ⟨q1,qa⟩:=q2.app
     simp only [ba_size_append,e32,← Nat.add_assoc] at qa q6 hst ⊢
     have t1:=tok_word q1 hsn.1 hsl (stop_blank qa)
     have n1:nxtM s k=k+(signB op).size+1:=by unfold nxtM; rw [t1]; exact adv_blank qa q6 nba
     have t2:=tok_num q6 da2 da3 hst
     have:=SgT.one ho2 t1 (by rw [n1,t2]; exact da1)
     rw [n1] at this
     unfold nxtM at this
     rw [t2] at this
     exact this
  | [x],h,h2,h7 =>
   refine done ?_
   have hs1:subsM op=1:=h2.symm
   simp only [validL,Bool.and_eq_true] at h7
   have hsz:sizeN x≤m:=by unfold sizeN sizeL at h; omega
   have hx:=text_nb m x hsz h7.1
   have ht:textM (.mk op na nb [x])=signB op++⟨#[32]⟩++parM (textM x) (rankM x.op) 3:=rfl
   have hz:na=0∧nb=0:=by
    have e1:¬(op=1):=by rintro rfl; revert hs1; decide
    have e2:¬(op=2∨op=3):=by rintro (rfl | rfl) <;> (revert hs1; decide)
    have e3:¬(op=3):=by rintro rfl; revert hs1; decide
    rw [if_neg e1,if_neg e2] at h5
    rw [if_neg e3] at h6
    omega
   obtain ⟨rfl,rfl⟩:=hz
   rw [ht] at hh hst ⊢
   have hp:NBl (parM (textM x) (rankM x.op) 3):=par_nb hx
   have ih:=fun k q1 q2=>read_par (s:=s) (k:=k) (least:=3) hx (fun k=>read_text m x hsz h7.1 k) q1 q2
   have e3:(((3:Nat) : Int))=3:=rfl
   rw [e3] at ih
   generalize parM (textM x) (rankM x.op) 3=P at *
   obtain ⟨q2,q6⟩:=hh.app
   obtain ⟨q1,qa⟩:=q2.app
   simp only [ba_size_append,e32,← Nat.add_assoc] at qa q6 hst ⊢
   have t1:=tok_word q1 hsn.1 hsl (stop_blank qa)
   have n1:nxtM s k=k+(signB op).size+1:=by unfold nxtM; rw [t1]; exact adv_blank qa q6 hp
   have R:=ih _ q6 hst
   have l6:=q6.le
   have hsg:=R.sg (Nat.le_refl _)
   exact SgT.un h1 hs1 t1 (by omega) (by rw [n1]; exact hsg)
  | x :: y :: l,h,h2,h7 =>
   have h2' : l.length+2=subsM op:=h2
   have hs2:subsM op=2∧l=[]:=by
    have:subsM op≤2:=by unfold subsM; split; omega; split <;> omega
    exact ⟨by omega,List.length_eq_zero_iff.1 (by omega)⟩
   obtain ⟨hs2,rfl⟩:=hs2
   simp only [validL,Bool.and_eq_true] at h7
   obtain ⟨vx,vy,-⟩:=h7
   have hsx:sizeN x≤m:=by unfold sizeN sizeL at h; omega
   have hsy:sizeN y≤m:=by unfold sizeN sizeL sizeL at h; omega
   have hx:=text_nb m x hsx vx
   have hy:=text_nb m y hsy vy
   have rx:=fun k=>read_text m x hsx vx k
   have ry:=fun k=>read_text m y hsy vy k
   have ho:op=5∨op=6∨op=10∨op=14:=by unfold subsM at hs2; split at hs2; omega; split at hs2 <;> omega
   have hz:na=0∧nb=0:=by
    rw [if_neg (by omega),if_neg (by omega)] at h5
    rw [if_neg (by omega)] at h6
    omega
   obtain ⟨rfl,rfl⟩:=hz
   by_cases ho2:op=10∨op=14
   ·refine done ?_
    have eU:(⟨#[32,85,32]⟩ : ByteArray)=⟨#[32]⟩++untilT++⟨#[32]⟩:=by decide +kernel
    have ht:textM (.mk op (0:Nat) (0:Nat) [x,y])=signB op++leftT++textM x++(⟨#[32]⟩++untilT++⟨#[32]⟩)++textM y++rightT:=by
     rw [← eU]
     show joinM op (0:Nat) (0:Nat) [(textM x,rankM x.op),(textM y,rankM y.op)]=_
     simp only [joinM]
     rw [if_pos ho2]
     rfl
    have el:leftT.size=1:=rfl
    have er:rightT.size=1:=rfl
    have eu:untilT.size=1:=rfl
    rw [ht] at hh hst ⊢
    generalize textM x=A at *
    generalize textM y=B at *
    obtain ⟨p5,qR⟩:=hh.app
    obtain ⟨p4,qB⟩:=p5.app
    obtain ⟨p3,qU3⟩:=p4.app
    obtain ⟨p2,qA⟩:=p3.app
    obtain ⟨q1,qL⟩:=p2.app
    obtain ⟨pu,qb2⟩:=qU3.app
    obtain ⟨qb1,qu⟩:=pu.app
    simp only [ba_size_append,e32,el,er,eu,← Nat.add_assoc] at qR qB qA qL qb2 qb1 qu hst ⊢
    have lR:=qR.le
    rw [er] at lR
    have t1:=tok_word q1 hsn.1 hsl (stop_byte qL (by decide) (by decide) (by decide))
    have n1:nxtM s k=k+(signB op).size:=by unfold nxtM; rw [t1]; exact adv_at qL ⟨by decide,by decide⟩
    have t2:tokB s (k+(signB op).size)=leftT:=tok_one qL rfl (by decide) (by decide)
    have n2:nxtM s (k+(signB op).size)=k+(signB op).size+1:=by unfold nxtM; rw [t2]; exact adv_at qA hx
    have R1:=rx _ qA (stop_blank qb1)
    have nbu:NBl untilT:=⟨by decide,by decide⟩
    have a1:=adv_blank qb1 qu nbu
    rw [a1] at R1
    have t3:tokB s (k+(signB op).size+1+A.size+1)=untilT:=tok_word qu (by decide) (by decide +kernel) (stop_blank qb2)
    have n3:nxtM s (k+(signB op).size+1+A.size+1)=k+(signB op).size+1+A.size+1+1+1:=by unfold nxtM; rw [t3]; exact adv_blank qb2 qB hy
    have R2:=ry _ qB (stop_byte qR (by decide) (by decide) (by decide))
    have hbR:bAt s (k+(signB op).size+1+A.size+1+1+1+B.size)=93:=(qR.byte (by decide)).trans (by decide)
    rw [adv_stay (.inr (by rw [hbR]; decide))] at R2
    have t4:tokB s (k+(signB op).size+1+A.size+1+1+1+B.size)=rightT:=tok_one qR rfl (by decide) (by decide)
    have d1:=R1.stop1 (by rw [t3]; decide) (by rw [t3]; decide)
    have d2:=R2.stop1 (by rw [t4]; decide) (by rw [t4]; decide)
    have:=SgT.two (k:=k) (x:=x) (y:=y) ho2 t1 (by omega) (by rw [n1]; exact t2) (by rw [n1,n2]; exact d1) t3 (by rw [n1,n2]; exact R1.lt) R1.le (by rw [n3]; exact d2) t4
    unfold nxtM at this
    rw [t4] at this
    exact this
   ·have ht:textM (.mk op (0:Nat) (0:Nat) [x,y])=parM (textM x) (rankM x.op) (rankM op)++⟨#[32]⟩++signB op++⟨#[32]⟩++parM (textM y) (rankM y.op) (rankM op+1):=by
     show joinM op (0:Nat) (0:Nat) [(textM x,rankM x.op),(textM y,rankM y.op)]=_
     simp only [joinM]
     rw [if_neg ho2]
    obtain ⟨r,hr1,hr2,hr3,hr4⟩ : ∃ r:Nat,rankM op=(r:Nat)∧rkN op=r∧r < 3∧signB op=signB (bopM r)∧op=bopM r:=by
     rcases ho with rfl | rfl | h | h
     ·exact ⟨2,rfl,rfl,by omega,rfl,rfl⟩
     ·exact ⟨1,rfl,rfl,by omega,rfl,rfl⟩
     ·exact absurd (.inl h) ho2
     ·exact absurd (.inr h) ho2
    have er1:(r:Int)+1=((r+1:Nat) : Int):=rfl
    rw [ht] at hh hst hlt hadv ⊢
    rw [hr1,er1] at hh hst hlt hadv ⊢
    rw [hr2]
    have px:NBl (parM (textM x) (rankM x.op) (r:Nat)):=par_nb hx
    have py:NBl (parM (textM y) (rankM y.op) ((r+1:Nat) : Int)):=par_nb hy
    have Rx:=fun k q1 q2=>read_par (s:=s) (k:=k) (least:=r) hx rx q1 q2
    have Ry:=fun k q1 q2=>read_par (s:=s) (k:=k) (least:=r+1) hy ry q1 q2
    generalize parM (textM x) (rankM x.op) (r:Nat)=A at *
    generalize parM (textM y) (rankM y.op) ((r+1:Nat) : Int)=B at *
    obtain ⟨p4,qB⟩:=hh.app
    obtain ⟨p3,qb2⟩:=p4.app
    obtain ⟨p2,qs⟩:=p3.app
    obtain ⟨qA,qb1⟩:=p2.app
    simp only [ba_size_append,e32,← Nat.add_assoc] at qB qb2 qs qb1 hst hlt hadv ⊢
    have lB:=qB.le
    have R1:=Rx _ qA (stop_blank qb1)
    rw [adv_blank qb1 qs hsn] at R1
    have t1:=tok_word qs hsn.1 hsl (stop_blank qb2)
    have n1:nxtM s (k+A.size+1)=k+A.size+1+(signB op).size+1:=by unfold nxtM; rw [t1]; exact adv_blank qb2 qB py
    have R2:=Ry _ qB hst
    rw [← n1] at R2
    rw [n1] at R2
    generalize advM s (k+A.size+1+(signB op).size+1+B.size)=K at *
    have hB:=py.1
    rw [hr4.2]
    have t1' : tokB s (k+A.size+1)=signB (bopM r):=t1.trans hr4.1
    have R2lt:=R2.lt
    rcases (by omega:r=2∨r < 2) with h22 | h22
    ·subst h22
     have c2:∀ z q,LpT s 2 (.mk (bopM 2) 0 0 [x,y]) K z q→RdT s 2 k z q:=fun z q hl=>R1.c2 (Nat.le_refl _) z q (LpT.step (by omega) t1' (by omega) (by rw [n1]; exact RdT.sing rfl (R2.sg (Nat.le_refl _))) (by rw [n1]; exact R2lt) R2.le hl)
     exact ⟨hlt,hadv.2,fun h=>absurd h (by decide),fun _=>c2,fun h5 z q hl=>RdT.step (by omega) (c2 _ _ (LpT.stop h5)) hlt hadv.2 hl⟩
    ·have hr0:r=1:=by
      have:=rk_pos op
      omega
     subst hr0
     exact ⟨hlt,hadv.2,fun h=>absurd h (by decide),fun h=>absurd h (by decide),fun h5 z q hl=>R1.c1 (by rw [t1']; decide) z q (LpT.step (by omega) t1' (by omega) (by rw [n1]; exact R2.stop2 (Nat.le_refl _) h5) (by rw [n1]; exact R2lt) R2.le hl)⟩
end
noncomputable def parseM (s:ByteArray) : NodeM×Int×Int :=
 if 65536 < s.size then (.mk 0 0 0 [],0,3)
 else match readF s (20 * s.size+9) 1 (advM s 0) with
  | some (.err k)=>(.mk 0 0 0 [],(k:Nat),4)
  | some (.ok x k)=>if tokB s k≠⟨#[]⟩ then (.mk 0 0 0 [],(k:Nat),4) else if (smallM x 64).1=false then (.mk 0 0 0 [],0,3) else (x,0,0)
  | none=>(.mk 0 0 0 [],0,0)
theorem parse_text {x:NodeM} (hv:validM 10000 10000 10000 x=true) (hs:(smallM x 64).1=true) (hsz:(textM x).size≤65536) : parseM (textM x)=(x,0,0):=by
 have hnb:=text_nb _ x (Nat.le_refl _) hv
 have R:=read_text (s:=textM x) _ x (Nat.le_refl _) hv 0 (Has.self _) (.inl (Nat.zero_add _))
 have a0:advM (textM x) 0=0:=adv_at (Has.self _) hnb
 have a1:advM (textM x) (0+(textM x).size)=(textM x).size:=by rw [Nat.zero_add]; exact adv_stay (.inl rfl)
 rw [a1] at R
 have te:tokB (textM x) (textM x).size=⟨#[]⟩:=(tok_empty (Nat.le_refl _)).2 rfl
 have hrd:=R.stop1 (by rw [te]; decide) (by rw [te]; decide) (20 * (textM x).size+9) (by omega)
 unfold parseM
 rw [if_neg (by omega),a0,hrd]
 dsimp only
 rw [if_neg (fun e=>e te),if_neg (by rw [hs]; simp)]
end Go.Ai
end
section
namespace Go.Ai
set_option maxRecDepth 10000
set_option maxHeartbeats 4000000
def tokC (s:ByteArray) (k:Nat) : List AV:=[.lit (.string (tokB s k)),.lit (.int .i64 (k:Nat))]
def toksC (s:ByteArray) (l:List Nat) : List AV:=l.flatMap (tokC s)
structure RAt (s:ByteArray) (pos:List Nat) (ta:Nat) (g:Nat→Option Blk) (n:Nat) : Prop where
 tan:ta < n
 toks:Row g ta 0 (toksC s pos)
theorem RAt.keep {s:ByteArray} {pos:List Nat} {ta:Nat} {g g' : Nat→Option Blk} {n n' : Nat} (h:RAt s pos ta g n) (hn:n≤n') (hg:∀ a,a < n→g' a=g a) : RAt s pos ta g' n' :=
 ⟨by have:=h.tan; omega,h.toks.mono (hg _ h.tan)⟩
end Go.Ai
end
section
namespace Go.Ai
section
variable {P:Program} {H:Mem} {ev:Ev} {d:Option Tmp} {ty:TypeId} {p:String} {af:Array Edge} {g:Option (Nat×Bool)}
noncomputable def capS (P:Program) (H:Mem) (ev:Ev) (o:Oper) (q:Option TypeDesc) (x:Option AV) : R:=match x,q with
 | some (.sl _ _ _ n),some (.slice _)=>.val (.lit (.int .i64 n)) H
 | some (.lit (.slice none _ n)),some (.slice _)=>.val (.lit (.int .i64 n)) H
 | _,_=>opV P H ev o
theorem op_cap {x:Operand} {t:TypeId} : opV P H ev ⟨d,.call ⟨.builtin .cap,#[x],#[t]⟩,ty,p,af,g⟩=capS P H ev ⟨d,.call ⟨.builtin .cap,#[x],#[t]⟩,ty,p,af,g⟩ (P.underlying t) (ev x):=by
 unfold capS
 split
 ·rename_i a off n k e hx hq
  show callOp P H ev ⟨d,.call ⟨.builtin .cap,#[x],#[t]⟩,ty,p,af,g⟩ ⟨.builtin .cap,#[x],#[t]⟩=_
  have e1:evals ev [x]=some [.sl a off n k]:=by rw [evals,hx]; rfl
  have hg:generic P ev ⟨d,.call ⟨.builtin .cap,#[x],#[t]⟩,ty,p,af,g⟩=none:=by
   unfold generic
   have h1:(Op.operands (.call ⟨.builtin .cap,#[x],#[t]⟩)).toList=[x]:=by simp [Op.operands,Call.operands]
   dsimp only
   rw [h1]
   have l1:toLit (.sl a off n k)=none:=rfl
   simp only [List.all_cons,List.all_nil,hx,l1,Bool.false_and,if_false]
   simp
  unfold callOp
  rw [show (#[x] : Array Operand).toList=[x] from rfl,e1]
  dsimp only
  unfold oBuiltin oCap
  dsimp only
  rw [hg]
  have e2:((⟨.builtin .cap,#[x],#[t]⟩ : Call).argTypes[0]?).bind P.underlying=P.underlying t:=rfl
  dsimp only
  rw [e2,hq]
  rfl
 ·rename_i m n e hx hq
  show callOp P H ev ⟨d,.call ⟨.builtin .cap,#[x],#[t]⟩,ty,p,af,g⟩ ⟨.builtin .cap,#[x],#[t]⟩=_
  have e1:evals ev [x]=some [.lit (.slice none m n)]:=by rw [evals,hx]; rfl
  have hg:generic P ev ⟨d,.call ⟨.builtin .cap,#[x],#[t]⟩,ty,p,af,g⟩=some (.lit (.int .i64 n)):=by
   refine generic1 (u:=.slice none m n) (r:=.int .i64 n) (by simp [Op.operands,Call.operands]) hx fun ρ hρ=>?_
   rw [exec_builtin (b:=.cap) (c:=⟨.builtin .cap,#[x],#[t]⟩) rfl rfl]
   have ea:(#[x] : Array Operand).map ρ=#[ρ x]:=by simp
   rw [ea]
   have hcap:pureV P (Builtin.cap_ #[t] ty #[ρ x])=some (goInt n):=by
    rw [hρ]
    refine (pureV_then (m:=underlying t) (a:=TypeDesc.slice e) (pureV_underlying hq)).trans ?_
    rfl
   show pureV P (do pure (Next.value (← Builtin.cap_ #[t] ty #[ρ x])))=_
   exact (pureV_then hcap).trans rfl
  unfold callOp
  rw [show (#[x] : Array Operand).toList=[x] from rfl,e1]
  dsimp only
  unfold oBuiltin oCap
  dsimp only
  rw [hg]
 ·rfl
theorem capS_congr {tk:Nat} (_h0:tick=tk) {o:Oper} {q q' : Option TypeDesc} {x x' : Option AV} {H H' : Mem} (h1:H=H') (h2:q=q') (h3:x=x') : capS P H ev o q x=capS P H' ev o q' x':=by rw [h1,h2,h3]
attribute [congr] capS_congr
theorem capS_sl {o:Oper} {e:TypeId} {a off n k:Nat} : capS P H ev o (some (.slice e)) (some (.sl a off n k))=.val (.lit (.int .i64 k)) H:=(rfl)
theorem capS_nil {o:Oper} {e:TypeId} {n k:Nat} : capS P H ev o (some (.slice e)) (some (.lit (.slice none n k)))=.val (.lit (.int .i64 k)) H:=(rfl)
attribute [simp] op_cap capS_sl capS_nil
end
end Go.Ai
end
section
namespace Go.Ai
open Go.RowKit (Below)
variable {B G:Nat} {P:Program} {n n0:Nat} {ρ0 ρ:Rn} {w0 w:World} {fr:Fr} {H:Mem} {a:Act} {W:WF}
end Go.Ai
end
section
namespace Go.Ai
set_option maxRecDepth 10000
theorem repL_append {g:Nat→Option Blk} {b:Nat} : ∀ {l m:List NodeM} {r s:List AV},repL g b l r→repL g b m s→repL g b (l++m) (r++s)
 | [],m,r,s,h,k=>by have h' : r=[]:=h; subst h'; exact k
 | x :: l,m,r,s,⟨c,q,h1,h2,h3⟩,k=>⟨c,q++s,by rw [h1,List.append_assoc],h2,repL_append h3 k⟩
theorem repL_split {g:Nat→Option Blk} {b:Nat} : ∀ {l m:List NodeM} {r:List AV},repL g b (l++m) r→∃ r1 r2,r=r1++r2∧repL g b l r1∧repL g b m r2
 | [],m,r,h=>⟨[],r,rfl,rfl,h⟩
 | x :: l,m,r,⟨c,q,h1,h2,h3⟩=>by
  obtain ⟨r1,r2,h4,h5,h6⟩:=repL_split h3
  exact ⟨c++r1,r2,by rw [h1,h4,List.append_assoc],⟨c,r1,rfl,h2,h5⟩,h6⟩
theorem repL_one' {g:Nat→Option Blk} {b:Nat} {x:NodeM} {cs:List AV} (h:repL g b [x] cs) : repN g b x cs:=by
 obtain ⟨c,r,h1,h2,h3⟩:=h
 have h3' : r=[]:=h3
 subst h3'
 rw [h1,List.append_nil]; exact h2
structure StkR (g gk:Nat→Option Blk) (lo n A:Nat) (sv:AV) (l:List NodeM) (r:List AV) : Prop where
 grow:GrowV g lo n A sv l.length 4 r
 rep:repL gk n l.reverse r
 kk:∀ q z,gk q=some z→g q=some z∧q≠A∧lo≤q∧q < n
theorem StkR.start {g:Nat→Option Blk} {lo n:Nat} : StkR g (fun _=>none) lo n 0 (.lit (.slice none 0 0)) [] []:=⟨.inl ⟨rfl,rfl,rfl⟩,rfl,fun _ _ h=>by cases h⟩
theorem StkR.push {g gk g2:Nat→Option Blk} {lo n n2 A B:Nat} {sv:AV} {l:List NodeM} {r X:List AV} {x:NodeM} (h:StkR g gk lo n A sv l r) (h1:n≤B) (h2:B < n2) (hlo:lo≤n) (hg:∀ q,lo≤q→q < n→q≠A→g2 q=g q)
  (hB:g2 B=some (.cells (r++X) true 4)) (hX:X.length=4) (hx:∀ q b,repN q b x X) : StkR g2 gk lo n2 B (.slq B 0 (l.length+1) 0) (x :: l) (r++X):=by
 have hl:=repL_len h.rep
 rw [List.length_reverse] at hl
 refine ⟨.mk hB (by omega) h2 ?_,?_,fun q z hz=>?_⟩
 ·rw [List.length_append,hl,hX]; omega
 ·rw [List.reverse_cons]
  exact repL_append (repL_ext (by omega) (fun _ _ _ h=>h) h.rep) (repL_one (hx _ _))
 ·obtain ⟨k1,k2,k3,k4⟩:=h.kk q z hz
  exact ⟨(hg q k3 k4 k2).trans k1,by omega,k3,by omega⟩
theorem StkR.pop {g gk g2:Nat→Option Blk} {lo n n2 A B S op k:Nat} {sv:AV} {l t subs:List NodeM} {r r0 cs:List AV} (h:StkR g gk lo n A sv l r) (h1:n≤S) (h2:S < n2) (h3:n≤B) (h4:B < n2) (h5:S≠B) (hlo:lo≤n)
  (hg:∀ q,lo≤q→q < n→q≠A→g2 q=g q) (hS:g2 S=some (.cells cs true 0)) (hB:g2 B=some (.cells (r0++[.lit (.int .u8 op),.lit (.int .i64 0),.lit (.int .i64 0),.sl S 0 k k]) true 4))
  (h0:repL gk n t.reverse r0) (hs:repL gk n subs cs) (hk:subs.length=k) (hop:op < 256) :
  StkR g2 (gput gk S (some (.cells cs true 0))) lo n2 B (.slq B 0 (t.length+1) 0) (.mk op 0 0 subs :: t) (r0++[.lit (.int .u8 op),.lit (.int .i64 0),.lit (.int .i64 0),.sl S 0 k k]):=by
 have hl:=repL_len h0
 rw [List.length_reverse] at hl
 have hext:∀ a z,a < n→gk a=some z→gput gk S (some (.cells cs true 0)) a=some z:=fun a z ha hz=>by rw [gput_lt (by omega)]; exact hz
 refine ⟨.mk hB (by omega) h4 ?_,?_,fun q z hz=>?_⟩
 ·rw [List.length_append,hl]; simp; omega
 ·rw [List.reverse_cons]
  exact repL_append (repL_ext (by omega) hext h0) (repL_one (node_rep hs hk hop h1 h2))
 ·rcases gput_v hz with ⟨rfl,h⟩ | ⟨_,hz⟩
  ·cases h; exact ⟨hS,h5,by omega,h2⟩
  ·obtain ⟨k1,k2,k3,k4⟩:=h.kk q z hz
   exact ⟨(hg q k3 k4 k2).trans k1,by omega,k3,by omega⟩
theorem StkR.last {g gk:Nat→Option Blk} {lo n A:Nat} {sv:AV} {x:NodeM} {t:List NodeM} {r:List AV} (h:StkR g gk lo n A sv (x :: t) r) : ∃ r0 cx,sv=.slq A 0 (t.length+1) 0∧lo≤A∧A < n∧g A=some (.cells r true 4)∧r.length=(t.length+1) * 4 ∧
  r.take (t.length * 4)=r0∧(r.drop (t.length * 4)).take 4=cx∧repL gk n t.reverse r0∧repN gk n x cx:=by
 rcases h.grow with ⟨h9,_⟩ | ⟨_,h1,hA0,hA1,hA,hrl⟩
 ·simp at h9
 ·have hrep:=h.rep
  rw [List.reverse_cons] at hrep
  obtain ⟨r1,r2,rfl,h2,h3⟩:=repL_split hrep
  have h4:=repL_len h2
  have h5:=repL_len h3
  rw [List.length_reverse] at h4
  refine ⟨r1,r2,h1,hA0,hA1,hA,hrl,?_,?_,h2,repL_one' h3⟩
  ·rw [List.take_left' h4]
  ·rw [List.drop_left' h4,List.take_of_length_le (by rw [h5]; simp)]
theorem StkR.last2 {g gk:Nat→Option Blk} {lo n A:Nat} {sv:AV} {x y:NodeM} {t:List NodeM} {r:List AV} (h:StkR g gk lo n A sv (y :: x :: t) r) : ∃ r0 cx cy,sv=.slq A 0 (t.length+1+1) 0∧lo≤A∧A < n∧g A=some (.cells r true 4)∧r.length=(t.length+1+1) * 4 ∧
  r.take (t.length * 4)=r0∧(r.drop (t.length * 4)).take 4=cx∧(r.drop ((t.length+1) * 4)).take 4=cy∧repL gk n t.reverse r0∧repN gk n x cx∧repN gk n y cy:=by
 obtain ⟨r0,cy,h1,h2,h3,h4,h5,h6,h7,h8,h9⟩:=h.last
 rw [List.reverse_cons] at h8
 obtain ⟨r1,r2,rfl,k2,k3⟩:=repL_split h8
 have k4:=repL_len k2
 have k5:=repL_len k3
 rw [List.length_reverse] at k4
 have k6:r=(r1++r2)++r.drop ((t.length+1) * 4):=by
  have:=List.take_append_drop ((t.length+1) * 4) r
  have h6' : r.take ((t.length+1) * 4)=r1++r2:=h6
  rw [h6'] at this
  exact this.symm
 refine ⟨r1,r2,cy,h1,h2,h3,h4,h5,?_,?_,h7,k2,repL_one' k3,h9⟩
 ·rw [k6,List.append_assoc,List.take_left' k4]
 ·rw [k6,List.append_assoc,List.drop_left' k4,List.take_left' (by rw [k5]; simp)]
def stepG (o:Nat) (kN kI kO:Int) (l:List NodeM) : List NodeM :=
 if o=5∨o=6∨o=10∨o=14 then match l with | y :: x :: t=>.mk o 0 0 [x,y] :: t | l=>.mk 1 kN 0 [] :: l
 else if 4≤o then match l with | x :: t=>.mk o 0 0 [x] :: t | []=>[.mk 1 kN 0 []]
 else if o=2 then .mk 2 kI 0 [] :: l
 else if o=3 then .mk 3 kI kO [] :: l
 else if o=0 then .mk 0 0 0 [] :: l
 else .mk 1 kN 0 [] :: l
def stepF (N I O c:Nat) (l:List NodeM) : List NodeM:=stepG (c % 15) ((c / 15 % N:Nat) : Int) ((c / 15 % I:Nat) : Int) ((c / 15 / 3 % O:Nat) : Int) l
def ofS (N I O:Nat) : List Nat→List NodeM→List NodeM
 | [],l=>l
 | c :: cs,l=>ofS N I O cs (stepF N I O c l)
def topN:List NodeM→NodeM
 | x :: _=>x
 | []=>.mk 0 0 0 []
def ofF (st inp out:Nat) (codes:List Nat) : NodeM:=topN (ofS (1+st % 6) (1+inp % 3) (1+out % 3) (codes.take 12) [])
end Go.Ai
end
section
namespace Go.Ai
set_option maxRecDepth 10000
def StkOK (st inp out:Int) (m:Nat) (l:List NodeM) : Prop:=(∀ x∈l,validM st inp out x=true)∧sizeL l≤m
theorem valid_mk {st inp out:Int} {o:Nat} {a b:Int} {l:List NodeM} (h1:o < 15) (h2:l.length=subsM o) (h3:0≤a) (h4:0≤b) (h5:a < if o=1 then st else if o=2∨o=3 then inp else 1) (h6:b < if o=3 then out else 1)
  (h7:∀ x∈l,validM st inp out x=true) : validM st inp out (.mk o a b l)=true:=by
 have h8:validL st inp out l=true:=by
  clear h2 h3 h4 h5 h6 h1
  induction l with
  | nil=>rfl
  | cons x l ih =>
   unfold validL
   rw [h7 x (List.mem_cons_self ..),ih (fun y hy=>h7 y (List.mem_cons_of_mem _ hy))]
   rfl
 unfold validM
 simp only [Bool.and_eq_true,decide_eq_true_eq]
 exact ⟨h1,h2,h3,h4,h5,h6,h8⟩
theorem stepF_ok {N I O:Nat} (hN:0 < N) (hI:0 < I) (hO:0 < O) (c m:Nat) {l:List NodeM} (h:StkOK N I O m l) : StkOK N I O (m+1) (stepF N I O c l):=by
 have ho:c % 15 < 15:=Nat.mod_lt _ (by omega)
 have kN:=Nat.mod_lt (c / 15) hN
 have kI:=Nat.mod_lt (c / 15) hI
 have kO:=Nat.mod_lt (c / 15 / 3) hO
 have h1:validM N I O (.mk 1 ((c / 15 % N:Nat) : Int) 0 [])=true:=valid_mk (by omega) rfl (by omega) (by omega) (by rw [if_pos rfl]; exact Int.ofNat_lt.2 kN) (by rw [if_neg (by decide)]; decide) (by simp)
 have push:∀ {x:NodeM} {t:List NodeM},validM N I O x=true→sizeN x+sizeL t≤m+1→(∀ y∈t,y∈l)→StkOK N I O (m+1) (x :: t):=fun {x t} hx hs ht =>
  ⟨fun y hy=>by
   rcases List.mem_cons.1 hy with rfl | hy
   ·exact hx
   ·exact h.1 y (ht y hy),by unfold sizeL; exact hs⟩
 have hsz:=h.2
 unfold stepF stepG
 split
 ·rename_i hb
  have hsub:subsM (c % 15)=2:=by unfold subsM; rw [if_neg (by omega)]; rw [if_pos hb]
  split
  ·rename_i y x t
   simp only [sizeL] at hsz
   refine push (valid_mk ho (by rw [hsub]; rfl) (by omega) (by omega) ?_ ?_ fun z hz=>?_) ?_ (fun z hz=>by simp [hz])
   ·rw [if_neg (by omega),if_neg (by omega)]; omega
   ·rw [if_neg (by omega)]; omega
   ·rcases List.mem_cons.1 hz with rfl | hz
    ·exact h.1 _ (by simp)
    ·rcases List.mem_cons.1 hz with rfl | hz
     ·exact h.1 _ (by simp)
     ·cases hz
   ·simp only [sizeN,sizeL]; omega
  ·exact push h1 (by simp only [sizeN,sizeL]; omega) (fun _ hy=>hy)
 split
 ·rename_i hb h4
  have hsub:subsM (c % 15)=1:=by unfold subsM; rw [if_neg (by omega),if_neg hb]
  split
  ·rename_i x t
   simp only [sizeL] at hsz
   refine push (valid_mk ho (by rw [hsub]; rfl) (by omega) (by omega) ?_ ?_ fun z hz=>?_) ?_ (fun z hz=>by simp [hz])
   ·rw [if_neg (by omega),if_neg (by omega)]; omega
   ·rw [if_neg (by omega)]; omega
   ·rcases List.mem_cons.1 hz with rfl | hz
    ·exact h.1 _ (by simp)
    ·cases hz
   ·simp only [sizeN,sizeL]; omega
  ·exact push h1 (by simp only [sizeN,sizeL]; omega) (fun _ hy=>by cases hy)
 have leaf:∀ {x:NodeM},validM N I O x=true→sizeN x=1→StkOK N I O (m+1) (x :: l):=fun hx h1=>push hx (by omega) (fun _ hy=>hy)
 split
 ·exact leaf (valid_mk (by omega) rfl (by omega) (by omega) (by rw [if_neg (by decide),if_pos (by decide)]; exact Int.ofNat_lt.2 kI) (by rw [if_neg (by decide)]; decide) (by simp)) rfl
 split
 ·exact leaf (valid_mk (by omega) rfl (by omega) (by omega) (by rw [if_neg (by decide),if_pos (by decide)]; exact Int.ofNat_lt.2 kI) (by rw [if_pos rfl]; exact Int.ofNat_lt.2 kO) (by simp)) rfl
 split
 ·exact leaf (valid_mk (by omega) rfl (by omega) (by omega) (by rw [if_neg (by decide),if_neg (by decide)]; decide) (by rw [if_neg (by decide)]; decide) (by simp)) rfl
 ·exact leaf h1 rfl
theorem ofS_ok {N I O:Nat} (hN:0 < N) (hI:0 < I) (hO:0 < O) : ∀ (cs:List Nat) (m:Nat) {l:List NodeM},StkOK N I O m l→StkOK N I O (m+cs.length) (ofS N I O cs l)
 | [],m,l,h=>h
 | c :: cs,m,l,h=>by
  have:=ofS_ok hN hI hO cs (m+1) (stepF_ok hN hI hO c m h)
  unfold ofS
  rw [List.length_cons,show m+(cs.length+1)=m+1+cs.length by omega]
  exact this
theorem ofF_ok (st inp out:Nat) (codes:List Nat) : validM ((1+st % 6:Nat) : Int) ((1+inp % 3:Nat) : Int) ((1+out % 3:Nat) : Int) (ofF st inp out codes)=true∧sizeN (ofF st inp out codes)≤12:=by
 have h:=ofS_ok (N:=1+st % 6) (I:=1+inp % 3) (O:=1+out % 3) (by omega) (by omega) (by omega) (codes.take 12) 0 (l:=[]) ⟨fun _ h=>(by cases h),Nat.le_refl _⟩
 unfold ofF
 cases hl:ofS (1+st % 6) (1+inp % 3) (1+out % 3) (codes.take 12) [] with
 | nil=>exact ⟨valid_mk (by omega) rfl (by omega) (by omega) (by rw [if_neg (by decide),if_neg (by decide)]; decide) (by rw [if_neg (by decide)]; decide) (by simp),by show sizeN (.mk 0 0 0 [])≤12; decide⟩
 | cons x l =>
  rw [hl] at h
  refine ⟨h.1 x (List.mem_cons_self ..),?_⟩
  have h2:=h.2
  rw [List.length_take] at h2
  unfold sizeL at h2
  show sizeN x≤12
  omega
mutual
theorem valid_mono {a b c a' b' c' : Int} (h1:a≤a') (h2:b≤b') (h3:c≤c') : ∀ (x:NodeM),validM a b c x=true→validM a' b' c' x=true
 | .mk op p q l=>fun h=>by
  unfold validM at h ⊢
  simp only [Bool.and_eq_true,decide_eq_true_eq] at h ⊢
  obtain ⟨e1,e2,e3,e4,e5,e6,e7⟩:=h
  refine ⟨e1,e2,e3,e4,?_,?_,validL_mono h1 h2 h3 l e7⟩
  ·split at e5
   ·rw [if_pos (by assumption)]; omega
   ·rename_i hn
    rw [if_neg hn]
    split at e5
    ·rw [if_pos (by assumption)]; omega
    ·rw [if_neg (by assumption)]; omega
  ·split at e6
   ·rw [if_pos (by assumption)]; omega
   ·rw [if_neg (by assumption)]; omega
theorem validL_mono {a b c a' b' c' : Int} (h1:a≤a') (h2:b≤b') (h3:c≤c') : ∀ (l:List NodeM),validL a b c l=true→validL a' b' c' l=true
 | [],h=>h
 | x :: l,h=>by
  unfold validL at h ⊢
  rw [Bool.and_eq_true] at h ⊢
  exact ⟨valid_mono h1 h2 h3 x h.1,validL_mono h1 h2 h3 l h.2⟩
end
end Go.Ai
end
section
namespace Go.Ai
variable {P:Program} {H:Mem}
section
variable {ev:Ev} {d:Option Tmp} {ty:TypeId} {p:String} {af:Array Edge} {g:Option (Nat×Bool)}
def imap (l:List (Int×AV×Nat)) : List (AV×AV×Nat):=l.map fun x=>(.lit (.int .i64 x.1),x.2.1,x.2.2)
theorem litAll_ints:∀ l:List (Int×AV×Nat),litAll ((imap l).map (·.1))=some (l.map fun x=>Value.int .i64 x.1)
 | []=>rfl
 | x :: l=>by
  have:=litAll_ints l
  simp only [imap,List.map_cons] at this ⊢
  simp only [litAll]
  rw [this]
def iAt (s:Int) : List (Int×AV×Nat)→Nat→Option Nat
 | [],_=>none
 | x :: l,i=>if s=x.1 then some i else iAt s l (i+1)
def iGet (s:Int) : List (Int×AV×Nat)→Option AV
 | []=>none
 | x :: l=>if s=x.1 then some x.2.1 else iGet s l
theorem findNow_ints {k:IntKind} (s:Int) : ∀ (l:List (Int×AV×Nat)) (i:Nat),Instr.findNow (.int k) (.int .i64 s) ((l.map fun x=>Value.int .i64 x.1).map fun q=>(⟨q,undef,0⟩ : MapEntry)) i=some ((iAt s l i).map fun j=>(j,undef))
 | [],i=>rfl
 | x :: l,i=>by
  have ih:=findNow_ints (k:=k) s l (i+1)
  simp only [List.map_cons] at ih ⊢
  unfold Instr.findNow iAt
  show (match (if IntKind.i64=IntKind.i64 then some (s == x.1) else none:Option Bool) with | some true=>_ | some false=>_ | none=>none)=_
  rw [if_pos rfl]
  by_cases h:s=x.1
  ·rw [if_pos h]
   have:(s == x.1)=true:=by simp [h]
   rw [this]; rfl
  ·rw [if_neg h]
   have:(s == x.1)=false:=by simp [h]
   rw [this]; exact ih
theorem findK_ints {kt:TypeId} {k:IntKind} (hk:P.underlying kt=some (.int k)) (s:Int) (l:List (Int×AV×Nat)) : findK P kt (.int .i64 s) (imap l)=some (iAt s l 0):=by
 unfold findK
 rw [litAll_ints]
 dsimp only
 have:pureV P (Instr.findKey kt (.int .i64 s) ((l.map fun x=>Value.int .i64 x.1).map fun q=>(⟨q,undef,0⟩ : MapEntry)))=some ((iAt s l 0).map fun j=>(j,undef)):=by
  unfold Instr.findKey
  rw [pureV_then (pureV_underlying hk),findNow_ints]
  rfl
 rw [this]
 cases iAt s l 0 <;> rfl
theorem checkKey_int {kt:TypeId} {k:IntKind} {b:Bool} {n:Nat} {s:Int} (hk:P.underlying kt=some (.int k)) : pureV P (Instr.checkKey b (n+1) kt (.int .i64 s))=some ():=by
 unfold Instr.checkKey
 rw [pureV_then (pureV_underlying hk)]
 rfl
theorem iAt_spec (s:Int) : ∀ (l:List (Int×AV×Nat)) (i:Nat),match iAt s l i with | some j=>i≤j∧∃ x,l[j - i]?=some x∧iGet s l=some x.2.1 | none=>iGet s l=none
 | [],i=>by simp [iAt,iGet]
 | x :: l,i=>by
  unfold iAt iGet
  by_cases h:s=x.1
  ·rw [if_pos h,if_pos h]; exact ⟨Nat.le_refl _,x,by simp,rfl⟩
  ·rw [if_neg h,if_neg h]
   have ih:=iAt_spec s l (i+1)
   cases hk:iAt s l (i+1) with
   | none=>rw [hk] at ih; exact ih
   | some j =>
    rw [hk] at ih
    obtain ⟨h1,y,h2,h3⟩:=ih
    exact ⟨by omega,y,by rw [show j - i=(j - (i+1))+1 by omega]; simpa using h2,h3⟩
theorem lookup_ints {t kt et:TypeId} {k:IntKind} {a:Nat} {s:Int} {l:List (Int×AV×Nat)} {c:Nat} {z:Value} {ok:Bool} (ht:P.underlying t=some (.map kt et)) (hk:P.underlying kt=some (.int k)) (hz:zeroV P et=some z) (hg:H.get a=some (.map (imap l) c)) :
  lookup P H t (.map a) (.lit (.int .i64 s)) ok=some (withOk ok ((iGet s l).getD (.lit z)) (iGet s l).isSome):=by
 unfold lookup
 rw [ht]
 dsimp only [toLit]
 rw [hg]
 dsimp only
 rw [checkKey_int (n:=9999) hk,findK_ints hk]
 dsimp only
 have hs:=iAt_spec s l 0
 cases hka:iAt s l 0 with
 | none =>
  rw [hka] at hs
  dsimp only at hs
  unfold lookupIn
  dsimp only
  rw [hz,hs]; rfl
 | some j =>
  rw [hka] at hs
  obtain ⟨_,x,hx,hxs⟩:=hs
  rw [Nat.sub_zero] at hx
  unfold lookupIn
  dsimp only
  rw [nth_eq]
  have:(imap l)[j]?=some (.lit (.int .i64 x.1),x.2.1,x.2.2):=by
   unfold imap; simp [hx]
  rw [this,hxs]; rfl
theorem mapUpdate_ints {t kt et:TypeId} {k:IntKind} {a:Nat} {s:Int} {v:AV} {l:List (Int×AV×Nat)} {c:Nat} (ht:P.underlying t=some (.map kt et)) (hk:P.underlying kt=some (.int k)) (hg:H.get a=some (.map (imap l) c)) (hn:iGet s l=none) :
  mapUpdate P H t (.map a) (.lit (.int .i64 s)) v=some (H.upd a (.map (imap (l++[(s,v,c)])) (c+1))):=by
 unfold mapUpdate
 rw [ht]
 dsimp only [toLit]
 rw [hg]
 dsimp only
 rw [checkKey_int (n:=9999) hk,findK_ints hk]
 have hs:=iAt_spec s l 0
 cases hka:iAt s l 0 with
 | none =>
  unfold updIn
  dsimp only
  rw [Mem.setK_eq]
  have:imap l++[(.lit (.int .i64 s),v,c)]=imap (l++[(s,v,c)]):=by simp [imap]
  rw [this]
 | some j =>
  exfalso
  rw [hka] at hs
  obtain ⟨_,x,hx,hxs⟩:=hs
  rw [hn] at hxs; cases hxs
noncomputable def isImap (P:Program) (t:TypeId) : Option Value:=match P.underlying t with
 | some (.map kt et)=>match P.underlying kt with
  | some (.int _)=>zeroV P et
  | _=>none
 | _=>none
theorem isImap_inv {t:TypeId} {z:Value} (h:isImap P t=some z) : ∃ kt et k,P.underlying t=some (.map kt et)∧P.underlying kt=some (.int k)∧zeroV P et=some z:=by
 unfold isImap at h
 split at h
 ·rename_i kt et hu
  split at h
  ·rename_i k hk
   exact ⟨kt,et,k,hu,hk,h⟩
  ·cases h
 ·cases h
noncomputable def lkI (P:Program) (H:Mem) (ev:Ev) (o:Oper) (b:Bool) (q:Option Value) (x:Option AV) : R:=match q,x with
 | some _,some v=>.val (withOk b v true) H
 | some z,none=>.val (withOk b (.lit z) false) H
 | none,_=>opV P H ev o
theorem lookup_ix {t:TypeId} {m k:Operand} {a:Nat} {s:Int} {l:List (Int×AV×Nat)} {c:Nat} {b:Bool} {hm:ev m=some (.map a)} {hk:ev k=some (.lit (.int .i64 s))} {hg:H.get a=some (.map (imap l) c)} :
  exB2 P H ev ⟨d,.lookup t m k b,ty,p,af,g⟩ m k a (.lit (.int .i64 s)) (some (.map (imap l) c)) hm hk hg=lkI P H ev ⟨d,.lookup t m k b,ty,p,af,g⟩ b (isImap P t) (iGet s l):=by
 cases hq:isImap P t with
 | none=>rfl
 | some z =>
  have key:exB2 P H ev ⟨d,.lookup t m k b,ty,p,af,g⟩ m k a (.lit (.int .i64 s)) (some (.map (imap l) c)) hm hk hg=.val (withOk b ((iGet s l).getD (.lit z)) (iGet s l).isSome) H:=by
   show oLookup P H ev _ t (ev m) (ev k) b=_
   obtain ⟨kt,et,k',h1,h2,h3⟩:=isImap_inv hq
   unfold oLookup orElse
   rw [generic_none (x:=m) (by simp [Op.operands]) (fun v' h=>by rw [hm] at h; cases h; rfl),hm,hk]
   dsimp only
   rw [lookup_ints h1 h2 h3 hg]; rfl
  rw [key]
  cases iGet s l <;> rfl
theorem lkI_congr {tk:Nat} (_h0:tick=tk) {o:Oper} {b:Bool} {q q' : Option Value} {x x' : Option AV} {H H' : Mem} (h1:H=H') (h2:q=q') (h3:x=x') : lkI P H ev o b q x=lkI P H' ev o b q' x':=by rw [h1,h2,h3]
attribute [congr] lkI_congr
theorem lkI_some {o:Oper} {b:Bool} {z:Value} {v:AV} : lkI P H ev o b (some z) (some v)=.val (withOk b v true) H:=(rfl)
theorem lkI_none {o:Oper} {b:Bool} {z:Value} : lkI P H ev o b (some z) none=.val (withOk b (.lit z) false) H:=(rfl)
noncomputable def muI (P:Program) (H:Mem) (ev:Ev) (o:Oper) (a:Nat) (s:Int) (v:AV) (l:List (Int×AV×Nat)) (c:Nat) (q:Option Value) (x:Option AV) : R:=match q,x with
 | some _,none=>.skip (H.upd a (.map (imap (l++[(s,v,c)])) (c+1)))
 | _,_=>opV P H ev o
theorem mapUpdate_ix {t:TypeId} {m k x:Operand} {a:Nat} {s:Int} {v:AV} {l:List (Int×AV×Nat)} {c:Nat} {hm:ev m=some (.map a)} {hk:ev k=some (.lit (.int .i64 s))} {hx:ev x=some v}
  {hg:H.get a=some (.map (imap l) c)} :
  exB3 P H ev ⟨d,.mapUpdate t m k x,ty,p,af,g⟩ m k x a (.lit (.int .i64 s)) v (some (.map (imap l) c)) hm hk hx hg=muI P H ev ⟨d,.mapUpdate t m k x,ty,p,af,g⟩ a s v l c (isImap P t) (iGet s l):=by
 cases hq:isImap P t with
 | none=>rfl
 | some z =>
  cases hn:iGet s l with
  | some y=>rfl
  | none =>
   show oMapUpdate P H t (ev m) (ev k) (ev x)=_
   obtain ⟨kt,et,k',h1,h2,h3⟩:=isImap_inv hq
   unfold oMapUpdate
   rw [hm,hk,hx]
   dsimp only
   rw [mapUpdate_ints h1 h2 hg hn]; rfl
theorem muI_congr {tk:Nat} (_h0:tick=tk) {o:Oper} {a:Nat} {s:Int} {v:AV} {l:List (Int×AV×Nat)} {c:Nat} {q q' : Option Value} {x x' : Option AV} {H H' : Mem} (h1:H=H') (h2:q=q') (h3:x=x') : muI P H ev o a s v l c q x=muI P H' ev o a s v l c q' x':=by rw [h1,h2,h3]
attribute [congr] muI_congr
theorem muI_none {o:Oper} {a:Nat} {s:Int} {v:AV} {l:List (Int×AV×Nat)} {c:Nat} {z:Value} : muI P H ev o a s v l c (some z) none=.skip (H.upd a (.map (imap (l++[(s,v,c)])) (c+1))):=(rfl)
attribute [simp] lookup_ix mapUpdate_ix lkI_some lkI_none muI_none
end
end Go.Ai
end
section
namespace Go.Ai
section
variable {P:Program} {H:Mem} {ev:Ev} {d:Option Tmp} {ty:TypeId} {p:String} {af:Array Edge} {g:Option (Nat×Bool)}
theorem op_slice_hm {t:TypeId} {x hi mx:Operand} : opV P H ev ⟨d,.slice t x none (some hi) (some mx),ty,p,af,g⟩=ex3 P H ev ⟨d,.slice t x none (some hi) (some mx),ty,p,af,g⟩ x hi mx (ev x) (ev hi) (ev mx) rfl rfl rfl:=(rfl)
theorem bounds_hm {i:Int} {n:Nat} {k:IntKind} (h1:i=n) : bounds none (some (.lit (.int k i))) (some (.lit (.int k i))) n n=some (0,n,n):=by
 unfold bounds natOr
 dsimp only
 rw [natOf_int (by omega),h1]
 simp only [okMx,Int.toNat_natCast,Nat.ble_eq_true_of_le (Nat.le_refl n),Nat.ble_eq_true_of_le (Nat.zero_le _),Bool.and_true]
theorem bounds_hm' {i:Int} {n c:Nat} {k:IntKind} (h1:i=n) (h2:n≤c) : bounds none (some (.lit (.int k i))) (some (.lit (.int k i))) n c=some (0,n,n):=by
 unfold bounds natOr
 dsimp only
 rw [natOf_int (by omega),h1]
 simp only [okMx,Int.toNat_natCast,Nat.ble_eq_true_of_le (Nat.le_refl n),Nat.ble_eq_true_of_le h2,Nat.ble_eq_true_of_le (Nat.zero_le _),Bool.and_true]
theorem slice_slq_hm {t:TypeId} {x hi mx:Operand} {a off n c:Nat} {k:IntKind} {i:Int} {hx:ev x=some (.slq a off n c)} {hh:ev hi=some (.lit (.int k i))} {hm:ev mx=some (.lit (.int k i))} (he:(elSz P t).map (·.1)=some none) (h1:i=n) (h2:0 < n) :
  ex3 P H ev ⟨d,.slice t x none (some hi) (some mx),ty,p,af,g⟩ x hi mx (some (.slq a off n c)) (some (.lit (.int k i))) (some (.lit (.int k i))) hx hh hm=.val (.sl a off n n) H:=by
 show opV P H ev _=_
 show oSlice P H ev _ t (ev x) none (some hi) (some mx)=_
 unfold oSlice
 rw [generic_none (x:=x) (by simp [Op.operands]) (fun v' h=>by rw [hx] at h; cases h; rfl),hx]
 obtain ⟨q,hq,hq2⟩:=Option.map_eq_some_iff.1 he
 obtain ⟨q1,q2⟩:=q
 dsimp only at hq2
 subst hq2
 obtain ⟨e,i',h3,h4,h5⟩:=elSz_inv hq
 dsimp only
 unfold oSliceN evOpt
 dsimp only
 rw [hh,hm]
 dsimp only
 rw [sliceOp_slice h3 h4]
 unfold sliceN
 dsimp only
 rw [bounds_hm h1]
 unfold sliceSl
 have hb:Nat.beq n 0=false:=by
  cases hb:Nat.beq n 0 with
  | false=>rfl
  | true=>have:=Nat.eq_of_beq_eq_true hb; omega
 dsimp only
 rw [hb]
 simp [natK_eq,ofOpt]
theorem slice_sl_hm {t:TypeId} {x hi mx:Operand} {a off n c:Nat} {k:IntKind} {i:Int} {hx:ev x=some (.sl a off n c)} {hh:ev hi=some (.lit (.int k i))} {hm:ev mx=some (.lit (.int k i))} (he:(elSz P t).map (·.1)=some none) (h1:i=n) (h2:0 < n) (h3:n≤c) :
  ex3 P H ev ⟨d,.slice t x none (some hi) (some mx),ty,p,af,g⟩ x hi mx (some (.sl a off n c)) (some (.lit (.int k i))) (some (.lit (.int k i))) hx hh hm=.val (.sl a off n n) H:=by
 show opV P H ev _=_
 show oSlice P H ev _ t (ev x) none (some hi) (some mx)=_
 unfold oSlice
 rw [generic_none (x:=x) (by simp [Op.operands]) (fun v' h=>by rw [hx] at h; cases h; rfl),hx]
 obtain ⟨q,hq,hq2⟩:=Option.map_eq_some_iff.1 he
 obtain ⟨q1,q2⟩:=q
 dsimp only at hq2
 subst hq2
 obtain ⟨e,i',h3,h4,h5⟩:=elSz_inv hq
 dsimp only
 unfold oSliceN evOpt
 dsimp only
 rw [hh,hm]
 dsimp only
 rw [sliceOp_slice h3 h4]
 unfold sliceN
 dsimp only
 rw [bounds_hm' h1 (by assumption)]
 unfold sliceSl
 have hb:Nat.beq n 0=false:=by
  cases hb:Nat.beq n 0 with
  | false=>rfl
  | true=>have:=Nat.eq_of_beq_eq_true hb; omega
 dsimp only
 rw [hb]
 simp [natK_eq,ofOpt]
theorem slice_nil_hm {t:TypeId} {x hi mx:Operand} {hx:ev x=some (.lit (.slice none 0 0))} {hh:ev hi=some (.lit (.int .i64 0))} {hm:ev mx=some (.lit (.int .i64 0))} (he:(elSz P t).map (·.1)=some none) :
  ex3 P H ev ⟨d,.slice t x none (some hi) (some mx),ty,p,af,g⟩ x hi mx (some (.lit (.slice none 0 0))) (some (.lit (.int .i64 0))) (some (.lit (.int .i64 0))) hx hh hm=.val (.lit (.slice none 0 0)) H:=by
 show opV P H ev _=_
 show oSlice P H ev _ t (ev x) none (some hi) (some mx)=_
 unfold oSlice
 rw [generic3 (r:=.slice none 0 0) (x:=x) (y:=hi) (z:=mx) (by simp [Op.operands]) hx hh hm fun ρ e1 e2 e3=>?_]
 show pureV P (do pure (Next.value (← Instr.sliceAt t (ρ x) none (some (ρ hi)) (some (ρ mx)))))=_
 rw [e1,e2,e3]
 obtain ⟨q,hq,hq2⟩:=Option.map_eq_some_iff.1 he
 obtain ⟨q1,q2⟩:=q
 dsimp only at hq2
 subst hq2
 obtain ⟨e,i,ht,hi',h5⟩:=elSz_inv hq
 have key:pureV P (Instr.slice t (.slice none 0 0) none (some (.int .i64 0)) (some (.int .i64 0)))=some (.slice none 0 0):=by
  unfold Instr.slice
  refine (pureV_then (m:=underlying t) (a:=TypeDesc.slice e) (pureV_underlying ht)).trans ?_
  dsimp only
  refine (pureV_then (a:=(0,0,0)) ?_).trans ?_
  ·rfl
  ·refine (pureV_then (m:=sizeOf e) (a:=i.size) ?_).trans ?_
   ·exact (pureV_then (pureV_info hi')).trans rfl
   ·rfl
 have key2:pureV P (Instr.sliceAt t (.slice none 0 0) none (some (.int .i64 0)) (some (.int .i64 0)))=some (.slice none 0 0):=by
  unfold Instr.sliceAt
  refine (pureV_then (m:=underlying t) (a:=TypeDesc.slice e) (pureV_underlying ht)).trans ?_
  exact key
 rw [pureV_then key2]
 rfl
attribute [simp] op_slice_hm slice_slq_hm slice_sl_hm slice_nil_hm
end
end Go.Ai
end
section
namespace Go.Ai
set_option maxRecDepth 10000
theorem fEc {G:GraphM} (hG:G.ok) {a b a' b' L L' : SetS} (h:IsL G.n (G.fE a b) L) (ha:eqS G.n a a') (hb:eqS G.n b b') (hL:eqS G.n L L') : IsL G.n (G.fE a' b') L':=h.cong (fE_arg ha hb) (fun _ _=>fE_eq hG _ _) hL
def un (o:Nat) (x:NodeM) : NodeM:=.mk o 0 0 [x]
def bi (o:Nat) (x y:NodeM) : NodeM:=.mk o 0 0 [x,y]
variable {M:MachM} {f g:NodeM} {X Y:SetS}
end Go.Ai
end
section
namespace Go.Ai
set_option maxRecDepth 10000
theorem rep_un {g:Nat→Option Blk} {n o a c:Nat} {x:NodeM} {cs:List AV} (ho:o < 256) (h:g a=some (.cells cs true 0)) (ha:a < n) (hx:repN g n x cs) : repN g n (un o x) [.lit (.int .u8 o),.lit (.int .i64 0),.lit (.int .i64 0),.sl a 0 1 c] :=
 ⟨ho,_,rfl,.inr ⟨a,0,cs,ha,.inl ⟨c,rfl⟩,⟨cs,true,0,h,by simp,by simp⟩,repL_one hx⟩⟩
theorem rep_bi {g:Nat→Option Blk} {n o a c:Nat} {x y:NodeM} {a1 a2 a3 a4 b1 b2 b3 b4:AV} (ho:o < 256) (h:g a=some (.cells [a1,a2,a3,a4,b1,b2,b3,b4] true 0)) (ha:a < n) (hx:repN g n x [a1,a2,a3,a4]) (hy:repN g n y [b1,b2,b3,b4]) :
  repN g n (bi o x y) [.lit (.int .u8 o),.lit (.int .i64 0),.lit (.int .i64 0),.sl a 0 2 c] :=
 ⟨ho,_,rfl,.inr ⟨a,0,_,ha,.inl ⟨c,rfl⟩,⟨_,true,0,h,by simp,rfl⟩,⟨[a1,a2,a3,a4],[b1,b2,b3,b4],rfl,hx,repL_one hy⟩⟩⟩
theorem rep_leaf {g:Nat→Option Blk} {n:Nat} : repN g n (.mk 0 0 0 []) [.lit (.int .u8 0),.lit (.int .i64 0),.lit (.int .i64 0),.lit (.slice none 0 0)]:=⟨by omega,_,rfl,.inl ⟨rfl,.inl rfl⟩⟩
theorem size_un (o:Nat) (x:NodeM) : sizeN (un o x)=sizeN x+1:=by show sizeN (.mk o 0 0 [x])=_; simp only [sizeN,sizeL]; try omega
theorem size_bi (o:Nat) (x y:NodeM) : sizeN (bi o x y)=sizeN x+sizeN y+1:=by show sizeN (.mk o 0 0 [x,y])=_; simp only [sizeN,sizeL]; try omega
theorem valid_un {s i o:Int} {p:Nat} {x:NodeM} (h1:p < 15) (h2:subsM p=1) (hx:validM s i o x=true) : validM s i o (un p x)=true:=by
 have hp:p≠1∧p≠2∧p≠3:=by refine ⟨?_,?_,?_⟩ <;> (rintro rfl; revert h2; decide)
 show validM s i o (.mk p 0 0 [x])=true
 unfold validM validL validL
 rw [hx,h2,if_neg hp.1,if_neg (by omega),if_neg hp.2.2,decide_eq_true h1]
 rfl
theorem valid_bi {s i o:Int} {p:Nat} {x y:NodeM} (h1:p < 15) (h2:subsM p=2) (hx:validM s i o x=true) (hy:validM s i o y=true) : validM s i o (bi p x y)=true:=by
 have hp:p≠1∧p≠2∧p≠3:=by refine ⟨?_,?_,?_⟩ <;> (rintro rfl; revert h2; decide)
 show validM s i o (.mk p 0 0 [x,y])=true
 unfold validM validL validL validL
 rw [hx,hy,h2,if_neg hp.1,if_neg (by omega),if_neg hp.2.2,decide_eq_true h1]
 rfl
theorem valid_true {s i o:Int} : validM s i o (.mk 0 0 0 [])=true:=by
 unfold validM validL
 rfl
end Go.Ai
end
