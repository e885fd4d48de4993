/- A small verified interpreter over names, its proofs, and what was proved with it. No condition. -/
import Derived.Test.YtfhkfifjbgcpiaaDoorPD1
import Derived.Test.YtfhkfifjbgcpiaaDoorPC2
import Derived.Test.YtfhkfifjbgcpiaaDoorPC3
import Derived.Test.YtfhkfifjbgcpiaaDoorPD2
import Derived.Test.YtfhkfifjbgcpiaaDoorPC4
import Derived.Test.YtfhkfifjbgcpiaaDoorPC6
set_option linter.all false
set_option linter.deprecated false
section
namespace Go.Ai
section
variable {P:Program} {W:WF} {Q:Out→Prop} {fr:Fr} {H:Mem} {ev:Ev} {d:Option Tmp} {ty:TypeId} {p:String} {af:Array Edge} {g:Option (Nat×Bool)}
theorem generic3 {o:Oper} {x y z:Operand} {u u' u'' r:Value} (ho:o.op.operands=#[x,y,z]) (hx:ev x=some (.lit u)) (hy:ev y=some (.lit u')) (hz:ev z=some (.lit u''))
    (hr:∀ ρ:Operand→Value,ρ x=u→ρ y=u'→ρ z=u''→pureV P (execOp ρ o)=some (.value r)) : generic P ev o=some (.lit r):=by
  have h1:o.op.operands.toList=[x,y,z]:=by rw [ho]
  unfold generic
  simp only [h1,List.all_cons,List.all_nil,hx,hy,hz,toLit,Bool.and_true,if_true]
  rw [hr _ (by simp [hx]) (by simp [hy]) (by simp [hz])]
theorem bound_ok {k:IntKind} {i:Int} {y:Nat} {c:BoundsCode} (h0:0≤i) (h1:i≤y) : pureV P (Instr.sliceBound (.int k i) y c)=some i.toNat:=by
  show pureV P (do let (k,i) ← asIntOf (.int k i); if 0≤i∧i≤y then pure i.toNat else boundsPanic k i y c)=_
  rw [pureV_then (a:=(k,i)) rfl]
  show pureV P (if 0≤i∧i≤y then pure i.toNat else boundsPanic k i y c)=_
  rw [if_pos ⟨h0,h1⟩]
  rfl
theorem bounds_str {k k' : IntKind} {i j:Int} {n:Nat} (h0:0≤i) (h1:i≤j) (h2:j≤n) : pureV P (Instr.sliceBounds false n n (some (.int k i)) (some (.int k' j)) none)=some (i.toNat,j.toNat,n):=by
  unfold Instr.sliceBounds
  refine (pureV_then (a:=n) rfl).trans ?_
  refine (pureV_then (a:=j.toNat) (bound_ok (by omega) h2)).trans ?_
  refine (pureV_then (a:=i.toNat) (bound_ok h0 (by omega))).trans ?_
  rfl
noncomputable def subStr (P:Program) (H:Mem) (ev:Ev) (o:Oper) (td:Option TypeDesc) (s:ByteArray) (i j:Int) : R:=match td with
  | some .string=>if 0≤i∧i≤j∧j≤s.size then .val (.lit (.string (s.extract i.toNat j.toNat))) H else opV P H ev o
  | _=>opV P H ev o
theorem slice_str {t:TypeId} {x lo hi:Operand} {s:ByteArray} {k k' : IntKind} {i j:Int} {hx:ev x=some (.lit (.string s))} {hl:ev lo=some (.lit (.int k i))} {hh:ev hi=some (.lit (.int k' j))} :
    ex3 P H ev ⟨d,.slice t x (some lo) (some hi) none,ty,p,af,g⟩ x lo hi (some (.lit (.string s))) (some (.lit (.int k i))) (some (.lit (.int k' j))) hx hl hh=subStr P H ev ⟨d,.slice t x (some lo) (some hi) none,ty,p,af,g⟩ (P.underlying t) s i j:=by
  unfold subStr
  split
  · rename_i hd
    split
    · rename_i h
      obtain ⟨h0,h1,h2⟩:=h
      show opV P H ev _=_
      show oSlice P H ev _ t (ev x) (some lo) (some hi) none=_
      unfold oSlice
      rw [generic3 (r:=.string (s.extract i.toNat j.toNat)) (x:=x) (y:=lo) (z:=hi) (by simp [Op.operands]) hx hl hh fun ρ e1 e2 e3=>?_]
      show pureV P (do pure (Next.value (← Instr.sliceAt t (ρ x) (some (ρ lo)) (some (ρ hi)) none)))=_
      rw [e1,e2,e3]
      have key:pureV P (Instr.slice t (.string s) (some (.int k i)) (some (.int k' j)) none)=some (.string (s.extract i.toNat j.toNat)):=by
        unfold Instr.slice
        refine (pureV_then (m:=underlying t) (a:=TypeDesc.string) (pureV_underlying hd)).trans ?_
        dsimp only
        refine (pureV_then (a:=(i.toNat,j.toNat,s.size)) (bounds_str h0 h1 h2)).trans ?_
        rfl
      have key2:pureV P (Instr.sliceAt t (.string s) (some (.int k i)) (some (.int k' j)) none)=some (.string (s.extract i.toNat j.toNat)):=by
        unfold Instr.sliceAt
        refine (pureV_then (m:=underlying t) (a:=TypeDesc.string) (pureV_underlying hd)).trans ?_
        exact key
      rw [pureV_then key2]
      rfl
    · rfl
  · rfl
theorem subStr_congr {tk:Nat} (_h0:tick=tk) {o:Oper} {td td' : Option TypeDesc} {s s' : ByteArray} {i i' j j' : Int} (h1:td=td') (h2:s=s') (h3:i=i') (h4:j=j') : subStr P H ev o td s i j=subStr P H ev o td' s' i' j':=by rw [h1,h2,h3,h4]
attribute [congr] subStr_congr
theorem subStr_ok {o:Oper} {s:ByteArray} {i j:Int} (h0:0≤i) (h1:i≤j) (h2:j≤s.size) : subStr P H ev o (some .string) s i j=.val (.lit (.string (s.extract i.toNat j.toNat))) H:=if_pos ⟨h0,h1,h2⟩
attribute [simp] slice_str subStr_ok
end
end Go.Ai
end
section
namespace Go.Ai
section
variable {P:Program} {W:WF} {Q:Out→Prop} {fr:Fr} {H:Mem} {ev:Ev} {d:Option Tmp} {ty:TypeId} {p:String} {af:Array Edge} {g:Option (Nat×Bool)}
noncomputable def shrS (P:Program) (H:Mem) (ev:Ev) (o:Oper) (t:TypeId) (x y:Option AV) : R:=match x,y with
  | some (.lit (.int k a)),some (.lit (.int k' b))=>if 0≤b∧b≤63∧b.toNat≤k.bits then .val (.lit (.int k (a.fdiv (2 ^ b.toNat)))) H else oBin P H ev o .shr t (some (.lit (.int k a))) (some (.lit (.int k' b)))
  | x,y=>oBin P H ev o .shr t x y
theorem op_shr {t rt:TypeId} {x y:Operand} : opV P H ev ⟨d,.binOp .shr t x y rt,ty,p,af,g⟩=shrS P H ev ⟨d,.binOp .shr t x y rt,ty,p,af,g⟩ t (ev x) (ev y):=by
  rw [op_bin]
  unfold shrS
  split
  · rename_i k a k' b hx hy
    rw [hx,hy]
    split
    · rename_i h
      obtain ⟨h0,h1,h2⟩:=h
      have hf:fastBin .shr (.lit (.int k a)) (.lit (.int k' b))=none:=by unfold fastBin; dsimp only; cases kEq k k' <;> rfl
      refine oBin_generic hf (generic2 rfl hx hy fun ρ e1 e2=>execOp_bin e1 e2 rfl ?_)
      show pureV P (Op.shift .shr k a k' b)=_
      unfold Op.shift
      rw [if_neg (by omega)]
      dsimp only
      rw [Nat.min_eq_left h2]
      rfl
    · rfl
  · rfl
theorem shrS_congr {tk:Nat} (_h0:tick=tk) {o:Oper} {t:TypeId} {x x' y y' : Option AV} {H H' : Mem} (h1:H=H') (h2:x=x') (h3:y=y') : shrS P H ev o t x y=shrS P H' ev o t x' y':=by rw [h1,h2,h3]
attribute [congr] shrS_congr
theorem shrS_ok {o:Oper} {t:TypeId} {k k' : IntKind} {a b:Int} (h0:0≤b) (h1:b≤63) (h2:b.toNat≤k.bits) : shrS P H ev o t (some (.lit (.int k a))) (some (.lit (.int k' b)))=.val (.lit (.int k (a.fdiv (2 ^ b.toNat)))) H:=if_pos ⟨h0,h1,h2⟩
theorem bits_i64:IntKind.i64.bits=64:=(rfl)
theorem bits_u64:IntKind.u64.bits=64:=(rfl)
theorem binS_shr {t rt:TypeId} {x y:Operand} {k k' : IntKind} {a b:Int} (hx:ev x=some (.lit (.int k a))) (hy:ev y=some (.lit (.int k' b))) (h0:0≤b) (h1:b≤63) (h2:b.toNat≤k.bits) :
    binS P H ev ⟨d,.binOp .shr t x y rt,ty,p,af,g⟩ .shr t (some (.lit (.int k a))) (some (.lit (.int k' b)))=.val (.lit (.int k (a / (2 ^ b.toNat)))) H:=by
  have e:=op_bin' (P:=P) (H:=H) (ev:=ev) (d:=d) (ty:=ty) (p:=p) (af:=af) (g:=g) (op:=.shr) (t:=t) (rt:=rt) (x:=x) (y:=y)
  rw [hx,hy] at e
  rw [← e,op_shr,hx,hy]
  rw [shrS_ok h0 h1 h2,Int.fdiv_eq_ediv_of_nonneg _ (Int.le_of_lt (Int.pow_pos (by decide)))]
theorem intK2_shr {t rt:TypeId} {x y:Operand} {k:IntKind} {a b:Int} (hx:ev x=some (.lit (.int k a))) (hy:ev y=some (.lit (.int k b))) (h0:0≤b) (h1:b≤63) (h2:b.toNat≤k.bits) :
    intK2 P H ev ⟨d,.binOp .shr t x y rt,ty,p,af,g⟩ .shr t k a b (intR .shr k a b)=.val (.lit (.int k (a / (2 ^ b.toNat)))) H:=by
  rw [← binS_intR]
  exact binS_shr hx hy h0 h1 h2
theorem wrap_u64 {a:Int} (h1:0≤a) (h2:a≤18446744073709551615) : IntKind.u64.wrap a=a:=by
  simp only [IntKind.wrap,IntKind.bits,IntKind.signed]
  simp
  omega
theorem wrap_u32 {a:Int} (h1:0≤a) (h2:a≤4294967295) : IntKind.u32.wrap a=a:=by
  simp only [IntKind.wrap,IntKind.bits,IntKind.signed]
  simp
  omega
theorem idxS_any {t:TypeId} {x i:Operand} {s:ByteArray} {k:IntKind} {j:Int} (hx:ev x=some (.lit (.string s))) (hi:ev i=some (.lit (.int k j))) (hd:P.underlying t=some .string) (h0:0≤j) (h:j.toNat < s.size) :
    idxS P H ev ⟨d,.index t x i,ty,p,af,g⟩ t (some .string) (some (.lit (.string s))) (some (.lit (.int k j)))=.val (.lit (.int .u8 (bAt s j.toNat))) H:=by
  have e:=op_idx (P:=P) (H:=H) (ev:=ev) (d:=d) (ty:=ty) (p:=p) (af:=af) (g:=g) (t:=t) (x:=x) (i:=i)
  rw [hd,hx,hi] at e
  rw [← e]
  show oIndex P H ev _ t (ev x) (ev i)=_
  have hg:generic P ev ⟨d,.index t x i,ty,p,af,g⟩=some (.lit (.int .u8 (s[j.toNat]'h).toNat)):=by
    refine generic2 rfl hx hi fun ρ h1 h2=>?_
    show pureV P (do pure (Next.value (← Instr.index t (ρ x) (ρ i))))=_
    rw [pureV_then (a:=.int .u8 (s[j.toNat]'h).toNat)]
    · rfl
    · rw [h1,h2]
      refine (pureV_then (m:=underlying t) (a:=TypeDesc.string) (pureV_underlying hd)).trans ?_
      dsimp only
      rw [if_pos h0,getElem?_pos s j.toNat h]
      rfl
  have hn:index P t (.lit (.string s)) (.lit (.int k j))=none:=by unfold index; rw [hd]
  rw [hx,hi]
  unfold oIndex
  dsimp only
  rw [hn,hg]
  unfold bAt
  rw [dif_pos h]
  rfl
noncomputable def subArr (P:Program) (H:Mem) (ev:Ev) (o:Oper) (q:Option (Option Nat×Nat)) (a off:Nat) (i j:Int) : R:=match q with
  | some (some n,sz)=>if 0≤i∧i≤j∧j≤n∧i < n then .val (.sl a (off+i.toNat * sz) (j.toNat - i.toNat) (n - i.toNat)) H else opV P H ev o
  | _=>opV P H ev o
theorem elSzA_inv {t:TypeId} {n sz:Nat} (h:elSz P t=some (some n,sz)) : ∃ e i,P.underlying t=some (.array n e)∧P.info? e=some i∧i.size=sz:=by
  unfold elSz at h
  split at h
  · split at h <;> cases h
  · rename_i m e hu
    split at h
    · rename_i j hj; cases h; exact ⟨e,j,hu,hj,rfl⟩
    · cases h
  · cases h
theorem slice_arr {t:TypeId} {x lo hi:Operand} {a off:Nat} {k k' : IntKind} {i j:Int} {hx:ev x=some (.ptr a off)} {hl:ev lo=some (.lit (.int k i))} {hh:ev hi=some (.lit (.int k' j))} :
    ex3 P H ev ⟨d,.slice t x (some lo) (some hi) none,ty,p,af,g⟩ x lo hi (some (.ptr a off)) (some (.lit (.int k i))) (some (.lit (.int k' j))) hx hl hh=subArr P H ev ⟨d,.slice t x (some lo) (some hi) none,ty,p,af,g⟩ (elSz P t) a off i j:=by
  unfold subArr
  split
  · rename_i n sz hq
    split
    · rename_i h
      obtain ⟨h0,h1,h2,h4⟩:=h
      show opV P H ev _=_
      rw [slice_of hx rfl]
      obtain ⟨e,i',h5,h6,h7⟩:=elSzA_inv hq
      unfold oSliceN evOpt
      dsimp only
      rw [hl,hh]
      dsimp only
      unfold sliceOp
      rw [h5]
      dsimp only
      rw [h6]
      dsimp only
      have hb:bounds (some (.lit (.int k i))) (some (.lit (.int k' j))) none n n=some (i.toNat,j.toNat,n):=by
        unfold bounds natOr
        dsimp only
        rw [natOf_int h0,natOf_int (by omega)]
        simp only [okMx,Nat.ble_eq_true_of_le (show i.toNat≤j.toNat by omega),Nat.ble_eq_true_of_le (show j.toNat≤n by omega),Nat.ble_eq_true_of_le (Nat.le_refl n),Bool.and_true]
      rw [hb]
      unfold sliceSl
      have hb2:Nat.beq n i.toNat=false:=by
        cases hb2:Nat.beq n i.toNat with
        | false=>rfl
        | true=>have:=Nat.eq_of_beq_eq_true hb2; omega
      dsimp only
      rw [hb2,h7]
      simp [natK_eq,ofOpt]
    · rfl
  · rfl
theorem subArr_congr {tk:Nat} (_h0:tick=tk) {o:Oper} {q q' : Option (Option Nat×Nat)} {a a' off off' : Nat} {i i' j j' : Int} (h1:q=q') (h2:a=a') (h3:off=off') (h4:i=i') (h5:j=j') : subArr P H ev o q a off i j=subArr P H ev o q' a' off' i' j':=by rw [h1,h2,h3,h4,h5]
attribute [congr] subArr_congr
theorem subArr_ok {o:Oper} {n sz a off:Nat} {i j:Int} (h0:0≤i) (h1:i≤j) (h2:j≤n) (h3:i < n) : subArr P H ev o (some (some n,sz)) a off i j=.val (.sl a (off+i.toNat * sz) (j.toNat - i.toNat) (n - i.toNat)) H:=if_pos ⟨h0,h1,h2,h3⟩
noncomputable def strB (P:Program) (H:Mem) (ev:Ev) (o:Oper) (s t:TypeId) (ed:Option TypeDesc) (x:AV) (off n:Nat) (b:Option Blk) : R:=match ed,b with
  | some (.int .u8),some (.cells l _ _)=>if off+n≤l.length then (match bytesOf ((l.drop off).take n) with | some bs=>.val (.lit (.string ⟨bs.toArray⟩)) H | none=>oConvert P H ev o s t (some x)) else oConvert P H ev o s t (some x)
  | _,_=>oConvert P H ev o s t (some x)
theorem cvS_bytes {s t:TypeId} {x:Operand} {e:TypeId} {a off n c:Nat} (hx:ev x=some (.sl a off n c)) (hs:P.underlying s=some (.slice e)) (ht:P.underlying t=some .string) :
    cvS P H ev ⟨d,.convert s t x,ty,p,af,g⟩ s t (some (.slice e)) (some .string) (some (.sl a off n c))=strB P H ev ⟨d,.convert s t x,ty,p,af,g⟩ s t (P.underlying e) (.sl a off n c) off n (H.get a):=by
  show oConvert P H ev _ s t (some (.sl a off n c))=_
  unfold strB
  split
  · rename_i l own z he hg
    split
    · rename_i hle
      split
      · rename_i bs hbs
        unfold oConvert
        rw [generic_none (x:=x) (by simp [Op.operands]) (fun v' h=>by rw [hx] at h; cases h; rfl)]
        dsimp only
        unfold Go.Ai.convert
        rw [hs,ht]
        dsimp only
        rw [he]
        dsimp only [lenOf]
        have hf:firstL H 1 n (.sl a off n c)=some ((l.drop off).take n):=by
          have:=firstL_sl (size:=1) (n:=n) (c:=c) hg (by rw [Nat.mul_one]; exact hle)
          rw [Nat.mul_one] at this
          exact this
        rw [hf]
        dsimp only
        rw [hbs]
      · rfl
    · rfl
  · rfl
theorem strB_congr {tk:Nat} (_h0:tick=tk) {o:Oper} {s t:TypeId} {ed ed' : Option TypeDesc} {x:AV} {off n:Nat} {b b' : Option Blk} (h1:ed=ed') (h2:b=b') : strB P H ev o s t ed x off n b=strB P H ev o s t ed' x off n b':=by rw [h1,h2]
attribute [congr] strB_congr
noncomputable def strK (H:Mem) (els:R) (x:Option (List UInt8)) : R:=match x with | some bs=>.val (.lit (.string ⟨bs.toArray⟩)) H | none=>els
theorem strK_congr {tk:Nat} (_h0:tick=tk) {H:Mem} {els:R} {x x' : Option (List UInt8)} (h:x=x') : strK H els x=strK H els x':=by rw [h]
attribute [congr] strK_congr
theorem strK_some {els:R} {bs:List UInt8} : strK H els (some bs)=.val (.lit (.string ⟨bs.toArray⟩)) H:=(rfl)
theorem strB_ok {o:Oper} {s t:TypeId} {x:AV} {off n:Nat} {l:List AV} {own:Bool} {z:Nat} (h1:off+n≤l.length) : strB P H ev o s t (some (.int .u8)) x off n (some (.cells l own z))=strK H (oConvert P H ev o s t (some x)) (bytesOf ((l.drop off).take n)):=by
  unfold strB strK; dsimp only; rw [if_pos h1]
def consB (x:UInt8) (l:Option (List UInt8)) : Option (List UInt8):=match l with | some r=>some (x :: r) | none=>none
theorem bytesOf_nil:bytesOf []=some []:=(rfl)
theorem bytesOf_u8 {n:Int} {l:List AV} : bytesOf (.lit (.int .u8 n) :: l)=consB (UInt8.ofNat n.toNat) (bytesOf l):=by
  show (match bytesOf l with | some r=>some (UInt8.ofNat n.toNat :: r) | none=>none)=_
  unfold consB
  cases bytesOf l <;> rfl
theorem consB_some {x:UInt8} {r:List UInt8} : consB x (some r)=some (x :: r):=(rfl)
attribute [simp] bits_i64 bits_u64 idxS_any binS_shr intK2_shr wrap_u64 wrap_u32 slice_arr subArr_ok cvS_bytes strB_ok strK_some bytesOf_nil bytesOf_u8 consB_some
end
end Go.Ai
end
section
namespace Go.Ai
section
variable {P:Program} {H:Mem} {ev:Ev} {d:Option Tmp} {ty:TypeId} {p:String} {af:Array Edge} {g:Option (Nat×Bool)}
def strCells (s:ByteArray) : List AV:=s.data.toList.map fun b=>.lit (.int .u8 (b.toNat:Nat))
theorem pureV_noneBind {α β:Type} {m:Sem α} {k:α→Sem β} (h:pureV P m=none) : pureV P (m >>= k)=none:=by
  show pureV P (m.bind k)=none
  rw [pureV_bind,h]
theorem toBytes_none {e:TypeId} {s:ByteArray} : pureV P (Conv.stringToBytes e s)=none:=by
  unfold Conv.stringToBytes
  exact pureV_noneBind rfl
theorem cvS_str {s t e:TypeId} {x:Operand} {str:ByteArray} (hx:ev x=some (.lit (.string str))) (hs:P.underlying s=some .string) (ht:P.underlying t=some (.slice e)) (he:P.underlying e=some (.int .u8)) (hsz:str.size≤1048576) :
    cvS P H ev ⟨d,.convert s t x,ty,p,af,g⟩ s t (some .string) (some (.slice e)) (some (.lit (.string str)))=.val (.slq H.next 0 str.size 0) (H.add (.cells (strCells str) true 1)):=by
  show oConvert P H ev _ s t (some (.lit (.string str)))=_
  have hg:generic P ev ⟨d,.convert s t x,ty,p,af,g⟩=none:=by
    have h1:(Op.convert s t x).operands.toList=[x]:=by simp [Op.operands]
    unfold generic
    dsimp only
    rw [h1]
    simp only [List.all_cons,List.all_nil,hx,toLit,Bool.and_true,if_true]
    have hn:∀ ρ:Operand→Value,ρ x=.string str→pureV P (execOp ρ ⟨d,.convert s t x,ty,p,af,g⟩)=none:=by
      intro ρ hρ
      show pureV P (do pure (Next.value (← Go.convert s t (ρ x))))=none
      rw [hρ]
      refine pureV_noneBind ?_
      unfold Go.convert
      refine (pureV_then (m:=underlying s) (pureV_underlying hs)).trans ?_
      refine (pureV_then (m:=underlying t) (pureV_underlying ht)).trans ?_
      dsimp only
      refine (pureV_then (m:=underlying e) (pureV_underlying he)).trans ?_
      exact toBytes_none
    rw [hn _ (by simp [hx])]
  unfold oConvert
  rw [hg]
  dsimp only
  unfold Go.Ai.convert
  rw [hs,ht]
  dsimp only
  rw [he]
  dsimp only
  rw [if_pos hsz,newSlq_eq]
  rfl
theorem strCells_at {s:ByteArray} {k m:Nat} {own:Bool} {z:Nat} (h:k < s.size) : loadB (some (false,m)) (some (.cells (strCells s) own z)) k=some (.lit (.int .u8 (bAt s k))):=by
  rw [loadB_one]
  unfold strCells bAt
  rw [dif_pos h,List.getElem?_map]
  have:s.data.toList[k]?=some s[k]:=by
    rw [Array.getElem?_toList]
    exact Array.getElem?_eq_getElem h
  rw [this]
  rfl
attribute [simp] cvS_str
end
end Go.Ai
end
section
namespace Go.Ai
section
variable {P:Program} {W:WF} {Q:Out→Prop} {fr:Fr} {H:Mem} {ev:Ev} {d:Option Tmp} {ty:TypeId} {p:String} {af:Array Edge} {g:Option (Nat×Bool)}
theorem equal_nilI {t:TypeId} {ms:Array (String×TypeId)} (ht:P.underlying t=some (.interface ms)) : pureV P (Op.equal t .nilIface .nilIface)=some true:=by
  unfold Op.equal
  show pureV P (Op.equalIn (9999+1) t .nilIface .nilIface)=_
  unfold Op.equalIn
  exact (pureV_then (m:=underlying t) (pureV_underlying ht)).trans rfl
theorem guard_nil {op:BinOp} {t:TypeId} {x:Operand} : pureV P (eqGuard op t x (.const .nilIface) .nilIface .nilIface)=some ():=by
  unfold eqGuard
  cases op <;> cases x <;> rfl
def ifaceT (P:Program) (t:TypeId) : Bool:=match P.underlying t with | some (.interface _)=>true | _=>false
theorem ifaceT_inv {t:TypeId} (h:ifaceT P t=true) : ∃ ms,P.underlying t=some (.interface ms):=by
  unfold ifaceT at h
  split at h
  · rename_i ms e; exact ⟨ms,e⟩
  · cases h
theorem bin_nilneq {t rt:TypeId} {x:Operand} (hx:ev x=some (.lit .nilIface)) (hy:ev (.const .nilIface)=some (.lit .nilIface)) (ht:ifaceT P t=true) :
    binS P H ev ⟨d,.binOp .neq t x (.const .nilIface) rt,ty,p,af,g⟩ .neq t (some (.lit .nilIface)) (some (.lit .nilIface))=.val (.lit (.bool false)) H:=by
  obtain ⟨ms,ht⟩:=ifaceT_inv ht
  unfold binS
  dsimp only
  rw [oBin_generic (v:=.lit (.bool false)) rfl]
  refine generic2 (r:=.bool false) rfl hx hy fun ρ h1 h2=>execOp_bin h1 h2 guard_nil ?_
  show pureV P (do pure (Value.bool (!(← Op.equal t .nilIface .nilIface))))=_
  exact (pureV_then (equal_nilI ht)).trans rfl
theorem bin_ptrneq {t rt T:TypeId} {x y:Operand} {a o:Nat} (hx:ev x=some (.iface T (.ptr a o))) (ht:ifaceT P t=true) :
    binS P H ev ⟨d,.binOp .neq t x y rt,ty,p,af,g⟩ .neq t (some (.iface T (.ptr a o))) (some (.lit .nilIface))=.val (.lit (.bool true)) H:=by
  obtain ⟨ms,ht⟩:=ifaceT_inv ht
  unfold binS
  dsimp only
  have hg:generic P ev ⟨d,.binOp .neq t x y rt,ty,p,af,g⟩=none:=by
    unfold generic
    rw [if_neg]
    intro h
    have:=List.all_eq_true.1 h x (by simp [Op.operands])
    rw [hx] at this
    simp [toLit] at this
  unfold oBin fast2
  dsimp only
  rw [show fastBin .neq (.iface T (.ptr a o)) (.lit .nilIface)=none from rfl]
  dsimp only
  rw [hg]
  dsimp only
  unfold oNilEq
  dsimp only
  rw [ht]
  rfl
theorem op_panic {x:Operand} : opV P H ev ⟨d,.panic x,ty,p,af,g⟩=oPanic H (ev x):=(rfl)
theorem oPanic_congr {tk:Nat} (_h0:tick=tk) {H H' : Mem} {x x' : Option AV} (h1:H=H') (h2:x=x') : oPanic H x=oPanic H' x':=by rw [h1,h2]
attribute [congr] oPanic_congr
theorem oPanic_iface {T:TypeId} {v:AV} : oPanic H (some (.iface T v))=.panic (.iface T v) H:=(rfl)
theorem leaveW_panic {O:CallF} {fn:Func} {K:COut→Prop} {v:AV} {gf:Nat→Option AV} : leaveW P O fn K (.panic v (.f gf []) H)=K (.panic v H):=(rfl)
attribute [simp] leaveW_panic bin_nilneq bin_ptrneq op_panic oPanic_iface
end
end Go.Ai
end
section
namespace Go.Ai
open Go.Proofs
set_option maxRecDepth 10000
set_option maxHeartbeats 4000000
def okM (k:Nat) (c:Int) : Bool:=letterM c || (decide (k≠0) && (digitM c || decide (c=95)))
def rpartsM (s:ByteArray) : Nat→Nat→Bool
  | 0,_=>true
  | m+1,k=>okM k (bAt s k) && rpartsM s m (k+1)
theorem okM_pos {k:Nat} {c:Int} (h:k≠0) : okM k c=partM c:=by simp [okM,partM,h,Bool.or_assoc]
theorem rparts_pos (s:ByteArray) : ∀ (m k:Nat),k≠0→rpartsM s m k=partsM s m k
  | 0,_,_=>rfl
  | m+1,k,h=>by rw [rpartsM,partsM,okM_pos h,rparts_pos s m (k+1) (by omega)]
theorem rparts_zero (s:ByteArray) (m:Nat) : rpartsM s (m+1) 0=(letterM (bAt s 0) && partsM s (m+1) 0):=by
  rw [rpartsM,partsM,rparts_pos s m 1 (by omega)]
  have:okM 0 (bAt s 0)=letterM (bAt s 0):=by simp [okM]
  rw [this]
  cases hl:letterM (bAt s 0) with
  | false=>simp
  | true=>simp [partM,hl]
theorem rnamed_w (s:ByteArray) (H:Mem) : WC 6 Tryd.prog 46 [.lit (.string s)] H fun r=>r=.ret (.lit (.int .i64 (truthM (namedM s)))) H:=by
  generalize hret:truthM (namedM s)=ret
  have HRET:=Hide.mk hret
  clear hret
  by_cases h1:s.size < 1
  · have hz:s=⟨#[]⟩:=by
      apply Classical.byContradiction
      intro h; have:=ba_pos h; omega
    have hr:ret=0:=by rw [← HRET.out,hz]; rfl
    have h1' : (s.size:Int) < 1:=by omega
    clear hz
    refine WC.enterP (noO_ok _ _) hG6 [] Tryd.func46 rfl (by decide +kernel) (Nat.le_of_ble_eq_true (by kernel_rfl)) ?_
    iterate 20 (all_goals try (first | with_reducible refine splitI (fun h=>?_) (fun h=>?_) | with_reducible refine splitBI (fun h=>?_) (fun h=>?_) | simp (disch:=first | assumption | omega | (simp; done) | fail) [Tryd.results46, *]))
  have hne:¬s=⟨#[]⟩:=by intro e; subst e; exact h1 (by decide)
  have h1' : ¬(s.size:Int) < 1:=by omega
  by_cases h2:16 < s.size
  · have hr:ret=0:=by
      rw [← HRET.out]
      have:namedM s=false:=by unfold namedM; rw [decide_eq_false (by omega:¬s.size≤16)]; simp
      rw [this]; rfl
    have h2' : (16:Int) < (s.size:Int):=by omega
    refine WC.enterP (noO_ok _ _) hG6 [] Tryd.func46 rfl (by decide +kernel) (Nat.le_of_ble_eq_true (by kernel_rfl)) ?_
    iterate 20 (all_goals try (first | with_reducible refine splitI (fun h=>?_) (fun h=>?_) | with_reducible refine splitBI (fun h=>?_) (fun h=>?_) | simp (disch:=first | assumption | omega | (simp; done) | fail) [Tryd.results46, *]))
  have h2' : ¬(16:Int) < (s.size:Int):=by omega
  by_cases h3:reservedM s=true
  · have hr:ret=0:=by
      rw [← HRET.out]
      have:namedM s=false:=by unfold namedM; rw [h3]; simp
      rw [this]; rfl
    have h3' : s=andB∨s=orB∨s=notB:=by simpa [reservedM,or_assoc] using h3
    clear h3
    have e1:andB=⟨#[97,110,100]⟩:=rfl
    have e2:orB=⟨#[111,114]⟩:=rfl
    have e3:notB=⟨#[110,111,116]⟩:=rfl
    rw [e1,e2,e3] at h3'
    clear e1 e2 e3
    have HN:=Hide.mk h3'
    clear h3' hne
    refine WC.enterP (noO_ok _ _) hG6 [] Tryd.func46 rfl (by decide +kernel) (Nat.le_of_ble_eq_true (by kernel_rfl)) ?_
    iterate 20 (all_goals try (first | with_reducible refine splitI (fun h=>?_) (fun h=>?_) | with_reducible refine splitBI (fun h=>?_) (fun h=>?_) | simp (disch:=first | assumption | omega | (simp; done) | fail) [Tryd.results46, *]))
    all_goals
      exfalso
      rcases HN.out with h | h | h <;> contradiction
  have hr0:namedM s=rpartsM s s.size 0:=by
    unfold namedM
    obtain ⟨m,hm⟩ : ∃ m,s.size=m+1:=⟨s.size - 1,by omega⟩
    rw [decide_eq_false hne,decide_eq_true (by omega:s.size≤16),hm,rparts_zero]
    simp [h3]
  have HR0:Hide (ret=truthM (rpartsM s s.size 0)):=⟨by rw [← hr0,HRET.out]⟩
  have n1:¬s=⟨#[97,110,100]⟩:=fun e=>h3 (by simp [reservedM,andB,e])
  have n2:¬s=⟨#[111,114]⟩:=fun e=>h3 (by simp [reservedM,orB,e])
  have n3:¬s=⟨#[110,111,116]⟩:=fun e=>h3 (by simp [reservedM,notB,e])
  clear hr0 h3 hne
  refine WC.enterP (noO_ok _ _) hG6 [] Tryd.func46 rfl (by decide +kernel) (Nat.le_of_ble_eq_true (by kernel_rfl)) ?_
  iterate 20 (all_goals try (first | with_reducible refine splitI (fun h=>?_) (fun h=>?_) | with_reducible refine splitBI (fun h=>?_) (fun h=>?_) | simp (disch:=first | assumption | omega | (simp; done) | fail) [Tryd.results46, *]))
  refine LX.ind (fun m g H'=>∃ k:Nat,k≤s.size∧m=s.size - k∧H'=H∧g 0=some (.lit (.string s))∧g 3=some (.lit (.int .i64 k))∧ret=truthM (rpartsM s (s.size - k) k)) (m0:=s.size) ?_ ?_
  · exact ⟨0,Nat.zero_le _,rfl,rfl,by simp,by simp,by simpa using HR0.out⟩
  · rintro m g H' ⟨k,hk,rfl,rfl,g0,g3,hn⟩ ih
    have HN:=Hide.mk hn
    clear hn n1 n2 n3
    refine LX.roundP (noO_ok _ _) hG6 [] (by decide +kernel) ?_
    by_cases hlt:k < s.size
    · have hlt' : (k:Int) < (s.size:Int):=by omega
      have HS:Hide (ret=truthM (okM k (bAt s k) && rpartsM s (s.size - (k+1)) (k+1))):=⟨by rw [HN.out,show s.size - k=(s.size - (k+1))+1 by omega,rpartsM]⟩
      iterate 60 (all_goals try (first | with_reducible refine splitI (fun h=>?_) (fun h=>?_) | with_reducible refine splitBI (fun h=>?_) (fun h=>?_) | simp (disch:=first | assumption | omega | (simp; done) | fail) [Tryd.results46, *]))
      all_goals first
        | (exfalso; omega)
        | (have ho:okM k (bAt s k)=true:=by (simp [okM,letterM,digitM]; omega)
           refine ih.out (s.size - (k+1)) _ _ (by omega) ⟨k+1,by omega,rfl,rfl,by simp [*],by simp [*],?_⟩
           rw [HS.out,ho,Bool.true_and])
        | (have ho:okM k (bAt s k)=false:=by (simp [okM,letterM,digitM]; omega)
           rw [HS.out,ho,Bool.false_and]; simp [truthM])
    · have hkn:k=s.size:=by omega
      subst hkn
      have hr1:ret=1:=by rw [HN.out]; simp [rpartsM,truthM]
      iterate 20 (all_goals try (first | with_reducible refine splitI (fun h=>?_) (fun h=>?_) | with_reducible refine splitBI (fun h=>?_) (fun h=>?_) | simp (disch:=first | assumption | omega | (simp; done) | fail) [Tryd.results46, *]))
end Go.Ai
end
section
namespace Go.Ai
open Go.Proofs
set_option maxRecDepth 10000
set_option maxHeartbeats 4000000
theorem ba_lawful:LawfulBEq ByteArray where
  eq_of_beq:=fun {a b} h=>by rw [ba_beq] at h; simpa using h
  rfl:=fun {a}=>by rw [ba_beq]; simp
theorem mem_ba {l:List ByteArray} {s:ByteArray} : l.contains s=true↔s∈l:=by
  have:=ba_lawful
  exact List.contains_iff_mem
theorem row_var {g:Nat→Option Blk} {a off:Nat} {vs:List VarM} (hr:Row g a off (vs.flatMap VarM.cells)) {k s:Nat} (h:k < vs.length) :
    loadB (some (false,s)) (g a) (off+k * 3)=some (.lit (.string vs[k].name))∧loadB (some (false,s)) (g a) (off+k * 3+1)=some (.lit (.int .i64 vs[k].low))∧loadB (some (false,s)) (g a) (off+k * 3+2)=some (.lit (.int .i64 vs[k].high)):=by
  have hl:=flat_len (sz:=3) vs (f:=VarM.cells) (fun _ _=>rfl)
  have key:∀ j,j < 3→loadB (some (false,s)) (g a) (off+(k * 3+j))=(VarM.cells vs[k])[j]?:=by
    intro j hj
    have h1:k * 3+j < (vs.flatMap VarM.cells).length:=by omega
    rw [hr.one h1,← List.getElem?_eq_getElem h1,← flat_at (f:=VarM.cells) (sz:=3) vs k h (fun _ _=>rfl),List.getElem?_take_of_lt hj,List.getElem?_drop]
  exact ⟨key 0 (by omega),by rw [Nat.add_assoc]; exact key 1 (by omega),by rw [Nat.add_assoc]; exact key 2 (by omega)⟩
theorem rcheckVars_w (vs:List VarM) (g:Nat→Option Blk) (n:Nat) (sv:AV) (hsv:SliceV g n sv vs.length (vs.flatMap VarM.cells)) (hn:vs.length≤1000000) :
    WC 6 Tryd.prog 25 [sv] ⟨.fn g,n⟩ fun r=>r=.ret (.lit (.int .i64 (checkVarsM vs))) ⟨.fn g,n⟩:=by
  generalize hret:checkVarsM vs=ret
  have HRET:=Hide.mk hret
  clear hret
  obtain ⟨sv',hq⟩ : ∃ sv',Hide (sv'=sv):=⟨_,⟨rfl⟩⟩
  by_cases hbig:16 < vs.length
  · have h3:ret=3:=by rw [← HRET.out]; unfold checkVarsM; rw [if_pos hbig]
    have hbigI:(16:Int) < (vs.length:Int):=by omega
    rcases hsv with ⟨hl0,_,rfl | rfl⟩ | ⟨a,off,ha,⟨c,rfl⟩ | ⟨c,rfl⟩,hr⟩
    · omega
    · omega
    all_goals refine WC.enterP (noO_ok _ _) hG6 pl25 Tryd.func25 rfl (by decide +kernel) (Nat.le_of_ble_eq_true (by kernel_rfl)) ?_
    all_goals
      clear hr
      iterate 12 (all_goals try (first | with_reducible refine splitI (fun h=>?_) (fun h=>?_) | with_reducible refine splitBI (fun h=>?_) (fun h=>?_) | simp (disch:=first | assumption | omega | (simp; done) | fail) [Tryd.results25, *]))
  have hlen:vs.length≤16:=by omega
  have hlenI:¬(16:Int) < (vs.length:Int):=by omega
  have HCV:Hide (ret=if varsM [] vs=true then 0 else 1):=⟨by rw [← HRET.out]; unfold checkVarsM; rw [if_neg (by omega)]⟩
  rcases hsv with ⟨hl0,_,rfl | rfl⟩ | ⟨a,off,ha,⟨c,rfl⟩ | ⟨c,rfl⟩,hr⟩
  all_goals refine WC.enterP (noO_ok _ _) hG6 pl25 Tryd.func25 rfl (by decide +kernel) (Nat.le_of_ble_eq_true (by kernel_rfl)) ?_
  all_goals
    iterate 12 (all_goals try (first | with_reducible refine splitI (fun h=>?_) (fun h=>?_) | with_reducible refine splitBI (fun h=>?_) (fun h=>?_) | simp (disch:=first | assumption | omega | (simp; done) | fail) [Tryd.results25, *]))
    refine LX.ind (fun m gf H'=>∃ (k:Nat),k≤vs.length∧m=vs.length - k∧H'=⟨.fn g,n⟩∧gf 0=some sv'∧gf 3=some (.lit (.int .i64 k))∧ret=if varsM ((vs.take k).map (·.name)) (vs.drop k)=true then 0 else 1) (m0:=vs.length) ?_ ?_
    · exact ⟨0,Nat.zero_le _,rfl,rfl,by simp [hq.out],by simp,by simpa using HCV.out⟩
    rintro m gf H' ⟨k,hk,rfl,rfl,g0,g3,hc⟩ ih
    refine LX.roundP (noO_ok _ _) hG6 pl25 (by decide +kernel) ?_
    rw [hq.out] at g0
    have hc':=Hide.mk hc
    clear hc
    by_cases hlt:k < vs.length
    · first
      | (exfalso; omega)
      | (have HRV:=Hide.mk (fun j (hj:j < vs.length)=>row_var hr (s:=1) hj)
         obtain ⟨r1,r2,r3⟩:=row_var hr (s:=1) hlt
         have hdrop:vs.drop k=vs[k] :: vs.drop (k+1):=List.drop_eq_getElem_cons hlt
         have htake:vs.take (k+1)=vs.take k++[vs[k]]:=by rw [List.take_succ_eq_append_getElem hlt]
         have hc2:=hc'.out
         rw [hdrop] at hc2
         have HT:=Hide.mk htake
         generalize vs[k]=v at r1 r2 r3 hc2 HT
         obtain ⟨nm,lo,hi⟩:=v
         dsimp only at r1 r2 r3
         have HC:=Hide.mk hc2
         have HR:=Hide.mk hr
         have hltI:(k:Int) < (vs.length:Int):=by omega
         clear hc2 hdrop htake hr hc'
         iterate 40 (all_goals try (first | with_reducible refine splitI (fun h=>?_) (fun h=>?_) | with_reducible refine splitBI (fun h=>?_) (fun h=>?_) | simp (disch:=first | assumption | omega | (simp; done) | fail) [Tryd.results25, *]))
         refine WC.mono (rnamed_w nm _) ?_
         rintro _ rfl
         iterate 40 (all_goals try (first | with_reducible refine splitI (fun h=>?_) (fun h=>?_) | with_reducible refine splitBI (fun h=>?_) (fun h=>?_) | simp (disch:=first | assumption | omega | (simp; done) | fail) [Tryd.results25, *]))
         all_goals first
           | (rw [HC.out,if_neg]
              simp only [varsM,VarM.ok,Bool.and_eq_true,decide_eq_true_eq]
              rintro ⟨⟨⟨⟨⟨q1,q2⟩,q3⟩,q4⟩,q5⟩,q6⟩
              first | omega | (rw [q1] at h; cases h))
           | skip
         have hnm:namedM nm=true:=by assumption
         have hok:VarM.ok ⟨nm,lo,hi⟩=true:=by
           simp only [VarM.ok,Bool.and_eq_true,decide_eq_true_eq]
           exact ⟨⟨⟨hnm,by omega⟩,by omega⟩,by omega⟩
         have HOK:=Hide.mk hok
         have HK:=Hide.mk (fun j (hj:j < vs.length)=>(List.take_succ_eq_append_getElem hj:vs.take (j+1)=vs.take j++[vs[j]]))
         clear r2 r3 hok hnm
         refine LX.ind (fun m gf H'=>∃ (j:Nat),j≤k∧m=k - j∧H'=⟨.fn g,n⟩∧gf 0=some sv'∧gf 3=some (.lit (.int .i64 k))∧gf 4=some (.lit (.int .i64 j))∧((vs.take j).map (·.name)).contains nm=false) (m0:=k) ?_ ?_
         · exact ⟨0,Nat.zero_le _,rfl,rfl,by simp [*,hq.out],by simp [*],by simp,by simp⟩
         rintro m2 gf2 H2 ⟨j,hj,rfl,rfl,p0,p3,p4,hcn⟩ ih2
         refine LX.roundP (noO_ok _ _) hG6 pl25 (by decide +kernel) ?_
         rw [hq.out] at p0
         have HCN:=Hide.mk hcn
         clear hcn
         by_cases hjk:j < k
         · obtain ⟨w1,_,_⟩:=HRV.out j (by omega)
           have htj:=HK.out j (by omega)
           generalize vs[j]=u at w1 htj
           obtain ⟨nu,lu,hu⟩:=u
           dsimp only at w1
           have HTJ:=Hide.mk htj
           have hjI:(j:Int) < (k:Int):=by omega
           have hjl:j < vs.length:=by omega
           have hjlI:(j:Int) < (vs.length:Int):=by omega
           clear htj
           by_cases hnu:nu=nm
           · subst hnu
             have hr1:ret=1:=by
               rw [HC.out,if_neg]
               intro e
               simp only [varsM,Bool.and_eq_true] at e
               have e2:=e.1.2
               have e3:nu∈(vs.take k).map (·.name):=by
                 have:nu∈(vs.take (j+1)).map (·.name):=by rw [HTJ.out]; simp
                 obtain ⟨z,hz,rfl⟩:=List.mem_map.1 this
                 refine List.mem_map.2 ⟨z,?_,rfl⟩
                 have hp:vs.take (j+1)=(vs.take k).take (j+1):=by rw [List.take_take,Nat.min_eq_left (by omega)]
                 rw [hp] at hz
                 exact List.mem_of_mem_take hz
               have e4:((vs.take k).map (·.name)).contains nu=true:=mem_ba.2 e3
               rw [e4] at e2
               cases e2
             clear hj
             iterate 40 (all_goals try (first | with_reducible refine splitI (fun h=>?_) (fun h=>?_) | with_reducible refine splitBI (fun h=>?_) (fun h=>?_) | simp (disch:=first | assumption | omega | (simp; done) | fail) [Tryd.results25, *]))
           · have hne2:¬nm=nu:=fun e=>hnu e.symm
             iterate 40 (all_goals try (first | with_reducible refine splitI (fun h=>?_) (fun h=>?_) | with_reducible refine splitBI (fun h=>?_) (fun h=>?_) | simp (disch:=first | assumption | omega | (simp; done) | fail) [Tryd.results25, *]))
             refine ih2.out (k - (j+1)) _ _ (by omega) ⟨j+1,by omega,rfl,rfl,by simp [*,hq.out],by simp [*],by simp [*],?_⟩
             rw [HTJ.out,List.map_append]
             have hc3:=HCN.out
             cases hb:(List.map (fun x=>x.name) (List.take j vs)++List.map (fun x=>x.name) [(⟨nu,lu,hu⟩ : VarM)]).contains nm with
             | false=>rfl
             | true =>
               exfalso
               rcases List.mem_append.1 (mem_ba.1 hb) with hm | hm
               · rw [mem_ba.2 hm] at hc3; cases hc3
               · exact hne2 (by simpa using hm)
         · have hjk2:j=k:=by omega
           subst hjk2
           have hjI:¬(j:Int) < (j:Int):=by omega
           iterate 40 (all_goals try (first | with_reducible refine splitI (fun h=>?_) (fun h=>?_) | with_reducible refine splitBI (fun h=>?_) (fun h=>?_) | simp (disch:=first | assumption | omega | (simp; done) | fail) [Tryd.results25, *]))
           refine ih.out (vs.length - (j+1)) _ _ (by omega) ⟨j+1,by omega,rfl,rfl,by simp [*,hq.out],by simp [*],?_⟩
           rw [HC.out,HT.out,varsM,HOK.out,HCN.out]
           simp)
    · have hkn:k=vs.length:=by omega
      subst hkn
      have hr0:ret=0:=by rw [hc'.out]; simp [varsM]
      first | clear hr | skip
      first | clear hl0 | skip
      iterate 12 (all_goals try (first | with_reducible refine splitI (fun h=>?_) (fun h=>?_) | with_reducible refine splitBI (fun h=>?_) (fun h=>?_) | simp (disch:=first | assumption | omega | (simp; done) | fail) [Tryd.results25, *]))
      all_goals (exfalso; omega)
end Go.Ai
end
section
namespace Go.Ai
open Go.Proofs
set_option maxRecDepth 10000
set_option maxHeartbeats 4000000
theorem rcheckValues_w (vs:List VarM) (vals:List Int) (g:Nat→Option Blk) (n:Nat) (sv tv:AV) (hsv:SliceV g n sv vs.length (vs.flatMap VarM.cells)) (htv:SliceV g n tv vals.length (intCells vals))
    (hn:vs.length≤1000000) (hm:vals.length≤1000000) :
    WC 6 Tryd.prog 27 [sv,tv] ⟨.fn g,n⟩ fun r=>r=.ret (.lit (.int .i64 (checkValuesM vs vals))) ⟨.fn g,n⟩:=by
  generalize hret:checkValuesM vs vals=ret
  have HRET:=Hide.mk hret
  clear hret
  have HSV:=Hide.mk hsv
  have HTV:=Hide.mk htv
  by_cases h0:checkVarsM vs=0
  · obtain ⟨sv',hq⟩ : ∃ sv',Hide (sv'=sv):=⟨_,⟨rfl⟩⟩
    obtain ⟨tv',hq2⟩ : ∃ tv',Hide (tv'=tv):=⟨_,⟨rfl⟩⟩
    by_cases hle:vals.length=vs.length
    · have HMO:Hide (ret=if inM vs vals=true then 0 else 1):=⟨by rw [← HRET.out,checkValuesM,if_neg (by rw [h0]; simp),if_neg (by simpa using hle)]⟩
      have hleI:(vals.length:Int)=(vs.length:Int):=by omega
      have HLE:=Hide.mk hle
      rcases hsv with ⟨hl0,_,rfl | rfl⟩ | ⟨a,off,ha,⟨c,rfl⟩ | ⟨c,rfl⟩,hr⟩
      all_goals rcases htv with ⟨kl0,_,rfl | rfl⟩ | ⟨b,off2,hb,⟨c2,rfl⟩ | ⟨c2,rfl⟩,hr2⟩
      all_goals
        refine WC.enterP (noO_ok _ _) hG6 pl27 Tryd.func27 rfl (by decide +kernel) (Nat.le_of_ble_eq_true (by kernel_rfl)) ?_
        clear hle
        iterate 6 (all_goals try (first | with_reducible refine splitI (fun h=>?_) (fun h=>?_) | with_reducible refine splitBI (fun h=>?_) (fun h=>?_) | simp (disch:=first | assumption | omega | (simp; done) | fail) [Tryd.results27, *]))
        refine WC.mono (rcheckVars_w vs _ _ _ HSV.out (by omega)) ?_
        rintro _ rfl
        iterate 12 (all_goals try (first | with_reducible refine splitI (fun h=>?_) (fun h=>?_) | with_reducible refine splitBI (fun h=>?_) (fun h=>?_) | simp (disch:=first | assumption | omega | (simp; done) | fail) [Tryd.results27, *]))
        all_goals try (exfalso; have:=HLE.out; omega)
        refine LX.ind (fun m gf H'=>∃ (k:Nat),k≤vs.length∧m=vs.length - k∧H'=⟨.fn g,n⟩∧gf 0=some sv'∧gf 1=some tv'∧gf 6=some (.lit (.int .i64 k))∧ret=if inM (vs.drop k) (vals.drop k)=true then 0 else 1) (m0:=vs.length) ?_ ?_
        · exact ⟨0,Nat.zero_le _,rfl,rfl,by (simp [hq.out]; try exact List.length_eq_zero_iff.1 (by omega)),by (simp [hq2.out]; try exact List.length_eq_zero_iff.1 (by omega)),by (simp; try exact List.length_eq_zero_iff.1 (by omega)),by simpa using HMO.out⟩
        rintro m gf H' ⟨k,hk,rfl,rfl,g0,g1,g6,hc⟩ ih
        refine LX.roundP (noO_ok _ _) hG6 pl27 (by decide +kernel) ?_
        rw [hq.out] at g0
        rw [hq2.out] at g1
        have hc':=Hide.mk hc
        clear hc
        by_cases hlt:k < vs.length
        · first
          | (exfalso; have:=HLE.out; omega)
          | (have hltv:k < vals.length:=by have:=HLE.out; omega
             obtain ⟨r1,r2,r3⟩:=row_var hr (s:=1) hlt
             have hint:=hr2.one (k:=k) (s:=1) (by simp only [intCells,List.length_map]; exact hltv)
             have hintv:(intCells vals)[k]'(by simp only [intCells,List.length_map]; exact hltv)=.lit (.int .i64 vals[k]):=by simp [intCells]
             rw [hintv] at hint
             have hdrop:vs.drop k=vs[k] :: vs.drop (k+1):=List.drop_eq_getElem_cons hlt
             have hdropv:vals.drop k=vals[k] :: vals.drop (k+1):=List.drop_eq_getElem_cons hltv
             have HD:Hide (ret=if inM (vs.drop k) (vals.drop k)=true then 0 else 1):=hc'
             rw [hdrop,hdropv] at HD
             generalize vs[k]=v at r1 r2 r3 HD
             generalize vals[k]=w at hint HD
             obtain ⟨nm,lo,hi⟩:=v
             dsimp only at r1 r2 r3
             have HR:=Hide.mk hr
             have HR2:=Hide.mk hr2
             have hltI:(k:Int) < (vs.length:Int):=by omega
             have hltvI:(k:Int) < (vals.length:Int):=by omega
             have HLI:=Hide.mk hleI
             clear hdrop hdropv hintv hc' r1 hr hr2 hleI
             iterate 30 (all_goals try (first | with_reducible refine splitI (fun h=>?_) (fun h=>?_) | with_reducible refine splitBI (fun h=>?_) (fun h=>?_) | simp (disch:=first | assumption | omega | (simp; done) | fail) [Tryd.results27, *]))
             all_goals first
               | (exfalso; omega)
               | (rw [HD.out,inM]
                  simp [*]
                  try omega
                  done)
               | (refine ih.out (vs.length - (k+1)) _ _ (by omega) ⟨k+1,hlt,rfl,rfl,by simp [*,hq.out],by simp [*,hq2.out],by simp [*],?_⟩
                  rw [HD.out,inM,decide_eq_true (show lo≤w by omega),decide_eq_true (show w≤hi by omega),Bool.true_and,Bool.true_and]))
        · have hkn:k=vs.length:=by omega
          subst hkn
          have HDN:=Hide.mk (List.drop_eq_nil_of_le (by omega) : vs.drop vs.length=[])
          have hr0:ret=0:=by rw [hc'.out,HDN.out]; simp [inM]
          first | clear hr | skip
          first | clear hr2 | skip
          clear hleI
          iterate 12 (all_goals try (first | with_reducible refine splitI (fun h=>?_) (fun h=>?_) | with_reducible refine splitBI (fun h=>?_) (fun h=>?_) | simp (disch:=first | assumption | omega | (simp; done) | fail) [Tryd.results27, *]))
          all_goals (exfalso; omega)
    · have hleI:¬(vals.length:Int)=(vs.length:Int):=by omega
      have h16:ret=16:=by rw [← HRET.out,checkValuesM,if_neg (by rw [h0]; simp),if_pos hle]
      have HL:=Hide.mk hle
      clear hle
      rcases hsv with ⟨hl0,_,rfl | rfl⟩ | ⟨a,off,ha,⟨c,rfl⟩ | ⟨c,rfl⟩,hr⟩
      all_goals rcases htv with ⟨kl0,_,rfl | rfl⟩ | ⟨b,off2,hb,⟨c2,rfl⟩ | ⟨c2,rfl⟩,hr2⟩
      all_goals first | (exfalso; omega) | skip
      all_goals
        first | clear hr | skip
        first | clear hr2 | skip
        refine WC.enterP (noO_ok _ _) hG6 pl27 Tryd.func27 rfl (by decide +kernel) (Nat.le_of_ble_eq_true (by kernel_rfl)) ?_
        iterate 6 (all_goals try (first | with_reducible refine splitI (fun h=>?_) (fun h=>?_) | with_reducible refine splitBI (fun h=>?_) (fun h=>?_) | simp (disch:=first | assumption | omega | (simp; done) | fail) [Tryd.results27, *]))
        refine WC.mono (rcheckVars_w vs _ _ _ HSV.out (by omega)) ?_
        rintro _ rfl
        iterate 12 (all_goals try (first | with_reducible refine splitI (fun h=>?_) (fun h=>?_) | with_reducible refine splitBI (fun h=>?_) (fun h=>?_) | simp (disch:=first | assumption | omega | (simp; done) | fail) [Tryd.results27, *]))
        all_goals (exfalso; have hL:=HL.out; first | omega | (rw [h] at hL; simp at hL; omega) | (rw [h] at hL; simp [hl0] at hL) | (rw [h] at hL; simp [kl0] at hL))
  · have hv:ret=checkVarsM vs:=by rw [← HRET.out,checkValuesM,if_pos h0]
    refine WC.enterP (noO_ok _ _) hG6 pl27 Tryd.func27 rfl (by decide +kernel) (Nat.le_of_ble_eq_true (by kernel_rfl)) ?_
    have HV:=Hide.mk hv
    clear hv
    iterate 6 (all_goals try (first | with_reducible refine splitI (fun h=>?_) (fun h=>?_) | with_reducible refine splitBI (fun h=>?_) (fun h=>?_) | simp (disch:=first | assumption | omega | (simp; done) | fail) [Tryd.results27, *]))
    refine WC.mono (rcheckVars_w vs _ _ _ HSV.out (by omega)) ?_
    rintro _ rfl
    iterate 12 (all_goals try (first | with_reducible refine splitI (fun h=>?_) (fun h=>?_) | with_reducible refine splitBI (fun h=>?_) (fun h=>?_) | simp (disch:=first | assumption | omega | (simp; done) | fail) [Tryd.results27, *]))
    exact HV.out.symm
end Go.Ai
end
section
namespace Go.Ai
open Go.Proofs
set_option maxRecDepth 10000
set_option maxHeartbeats 4000000
def subsM (op:Nat) : Int:=if op < 2 then 0 else if op=2∨op=9 then 1 else if 11 < op then -1 else 2
theorem subs_w (op:Nat) (H:Mem) : WC 6 Tryd.prog 62 [.lit (.int .u8 op)] H fun r=>r=.ret (.lit (.int .i64 (subsM op))) H:=by
  generalize hret:subsM op=ret
  have HRET:=Hide.mk hret
  clear hret
  refine WC.enterP (noO_ok _ _) hG6 [] Tryd.func62 rfl (by decide +kernel) (Nat.le_of_ble_eq_true (by kernel_rfl)) ?_
  iterate 20 (all_goals try (first | with_reducible refine splitI (fun h=>?_) (fun h=>?_) | with_reducible refine splitBI (fun h=>?_) (fun h=>?_) | simp (disch:=first | assumption | omega | (simp; done) | fail) [Tryd.results62, *]))
  all_goals
    have hr:=HRET.out
    unfold subsM at hr
    rw [← hr]
    first
    | (exfalso; omega)
    | (rw [if_pos (by omega)])
    | (rw [if_neg (by omega),if_pos (by omega)])
    | (rw [if_neg (by omega),if_neg (by omega),if_pos (by omega)])
    | (rw [if_neg (by omega),if_neg (by omega),if_neg (by omega)])
theorem subsM_eq {op:Nat} (h:op < 12) : subsM op=(rowAt op).subs:=by
  have:op=0∨op=1∨op=2∨op=3∨op=4∨op=5∨op=6∨op=7∨op=8∨op=9∨op=10∨op=11:=by omega
  rcases this with rfl | rfl | rfl | rfl | rfl | rfl | rfl | rfl | rfl | rfl | rfl | rfl <;> rfl
theorem subsM_big {op:Nat} (h:12≤op) : subsM op = -1:=by
  unfold subsM; rw [if_neg (by omega),if_neg (by omega),if_pos (by omega)]
def badM (vars:Int) (op:Nat) (q:Int) (len:Nat) : Prop:=(len:Int)≠subsM op∨q < 0∨(1 < op∧q≠0)∨(op=1∧vars≤q)∨2147483648 < q
theorem shaped_bad {vars q:Int} {op:Nat} {subs:List NodeM} (hv:vars≤1000000) (h:badM vars op q subs.length) : shapedM vars (.mk op q subs)=false:=by
  cases hs:shapedM vars (.mk op q subs) with
  | false=>rfl
  | true =>
    exfalso
    simp only [shapedM,Bool.and_eq_true,decide_eq_true_eq] at hs
    obtain ⟨h1,h2,h3,h4,_⟩:=hs
    rw [most_iff] at h4
    unfold badM at h
    rw [subsM_eq h1] at h
    omega
theorem shaped_good {vars q:Int} {op:Nat} {subs:List NodeM} (h:¬badM vars op q subs.length) : shapedM vars (.mk op q subs)=shapedL vars subs:=by
  unfold badM at h
  have h12:op < 12:=by
    rcases Nat.lt_or_ge op 12 with h1 | h1
    · exact h1
    · exfalso; rw [subsM_big h1] at h; omega
  rw [subsM_eq h12] at h
  unfold shapedM
  rw [decide_eq_true h12,decide_eq_true (by omega:(subs.length:Int)=(rowAt op).subs),decide_eq_true (by omega:0≤q),decide_eq_true (most_iff.2 (by omega) : q≤mostM op vars)]
  simp
theorem shape_w:∀ (m:Nat),m≤1000000→∀ (x:NodeM),sizeN x≤m→∀ (g:Nat→Option Blk) (n:Nat) (cs:List AV) (vars:Int),0≤vars→vars≤1000000→repN g n x cs →
    WC 6 Tryd.prog 47 [.agg cs,.lit (.int .i64 vars)] ⟨.fn g,n⟩ fun r=>r=.ret (.lit (.int .i64 (truthM (shapedM vars x)))) ⟨.fn g,n⟩:=by
  intro m
  induction m with
  | zero=>intro _ x hx; cases x; unfold sizeN at hx; omega
  | succ m ihm =>
    intro hm x hx g n cs vars hm0 hm1 hr
    have IH:=Hide.mk ihm
    clear ihm
    refine WC.drop1 rfl ?_
    cases x with
    | mk op q subs =>
      obtain ⟨hop,sv,rfl,hsv⟩:=hr
      generalize hret:truthM (shapedM vars (.mk op q subs))=ret
      have HRET:=Hide.mk hret
      clear hret
      have HBAD:Hide (badM vars op q subs.length→ret=0):=⟨fun h=>by rw [← HRET.out,shaped_bad hm1 h]; rfl⟩
      have HGOOD:Hide (¬badM vars op q subs.length→ret=truthM (shapedL vars subs)):=⟨fun h=>by rw [← HRET.out,shaped_good h]⟩
      have hsz:sizeL subs≤m:=by unfold sizeN at hx; omega
      have hlen:subs.length≤1000000:=Nat.le_trans (len_size subs) (by omega)
      obtain ⟨sv',hq⟩ : ∃ sv',Hide (sv'=sv):=⟨_,⟨rfl⟩⟩
      have h1a:allOne [.lit (.int .u8 op),.lit (.int .i64 q),sv]=true:=by
        have h1c:oneC sv=true:=by rcases hsv with ⟨_,rfl | rfl⟩ | ⟨a,off,r,_,⟨c,rfl⟩ | ⟨c,rfl⟩,_⟩ <;> rfl
        simp [h1c]
      have HH:=Hide.mk h1a
      generalize hsm:subsM op=sm
      have HSM:=Hide.mk hsm
      have HLEN:Hide (badM vars op q subs.length↔((subs.length:Int)≠sm∨q < 0∨(1 < op∧q≠0)∨(op=1∧vars≤q)∨2147483648 < q)):=⟨by rw [← hsm]; exact Iff.rfl⟩
      rcases hsv with ⟨hsub,rfl | rfl⟩ | ⟨a,off,r,han,⟨c,rfl⟩ | ⟨c,rfl⟩,hrow,hrep⟩
      all_goals
        by_cases hs0:(subs.length:Int)=sm
        rotate_left 1
        · have hr0:ret=0:=HBAD.out (HLEN.out.2 (.inl hs0))
          first | (have hs1:¬(0:Int)=sm:=(by intro e; rw [hsub] at hs0; exact hs0 e)) | skip
          clear hsm
          first | clear hrow hrep | clear hsub
          refine WC.enterP (noO_ok _ _) hG6 pl47 Tryd.func47 rfl (by decide +kernel) (Nat.le_of_ble_eq_true (by kernel_rfl)) ?_
          iterate 12 (all_goals try (first | with_reducible refine splitI (fun h=>?_) (fun h=>?_) | with_reducible refine splitBI (fun h=>?_) (fun h=>?_) | simp (disch:=first | assumption | omega | (simp; done) | fail) [Tryd.results47, *]))
          refine WC.mono (subs_w op _) ?_
          rintro _ rfl
          rw [HSM.out]
          iterate 40 (all_goals try (first | with_reducible refine splitI (fun h=>?_) (fun h=>?_) | with_reducible refine splitBI (fun h=>?_) (fun h=>?_) | simp (disch:=first | assumption | omega | (simp; done) | fail) [Tryd.results47, *]))
          all_goals exact ⟨Nat.le_succ _,fun b hb=>gput_lt hb⟩
        have HS0:=Hide.mk hs0
        first
        | (have hsm0:sm=0:=by rw [← hs0,hsub]; rfl
           clear hs0
           subst hsm0)
        | subst hs0
        clear hsm
        refine WC.enterP (noO_ok _ _) hG6 pl47 Tryd.func47 rfl (by decide +kernel) (Nat.le_of_ble_eq_true (by kernel_rfl)) ?_
        iterate 12 (all_goals try (first | with_reducible refine splitI (fun h=>?_) (fun h=>?_) | with_reducible refine splitBI (fun h=>?_) (fun h=>?_) | simp (disch:=first | assumption | omega | (simp; done) | fail) [Tryd.results47, *]))
        refine WC.mono (subs_w op _) ?_
        rintro _ rfl
        rw [HSM.out]
        iterate 40 (all_goals try (first | with_reducible refine splitI (fun h=>?_) (fun h=>?_) | with_reducible refine splitBI (fun h=>?_) (fun h=>?_) | simp (disch:=first | assumption | omega | (simp; done) | fail) [Tryd.results47, *]))
      all_goals try (refine ⟨_,⟨(HBAD.out (HLEN.out.2 (by omega))).symm,rfl⟩,⟨Nat.le_succ _,fun b hb=>gput_lt hb⟩⟩)
      all_goals
        have HMO:Hide (ret=truthM (shapedL vars subs)):=⟨HGOOD.out (fun e=>by have:=HLEN.out.1 e; have:=HS0.out; omega)⟩
        refine LX.ind (fun m gf H'=>∃ (k n' : Nat) (g' : Nat→Option Blk),k≤subs.length∧m=subs.length - k∧H'=⟨.fn g',n'⟩∧n < n'∧(∀ b,b < n→g' b=g b)∧g' n=some (.cells [.lit (.int .u8 op),.lit (.int .i64 q),sv'] true 0) ∧
          gf 2=some (.ptr n 0)∧gf 1=some (.lit (.int .i64 vars))∧gf 5=some (.lit (.int .i64 k))∧ret=truthM (shapedL vars (subs.drop k))) (m0:=subs.length) ?_ ?_
        · exact ⟨0,n+1,_,Nat.zero_le _,rfl,rfl,by omega,fun b hb=>gput_lt hb,by simp [*,hq.out],by simp [*],by simp [*],by simp [*],HMO.out⟩
        rintro m' gf H' ⟨k,n',g',hk,rfl,rfl,hn',hg',hgn,g2,g1,g5,hc⟩ ih
        refine LX.roundP (noO_ok _ _) hG6 pl47 (by decide +kernel) ?_
        rw [hq.out] at hgn
        have HG:=Hide.mk hg'
        have HC:=Hide.mk hc
        clear hg' hc
        by_cases hlt:k < subs.length
        · first
          | (exfalso; rw [hsub] at hlt; simp at hlt; done)
          | (have hy0:=repL_at hrep k hlt
             have hrl:=repL_len hrep
             have hrow':=(hrow.mono (HG.out a han)).agg (k:=k * 3) (s:=3) (by omega)
             have hdrop:subs.drop k=subs[k] :: subs.drop (k+1):=List.drop_eq_getElem_cons hlt
             have hszy:sizeN subs[k]≤m:=Nat.le_trans (size_mem (List.getElem_mem hlt)) hsz
             generalize subs[k]=y at hy0 hdrop hszy
             obtain ⟨k2,sv2,hcy,h1c,hop2⟩:=repN_op hy0
             rw [hcy] at hrow' hy0
             generalize hop3:y.op=op2 at hcy hrow' hy0 hop2
             have h2a:allOne [.lit (.int .u8 op2),.lit (.int .i64 k2),sv2]=true:=by simp [h1c]
             have HY:=Hide.mk hy0
             have HD:=Hide.mk hdrop
             have HR:=Hide.mk hrep
             have HR2:=Hide.mk hrow
             have hlt' : (k:Int) < (subs.length:Int):=by omega
             clear hy0 hdrop hrep hrow hcy hrl hop3
             iterate 40 (all_goals try (first | with_reducible refine splitI (fun h=>?_) (fun h=>?_) | with_reducible refine splitBI (fun h=>?_) (fun h=>?_) | simp (disch:=first | assumption | omega | (simp; done) | fail) [Tryd.results47, *]))
             refine WC.mono (IH.out (by omega) y hszy _ _ _ vars hm0 hm1 (repN_mono (b':=n') (by omega) (fun a ha=>HG.out a ha) HY.out)) ?_
             rintro _ rfl
             cases hsy:shapedM vars y with
             | false =>
               have hr0:ret=0:=by rw [HC.out,HD.out,shapedL,hsy]; rfl
               iterate 10 (all_goals try (first | with_reducible refine splitI (fun h=>?_) (fun h=>?_) | with_reducible refine splitBI (fun h=>?_) (fun h=>?_) | simp (disch:=first | assumption | omega | (simp; done) | fail) [Tryd.results47, *]))
               exact ⟨Nat.le_of_lt hn',fun b hb=>HG.out b hb⟩
             | true =>
               iterate 10 (all_goals try (first | with_reducible refine splitI (fun h=>?_) (fun h=>?_) | with_reducible refine splitBI (fun h=>?_) (fun h=>?_) | simp (disch:=first | assumption | omega | (simp; done) | fail) [Tryd.results47, *]))
               refine ih.out (subs.length - (k+1)) _ _ (by omega) ⟨k+1,n',_,hlt,rfl,rfl,by omega,HG.out,by simp [*,hq.out],by simp [*],by simp [*],by simp [*],?_⟩
               rw [HC.out,HD.out,shapedL,hsy,Bool.true_and])
        · have HDN:=Hide.mk (List.drop_eq_nil_of_le (by omega) : subs.drop k=[])
          have hkn:k=subs.length:=by omega
          subst hkn
          have hr1:ret=1:=by rw [HC.out,HDN.out,shapedL]; rfl
          first | clear hsub | clear hrep hrow
          iterate 10 (all_goals try (first | with_reducible refine splitI (fun h=>?_) (fun h=>?_) | with_reducible refine splitBI (fun h=>?_) (fun h=>?_) | simp (disch:=first | assumption | omega | (simp; done) | fail) [Tryd.results47, *]))
          all_goals first
            | (exfalso; omega)
            | exact ⟨Nat.le_of_lt hn',fun b hb=>HG.out b hb⟩
end Go.Ai
end
section
namespace Go.Ai
open Go.Proofs
set_option maxRecDepth 10000
set_option maxHeartbeats 4000000
theorem types_w:∀ (m:Nat),m≤1000000→∀ (x:NodeM),sizeN x≤m→∀ (g:Nat→Option Blk) (n:Nat) (cs:List AV) (vars:Int),repN g n x cs→shapedM vars x=true →
    WC 6 Tryd.prog 48 [.agg cs] ⟨.fn g,n⟩ fun r=>r=.ret (.lit (.int .i64 (truthM (typedM x)))) ⟨.fn g,n⟩:=by
  intro m
  induction m with
  | zero=>intro _ x hx; cases x; unfold sizeN at hx; omega
  | succ m ihm =>
    intro hm x hx g n cs vars hr hsh
    have IH:=Hide.mk ihm
    clear ihm
    refine WC.drop1 rfl ?_
    cases x with
    | mk op q subs =>
      obtain ⟨hop,sv,rfl,hsv⟩:=hr
      generalize hret:truthM (typedM (.mk op q subs))=ret
      have HRET:=Hide.mk hret
      clear hret
      have hsz:sizeL subs≤m:=by unfold sizeN at hx; omega
      have hlen:subs.length≤1000000:=Nat.le_trans (len_size subs) (by omega)
      obtain ⟨sv',hq⟩ : ∃ sv',Hide (sv'=sv):=⟨_,⟨rfl⟩⟩
      simp only [shapedM,Bool.and_eq_true,decide_eq_true_eq] at hsh
      obtain ⟨h12,hsl,_,_,hshl⟩:=hsh
      have HSH:=Hide.mk hshl
      have HMO:Hide (ret=truthM (typedL (rowAt op).numbers subs)):=⟨by rw [← HRET.out,typedM]⟩
      have HNB:Hide (subs≠[]→(rowAt op).numbers=decide (op < 9)):=⟨fun hne=>numbers_op op (by
        rcases Nat.lt_or_ge op 2 with h2 | h2
        · exfalso; rw [subs0 op h2] at hsl; exact hne (List.length_eq_zero_iff.1 (by omega))
        · exact h2) h12⟩
      clear hshl hsl
      have h9c:(9:Int)≤(op:Int)∨¬(9:Int)≤(op:Int):=by omega
      have h1a:allOne [.lit (.int .u8 op),.lit (.int .i64 q),sv]=true:=by
        have h1c:oneC sv=true:=by rcases hsv with ⟨_,rfl | rfl⟩ | ⟨a,off,r,_,⟨c,rfl⟩ | ⟨c,rfl⟩,_⟩ <;> rfl
        simp [h1c]
      generalize (rowAt op).numbers=nb at HMO HNB
      rcases hsv with ⟨hsub,rfl | rfl⟩ | ⟨a,off,r,han,⟨c,rfl⟩ | ⟨c,rfl⟩,hrow,hrep⟩
      all_goals rcases h9c with h9 | h9
      all_goals refine WC.enterP (noO_ok _ _) hG6 [] Tryd.func48 rfl (by decide +kernel) (Nat.le_of_ble_eq_true (by kernel_rfl)) ?_
      all_goals
        iterate 12 (all_goals try (first | with_reducible refine splitI (fun h=>?_) (fun h=>?_) | with_reducible refine splitBI (fun h=>?_) (fun h=>?_) | simp (disch:=first | assumption | omega | (simp; done) | fail) [Tryd.results48, *]))
        refine LX.ind (fun m gf H'=>∃ (k n' : Nat) (g' : Nat→Option Blk),k≤subs.length∧m=subs.length - k∧H'=⟨.fn g',n'⟩∧n < n'∧(∀ b,b < n→g' b=g b)∧g' n=some (.cells [.lit (.int .u8 op),.lit (.int .i64 q),sv'] true 0) ∧
          gf 1=some (.ptr n 0)∧gf 3=some (.lit (.int .i64 k))∧ret=truthM (typedL nb (subs.drop k))) (m0:=subs.length) ?_ ?_
        · exact ⟨0,n+1,_,Nat.zero_le _,rfl,rfl,by omega,fun b hb=>gput_lt hb,by simp [hq.out],by simp,by simp,HMO.out⟩
        rintro m' gf H' ⟨k,n',g',hk,rfl,rfl,hn',hg',hgn,g1,g3,hc⟩ ih
        refine LX.roundP (noO_ok _ _) hG6 [] (by decide +kernel) ?_
        rw [hq.out] at hgn
        have HG:=Hide.mk hg'
        have HC:=Hide.mk hc
        clear hg' hc
        by_cases hlt:k < subs.length
        · first
          | (exfalso; rw [hsub] at hlt; simp at hlt; done)
          | (have hnb:nb=decide (op < 9):=HNB.out (fun e=>by rw [e] at hlt; simp at hlt)
             have hy0:=repL_at hrep k hlt
             have hrl:=repL_len hrep
             have hrow':=(hrow.mono (HG.out a han)).agg (k:=k * 3) (s:=3) (by omega)
             have hdrop:subs.drop k=subs[k] :: subs.drop (k+1):=List.drop_eq_getElem_cons hlt
             have hszy:sizeN subs[k]≤m:=Nat.le_trans (size_mem (List.getElem_mem hlt)) hsz
             have hshy:shapedM vars subs[k]=true:=shapedL_mem HSH.out _ (List.getElem_mem hlt)
             generalize subs[k]=y at hy0 hdrop hszy hshy
             obtain ⟨k2,sv2,hcy,h1c,hop2⟩:=repN_op hy0
             rw [hcy] at hrow' hy0
             have HS2:=Hide.mk hshy
             have HO:Hide (typedL nb (y :: subs.drop (k+1))=(!(condM y.op == nb) && (typedM y && typedL nb (subs.drop (k+1))))):=⟨by rw [typedL]⟩
             have HRC:=Hide.mk (fun g n h=>refCond_w y g n [.lit (.int .u8 y.op),.lit (.int .i64 k2),sv2] h)
             have hcm:condM y.op=decide (6≤y.op):=by unfold condM; by_cases h:6≤y.op <;> simp [h] <;> omega
             generalize y.op=op2 at hcy hrow' hy0 hop2 HO HRC hcm
             have h2a:allOne [.lit (.int .u8 op2),.lit (.int .i64 k2),sv2]=true:=by simp [h1c]
             have HY:=Hide.mk hy0
             have HD:=Hide.mk hdrop
             have HR:=Hide.mk hrep
             have HR2:=Hide.mk hrow
             have HCM:=Hide.mk hcm
             have HNB2:=Hide.mk hnb
             have hlt' : (k:Int) < (subs.length:Int):=by omega
             clear hy0 hdrop hrep hrow hcy hrl hcm hshy hnb
             iterate 40 (all_goals try (first | with_reducible refine splitI (fun h=>?_) (fun h=>?_) | with_reducible refine splitBI (fun h=>?_) (fun h=>?_) | simp (disch:=first | assumption | omega | (simp; done) | fail) [Tryd.results48, *]))
             refine WC.mono (HRC.out _ _ (repN_mono (b':=n') (by omega) (fun a ha=>HG.out a ha) HY.out)) ?_
             rintro _ rfl
             by_cases h6:6≤op2
             all_goals
               first | rw [decide_eq_true h6] | rw [decide_eq_false h6]
               iterate 40 (all_goals try (first | with_reducible refine splitI (fun h=>?_) (fun h=>?_) | with_reducible refine splitBI (fun h=>?_) (fun h=>?_) | simp (disch:=first | assumption | omega | (simp; done) | fail) [Tryd.results48, *]))
               first
               | (refine ⟨_,⟨?_,rfl⟩,⟨Nat.le_of_lt hn',fun b hb=>HG.out b hb⟩⟩
                  rw [HC.out,HD.out,HO.out,HCM.out,HNB2.out]
                  simp [h6,truthM]
                  try omega
                  done)
               | (refine WC.mono (IH.out (by omega) y hszy _ _ _ vars (repN_mono (b':=n') (by omega) (fun a ha=>HG.out a ha) HY.out) HS2.out) ?_
                  rintro _ rfl
                  have hc9:(condM op2 == nb)=false:=by rw [HCM.out,HNB2.out]; first | (simp [h6]; omega) | (simp [h6]; done)
                  cases hty:typedM y with
                  | false =>
                    have hr0:ret=0:=by rw [HC.out,HD.out,HO.out,hty]; simp [truthM]
                    clear hc9
                    iterate 20 (all_goals try (first | with_reducible refine splitI (fun h=>?_) (fun h=>?_) | with_reducible refine splitBI (fun h=>?_) (fun h=>?_) | simp (disch:=first | assumption | omega | (simp; done) | fail) [Tryd.results48, *]))
                    exact ⟨Nat.le_of_lt hn',fun b hb=>HG.out b hb⟩
                  | true =>
                    have HC9:=Hide.mk hc9
                    clear hc9
                    iterate 20 (all_goals try (first | with_reducible refine splitI (fun h=>?_) (fun h=>?_) | with_reducible refine splitBI (fun h=>?_) (fun h=>?_) | simp (disch:=first | assumption | omega | (simp; done) | fail) [Tryd.results48, *]))
                    refine ih.out (subs.length - (k+1)) _ _ (by omega) ⟨k+1,n',_,hlt,rfl,rfl,by omega,HG.out,by simp [*,hq.out],by simp [*],by simp [*],?_⟩
                    rw [HC.out,HD.out,HO.out,hty,HC9.out]
                    simp))
        · have HDN:=Hide.mk (List.drop_eq_nil_of_le (by omega) : subs.drop k=[])
          have hkn:k=subs.length:=by omega
          subst hkn
          have hr1:ret=1:=by rw [HC.out,HDN.out,typedL]; rfl
          first | clear hsub | clear hrep hrow
          iterate 10 (all_goals try (first | with_reducible refine splitI (fun h=>?_) (fun h=>?_) | with_reducible refine splitBI (fun h=>?_) (fun h=>?_) | simp (disch:=first | assumption | omega | (simp; done) | fail) [Tryd.results48, *]))
          all_goals first
            | (exfalso; omega)
            | exact ⟨Nat.le_of_lt hn',fun b hb=>HG.out b hb⟩
end Go.Ai
end
section
namespace Go.Ai
open Go.Proofs
set_option maxRecDepth 10000
set_option maxHeartbeats 4000000
mutual
theorem small_inv:∀ (x:NodeM) (left:Int),(smallM x left).1=true→(sizeN x:Int)≤left∧(smallM x left).2=left - sizeN x
  | .mk op k subs,left,h=>by
    unfold smallM at h ⊢
    obtain ⟨h1,h2⟩:=smallL_inv subs (left - 1) h
    rw [h2]
    unfold sizeN
    omega
theorem smallL_inv:∀ (l:List NodeM) (left:Int),(smallL l left).1=true→(sizeL l:Int)≤left∧(smallL l left).2=left - sizeL l
  | [],left,h=>by
    simp only [smallL,decide_eq_true_eq] at h
    simp only [smallL,sizeL]
    omega
  | x :: l,left,h=>by
    unfold smallL at h ⊢
    by_cases h0:left < 0
    · rw [if_pos h0] at h; cases h
    rw [if_neg h0] at h ⊢
    have hx:=small_inv x left
    generalize smallM x left=p at h hx
    obtain ⟨b,left'⟩:=p
    cases b with
    | false=>cases h
    | true =>
      dsimp only at h hx ⊢
      obtain ⟨h1,h2⟩:=hx rfl
      obtain ⟨h3,h4⟩:=smallL_inv l left' h
      rw [h4]
      show ((sizeN x+sizeL l:Nat) : Int)≤left∧_=left - ((sizeN x+sizeL l:Nat) : Int)
      omega
end
theorem count_big (x:NodeM) (most:Int) : most < countM x most↔most < sizeN x:=by
  have h1:=count_le x most
  have h2:=count_eq x most
  constructor
  · intro h; omega
  · intro h
    rcases Int.lt_or_le most (countM x most) with h3 | h3
    · exact h3
    · have:=h2 h3; omega
theorem small_count (x:NodeM) : (smallM x 64).1=false↔64 < countM x 64:=by
  rw [count_big]
  constructor
  · intro h
    rcases Int.lt_or_le 64 (sizeN x:Int) with h3 | h3
    · exact h3
    · rw [small_ok' x 64 h3] at h; cases h
  · intro h
    cases hs:(smallM x 64).1 with
    | false=>rfl
    | true=>have:=(small_inv x 64 hs).1; omega
theorem rcheck_w (vs:List VarM) (x:NodeM) (g:Nat→Option Blk) (n:Nat) (sv:AV) (cs:List AV) (hsv:SliceV g n sv vs.length (vs.flatMap VarM.cells)) (hn:vs.length≤1000000) (hx:sizeN x≤1000000) (hrep:repN g n x cs) :
    WC 6 Tryd.prog 26 [sv,.agg cs] ⟨.fn g,n⟩ fun r=>r=.ret (.lit (.int .i64 (checkM vs x))) ⟨.fn g,n⟩:=by
  refine WC.drop1 rfl ?_
  generalize hret:checkM vs x=ret
  have HRET:=Hide.mk hret
  clear hret
  obtain ⟨k2,sv2,hcy,h1c,hop2⟩:=repN_op hrep
  subst hcy
  have h1a:allOne [.lit (.int .u8 x.op),.lit (.int .i64 k2),sv2]=true:=by simp [h1c]
  have HSV:=Hide.mk hsv
  have HREP:=Hide.mk (repN_mono (b':=n+1) (g':=gput g n (some (.cells [.lit (.int .u8 x.op),.lit (.int .i64 k2),sv2] true 0))) (by omega) (fun b hb=>gput_lt hb) hrep)
  have HCK:Hide (∀ v:Int,v=vs.length→checkVarsM vs=0→¬(smallM x 64).1=false→ret=if shapedM v x=false then 1 else if typedM x=false then 15 else 0):=⟨fun v hv c0 c1=>by rw [← HRET.out,checkM,if_neg (by rw [c0]; simp),if_neg c1,hv]⟩
  have HSC:=Hide.mk (small_count x)
  have HCL:=Hide.mk (count_le x 64)
  have hsize:=hx
  clear hrep
  have fin:Hide (∀ e,ret=e→∃ H',(e=ret∧(⟨.fn (gput g n (some (.cells [.lit (.int .u8 x.op),.lit (.int .i64 k2),sv2] true 0))),n+1⟩ : Mem)=H')∧Ge ⟨.fn g,n⟩ H'):=⟨fun e he=>⟨_,⟨he.symm,rfl⟩,⟨Nat.le_succ _,fun b hb=>gput_lt hb⟩⟩⟩
  rcases hsv with ⟨hl0,_,rfl | rfl⟩ | ⟨a,off,ha,⟨c,rfl⟩ | ⟨c,rfl⟩,hr⟩
  all_goals
    first | clear hr | skip
    refine WC.enterP (noO_ok _ _) hG6 [] Tryd.func26 rfl (by decide +kernel) (Nat.le_of_ble_eq_true (by kernel_rfl)) ?_
    iterate 12 (all_goals try (first | with_reducible refine splitI (fun h=>?_) (fun h=>?_) | with_reducible refine splitBI (fun h=>?_) (fun h=>?_) | simp (disch:=first | assumption | omega | (simp; done) | fail) [Tryd.results26, *]))
    refine WC.mono (rcheckVars_w vs _ _ _ (HSV.out.mono (b':=n+1) (by omega) (fun b hb=>gput_lt hb)) (by omega)) ?_
    rintro _ rfl
    by_cases c0:checkVarsM vs=0
    rotate_left 1
    · have hr0:ret=checkVarsM vs:=by rw [← HRET.out,checkM,if_pos c0]
      generalize checkVarsM vs=cv at c0 hr0
      iterate 12 (all_goals try (first | with_reducible refine splitI (fun h=>?_) (fun h=>?_) | with_reducible refine splitBI (fun h=>?_) (fun h=>?_) | simp (disch:=first | assumption | omega | (simp; done) | fail) [Tryd.results26, *]))
      all_goals exact ⟨Nat.le_succ _,fun b hb=>gput_lt hb⟩
    rw [c0]
    have C0:=Hide.mk c0
    clear c0
    iterate 12 (all_goals try (first | with_reducible refine splitI (fun h=>?_) (fun h=>?_) | with_reducible refine splitBI (fun h=>?_) (fun h=>?_) | simp (disch:=first | assumption | omega | (simp; done) | fail) [Tryd.results26, *]))
    refine WC.mono (count_w 1000000 (Nat.le_refl _) x hsize _ _ _ 64 (by omega) (by omega) HREP.out) ?_
    rintro _ rfl
    by_cases c1:64 < countM x 64
    · have hr0:ret=3:=by rw [← HRET.out,checkM,if_neg (by rw [C0.out]; simp),if_pos (HSC.out.2 c1)]
      generalize countM x 64=cn at c1
      iterate 12 (all_goals try (first | with_reducible refine splitI (fun h=>?_) (fun h=>?_) | with_reducible refine splitBI (fun h=>?_) (fun h=>?_) | simp (disch:=first | assumption | omega | (simp; done) | fail) [Tryd.results26, *]))
      all_goals exact ⟨Nat.le_succ _,fun b hb=>gput_lt hb⟩
    have C1:Hide (¬(smallM x 64).1=false):=⟨fun e=>c1 (HSC.out.1 e)⟩
    generalize countM x 64=cn at c1
    iterate 12 (all_goals try (first | with_reducible refine splitI (fun h=>?_) (fun h=>?_) | with_reducible refine splitBI (fun h=>?_) (fun h=>?_) | simp (disch:=first | assumption | omega | (simp; done) | fail) [Tryd.results26, *]))
    refine WC.mono (shape_w 1000000 (Nat.le_refl _) x hsize _ _ _ _ (by omega) (by omega) HREP.out) ?_
    rintro _ rfl
    first
    | (have hz:(0:Int)=vs.length:=by omega
       have HZ:=Hide.mk hz
       clear hz
       cases c2:shapedM 0 x)
    | (have HZ:Hide ((vs.length:Int)=vs.length):=⟨rfl⟩
       cases c2:shapedM (vs.length:Int) x)
    · have hr0:ret=1:=by rw [HCK.out _ HZ.out C0.out C1.out,if_pos c2]
      iterate 12 (all_goals try (first | with_reducible refine splitI (fun h=>?_) (fun h=>?_) | with_reducible refine splitBI (fun h=>?_) (fun h=>?_) | simp (disch:=first | assumption | omega | (simp; done) | fail) [Tryd.results26, *]))
      all_goals exact ⟨Nat.le_succ _,fun b hb=>gput_lt hb⟩
    have C2:=Hide.mk c2
    clear c2
    iterate 12 (all_goals try (first | with_reducible refine splitI (fun h=>?_) (fun h=>?_) | with_reducible refine splitBI (fun h=>?_) (fun h=>?_) | simp (disch:=first | assumption | omega | (simp; done) | fail) [Tryd.results26, *]))
    refine WC.mono (types_w 1000000 (Nat.le_refl _) x hsize _ _ _ _ HREP.out C2.out) ?_
    rintro _ rfl
    cases c3:typedM x
    · have hr0:ret=15:=by rw [HCK.out _ HZ.out C0.out C1.out,if_neg (by rw [C2.out]; simp),if_pos c3]
      iterate 12 (all_goals try (first | with_reducible refine splitI (fun h=>?_) (fun h=>?_) | with_reducible refine splitBI (fun h=>?_) (fun h=>?_) | simp (disch:=first | assumption | omega | (simp; done) | fail) [Tryd.results26, *]))
      all_goals exact ⟨Nat.le_succ _,fun b hb=>gput_lt hb⟩
    · have hr0:ret=0:=by rw [HCK.out _ HZ.out C0.out C1.out,if_neg (by rw [C2.out]; simp),if_neg (by rw [c3]; simp)]
      iterate 12 (all_goals try (first | with_reducible refine splitI (fun h=>?_) (fun h=>?_) | with_reducible refine splitBI (fun h=>?_) (fun h=>?_) | simp (disch:=first | assumption | omega | (simp; done) | fail) [Tryd.results26, *]))
      all_goals exact ⟨Nat.le_succ _,fun b hb=>gput_lt hb⟩
end Go.Ai
end
section
namespace Go.Ai
open Go.Proofs
set_option maxRecDepth 10000
set_option maxHeartbeats 4000000
def rankM (op:Nat) : Int:=if op=11 then 1 else if op=10 then 2 else if op=9 then 3 else if op=6∨op=7∨op=8 then 4 else if op=3∨op=4 then 5 else if op=5 then 6 else if op=2 then 7 else 8
theorem rank_w (op:Nat) (H:Mem) : WC 6 Tryd.prog 38 [.lit (.int .u8 op)] H fun r=>r=.ret (.lit (.int .i64 (rankM op))) H:=by
  by_cases h12:op < 12
  · have hop:op=0∨op=1∨op=2∨op=3∨op=4∨op=5∨op=6∨op=7∨op=8∨op=9∨op=10∨op=11:=by omega
    rcases hop with rfl | rfl | rfl | rfl | rfl | rfl | rfl | rfl | rfl | rfl | rfl | rfl
    all_goals
      refine WC.enterP (noO_ok _ _) hG6 [] Tryd.func38 rfl (by decide +kernel) (Nat.le_of_ble_eq_true (by kernel_rfl)) ?_
      iterate 12 (all_goals try (first | with_reducible refine splitI (fun h=>?_) (fun h=>?_) | with_reducible refine splitBI (fun h=>?_) (fun h=>?_) | simp (disch:=first | assumption | omega | (simp; done) | fail) [Tryd.results38, *]))
      all_goals rfl
  · have h1:rankM op=8:=by
      unfold rankM
      rw [if_neg (by omega),if_neg (by omega),if_neg (by omega),if_neg (by omega),if_neg (by omega),if_neg (by omega),if_neg (by omega)]
    have n2:¬(op:Int)=2:=by omega
    have n3:¬(op:Int)=3:=by omega
    have n4:¬(op:Int)=4:=by omega
    have n5:¬(op:Int)=5:=by omega
    have n6:¬(op:Int)=6:=by omega
    have n7:¬(op:Int)=7:=by omega
    have n8:¬(op:Int)=8:=by omega
    have n9:¬(op:Int)=9:=by omega
    have n10:¬(op:Int)=10:=by omega
    have n11:¬(op:Int)=11:=by omega
    refine WC.enterP (noO_ok _ _) hG6 [] Tryd.func38 rfl (by decide +kernel) (Nat.le_of_ble_eq_true (by kernel_rfl)) ?_
    iterate 24 (all_goals try (first | with_reducible refine splitI (fun h=>?_) (fun h=>?_) | with_reducible refine splitBI (fun h=>?_) (fun h=>?_) | simp (disch:=first | assumption | omega | (simp; done) | fail) [Tryd.results38, *]))
    all_goals (exfalso; omega)
def digB (n:Nat) : ByteArray:=⟨#[(48+n).toUInt8]⟩
def decB (n:Nat) : ByteArray:=if h:9 < n then decB (n / 10)++digB (n % 10) else digB n
termination_by n
decreasing_by omega
def tenB:ByteArray:=⟨#[48,49,50,51,52,53,54,55,56,57]⟩
theorem ten_dig {n:Nat} (h:n≤9) : tenB.extract n (n+1)=digB n:=by
  have hn:n=0∨n=1∨n=2∨n=3∨n=4∨n=5∨n=6∨n=7∨n=8∨n=9:=by omega
  rcases hn with rfl | rfl | rfl | rfl | rfl | rfl | rfl | rfl | rfl | rfl <;> decide +kernel
theorem ba_size_append (a b:ByteArray) : (a++b).size=a.size+b.size:=by simp
theorem dig_size (n:Nat) : (digB n).size=1:=rfl
theorem number_w (n:Nat) (hn:n≤2147483648) (H:Mem) : WC 6 Tryd.prog 36 [.lit (.int .i64 n)] H fun r=>r=.ret (.lit (.string (decB n))) H:=by
  generalize hret:decB n=ret
  have HRET:=Hide.mk hret
  clear hret
  refine WC.enterP (noO_ok _ _) hG6 [] Tryd.func36 rfl (by decide +kernel) (Nat.le_of_ble_eq_true (by kernel_rfl)) ?_
  iterate 12 (all_goals try (first | with_reducible refine splitI (fun h=>?_) (fun h=>?_) | with_reducible refine splitBI (fun h=>?_) (fun h=>?_) | simp (disch:=first | assumption | omega | (simp; done) | fail) [Tryd.results36, *]))
  refine LX.ind (fun m gf H'=>∃ (k:Nat) (out:ByteArray),m=k∧H'=H∧gf 0=some (.lit (.int .i64 k))∧gf 3=some (.lit (.string out))∧k≤2147483648∧out.size+k≤4294967296∧ret=decB k++out) (m0:=n) ?_ ?_
  · exact ⟨n,⟨#[]⟩,rfl,rfl,by simp,by simp,hn,by show 0+n≤_; omega,by rw [← HRET.out]; exact (ByteArray.append_empty).symm⟩
  · rintro m gf H' ⟨k,out,rfl,rfl,g0,g3,hk,ho,hr⟩ ih
    have HR:=Hide.mk hr
    clear hr
    refine LX.roundP (noO_ok _ _) hG6 [] (by decide +kernel) ?_
    by_cases h9:9 < m
    · have h9i:(9:Int) < (m:Int):=by omega
      have hlt:m % 10 < 10:=Nat.mod_lt _ (by omega)
      have hlt2:m / 10 < m:=by omega
      have hmod:((m:Int).tmod 10)=(m:Int) % 10:=rfl
      have hdiv:((m:Int).tdiv 10)=(m:Int) / 10:=rfl
      have hts:(⟨#[48,49,50,51,52,53,54,55,56,57]⟩ : ByteArray).size=10:=rfl
      have hex:(⟨#[48,49,50,51,52,53,54,55,56,57]⟩ : ByteArray).extract ((m:Int) % 10).toNat ((m:Int) % 10+1).toNat=digB (m % 10):=by
        rw [show ((m:Int) % 10).toNat=m % 10 by omega,show ((m:Int) % 10+1).toNat=m % 10+1 by omega]
        exact ten_dig (by omega)
      have hds:(digB (m % 10)).size=1:=rfl
      iterate 14 (all_goals try (first | with_reducible refine splitI (fun h=>?_) (fun h=>?_) | with_reducible refine splitBI (fun h=>?_) (fun h=>?_) | simp (disch:=first | assumption | omega | (simp; done) | fail) [Tryd.results36, *]))
      refine ih.out (m / 10) _ _ hlt2 ⟨m / 10,digB (m % 10)++out,rfl,rfl,by simp,by simp,by omega,?_,?_⟩
      · rw [ba_size_append,hds]; omega
      · rw [HR.out,decB,dif_pos h9,ByteArray.append_assoc]
    · have h9i:¬(9:Int) < (m:Int):=by omega
      have hts:(⟨#[48,49,50,51,52,53,54,55,56,57]⟩ : ByteArray).size=10:=rfl
      have hex:(⟨#[48,49,50,51,52,53,54,55,56,57]⟩ : ByteArray).extract m (m+1)=digB m:=ten_dig (by omega)
      have hex2:(⟨#[48,49,50,51,52,53,54,55,56,57]⟩ : ByteArray).extract m ((m:Int)+1).toNat=digB m:=by
        rw [show ((m:Int)+1).toNat=m+1 by omega]; exact hex
      have hds:(digB m).size=1:=rfl
      have hr:digB m++out=ret:=by rw [HR.out,decB,dif_neg h9]
      iterate 14 (all_goals try (first | with_reducible refine splitI (fun h=>?_) (fun h=>?_) | with_reducible refine splitBI (fun h=>?_) (fun h=>?_) | simp (disch:=first | assumption | omega | (simp; done) | fail) [Tryd.results36, *]))
end Go.Ai
end
section
namespace Go.Ai
open Go.Proofs
set_option maxRecDepth 10000
set_option maxHeartbeats 40000000
def parM (s:ByteArray) (r least:Int) : ByteArray:=if r < least then ⟨#[40]⟩++s++⟨#[41]⟩ else s
def joinM (op:Nat) : List (ByteArray×Int)→ByteArray
  | [(a,ra)]=>if op=2 then (rowAt op).sign++parM a ra (rowAt op).l0 else (rowAt op).sign++⟨#[32]⟩++parM a ra (rowAt op).l0
  | [(a,ra),(b,rb)]=>parM a ra (rowAt op).l0++⟨#[32]⟩++(rowAt op).sign++⟨#[32]⟩++parM b rb (rowAt op).l1
  | _=>⟨#[]⟩
mutual
def textM (vs:List VarM) : NodeM→ByteArray
  | .mk op q subs=>if op=0 then decB q.toNat else if op=1 then (match vs[q.toNat]? with | some v=>v.name | none=>⟨#[]⟩) else joinM op (textL vs subs)
def textL (vs:List VarM) : List NodeM→List (ByteArray×Int)
  | []=>[]
  | x :: l=>(textM vs x,rankM x.op) :: textL vs l
end
theorem dec_size (n:Nat) (k:Nat) (h:n < 10 ^ (k+1)) : (decB n).size≤k+1:=by
  induction k generalizing n with
  | zero=>unfold decB; rw [dif_neg (by omega)]; exact Nat.le_refl _
  | succ k ih =>
    unfold decB
    split
    · rw [ba_size_append,dig_size]
      have:=ih (n / 10) (by rw [Nat.pow_succ] at h; omega)
      omega
    · rw [dig_size]; omega
theorem par_size (s:ByteArray) (r l:Int) : (parM s r l).size≤s.size+2:=by
  unfold parM; split
  · rw [ba_size_append,ba_size_append]; show 1+s.size+1≤_; omega
  · omega
theorem sign_size (op:Nat) : (rowAt op).sign.size≤3:=by
  by_cases h:op < 12
  · have hop:op=0∨op=1∨op=2∨op=3∨op=4∨op=5∨op=6∨op=7∨op=8∨op=9∨op=10∨op=11:=by omega
    rcases hop with rfl | rfl | rfl | rfl | rfl | rfl | rfl | rfl | rfl | rfl | rfl | rfl <;> decide
  · have:rowAt op=⟨⟨#[]⟩,0,0,0,0,false,none⟩:=by
      unfold rowAt
      rw [List.getD_eq_getElem?_getD,List.getElem?_eq_none (by rw [opRows_len]; omega)]; rfl
    rw [this]; decide
theorem rank_row {op:Nat} (h:op < 12) : (rowAt op).rank=rankM op:=by
  have hop:op=0∨op=1∨op=2∨op=3∨op=4∨op=5∨op=6∨op=7∨op=8∨op=9∨op=10∨op=11:=by omega
  rcases hop with rfl | rfl | rfl | rfl | rfl | rfl | rfl | rfl | rfl | rfl | rfl | rfl <;> decide
def shortV (vs:List VarM) : Prop:=∀ v∈vs,v.name.size≤60
mutual
theorem text_size {vs:List VarM} (hv:shortV vs) : ∀ (x:NodeM),shapedM vs.length x=true→(textM vs x).size≤64 * sizeN x
  | .mk op q subs,hs=>by
    simp only [shapedM,Bool.and_eq_true,decide_eq_true_eq] at hs
    obtain ⟨h12,hsl,h0,h1,hl⟩:=hs
    have h3:=most_iff.1 h1
    unfold textM sizeN
    by_cases c0:op=0
    · rw [if_pos c0]
      have:=dec_size q.toNat 9 (by omega)
      omega
    rw [if_neg c0]
    by_cases c1:op=1
    · rw [if_pos c1]
      have hk:q.toNat < vs.length:=by omega
      rw [List.getElem?_eq_getElem hk]
      have:=hv _ (List.getElem_mem hk)
      dsimp only
      omega
    rw [if_neg c1]
    have hL:=textL_size hv subs hl
    have hsg:=sign_size op
    match hls:textL vs subs,hL with
    | [],_=>show 0≤_; omega
    | [(a,ra)],hL =>
      have h4:a.size≤64 * sizeL subs:=by simpa using hL
      have hp:=par_size a ra (rowAt op).l0
      dsimp only [joinM]
      by_cases c2:op=2
      · rw [if_pos c2,ba_size_append]; omega
      · rw [if_neg c2,ba_size_append,ba_size_append]; show _+1+_≤_; omega
    | [(a,ra),(b,rb)],hL =>
      have h4:a.size+b.size≤64 * sizeL subs:=by simpa using hL
      have hp:=par_size a ra (rowAt op).l0
      have hp2:=par_size b rb (rowAt op).l1
      dsimp only [joinM]
      rw [ba_size_append,ba_size_append,ba_size_append,ba_size_append]; show _+1+_+1+_≤_; omega
    | _ :: _ :: _ :: _,_=>show 0≤_; omega
theorem textL_size {vs:List VarM} (hv:shortV vs) : ∀ (l:List NodeM),shapedL vs.length l=true→((textL vs l).map (·.1.size)).sum≤64 * sizeL l
  | [],_=>by simp [textL,sizeL]
  | x :: l,hs=>by
    simp only [shapedL,Bool.and_eq_true] at hs
    have h1:=text_size hv x hs.1
    have h2:=textL_size hv l hs.2
    simp only [textL,List.map_cons,List.sum_cons,sizeL]
    omega
end
theorem ops_agg (op:Nat) (h:op < 12) : loadB (some (true,7)) (some opsB) (op * 7)=some (.agg (rowAt op).cells):=by
  have h1:=op_row op h
  unfold opsB
  rw [loadB_agg (by rw [opCells_len]; omega),h1]
  unfold rowAt
  have h3:opRows[op]?=some (opRows[op]'h):=List.getElem?_eq_getElem (show op < opRows.length from h)
  rw [List.getD_eq_getElem?_getD,h3]
  rfl
def ItoaOK:Prop:=∀ (k:Nat),k≤2147483648→∀ (g:Nat→Option Blk) (n:Nat),g 1=some (.cells bP false 0)→1 < n→WC 6 Tryd.prog 53 [.lit (.int .i64 k)] ⟨.fn g,n⟩ fun r=>r=.ret (.lit (.string (decB k))) ⟨.fn g,n⟩
theorem write_w (hI:ItoaOK) (vs:List VarM) (hv:shortV vs) (hvl:vs.length≤1000000) : ∀ (m:Nat),m≤1000000→∀ (x:NodeM),sizeN x≤m→∀ (g:Nat→Option Blk) (n:Nat) (sv:AV) (cs:List AV) (least:Int),g 0=some opsB→g 1=some (.cells bP false 0)→1 < n→repN g n x cs→SliceV g n sv vs.length (vs.flatMap VarM.cells) →
    shapedM vs.length x=true →
    WC 6 Tryd.prog 31 [sv,.agg cs,.lit (.int .i64 least)] ⟨.fn g,n⟩ fun r=>r=.ret (.lit (.string (parM (textM vs x) (rankM x.op) least))) ⟨.fn g,n⟩:=by
  intro m
  induction m with
  | zero=>intro _ x hx; cases x; unfold sizeN at hx; omega
  | succ m ihm =>
    intro hm x hx g n sv cs least hg hgp hn hr hsv hsh
    have IH:=Hide.mk ihm
    clear ihm
    refine WC.drop1 rfl ?_
    have HTS:=Hide.mk (text_size hv x hsh)
    cases x with
    | mk op q subs =>
      generalize hret:parM (textM vs (.mk op q subs)) (rankM (NodeM.mk op q subs).op) least=ret
      have HSH:=Hide.mk hsh
      simp only [shapedM,Bool.and_eq_true,decide_eq_true_eq] at hsh
      obtain ⟨h12,hsubs,hq0,hq1,hshl⟩:=hsh
      obtain ⟨kq,rfl⟩:=Int.eq_ofNat_of_zero_le hq0
      have h3:=most_iff.1 hq1
      obtain ⟨hop,sv1,rfl,hsv1⟩:=hr
      have h1c:oneC sv1=true:=by rcases hsv1 with ⟨_,rfl | rfl⟩ | ⟨a,off,r,_,⟨c,rfl⟩ | ⟨c,rfl⟩,_⟩ <;> rfl
      have h1a:allOne [.lit (.int .u8 op),.lit (.int .i64 kq),sv1]=true:=by simp [h1c]
      have HSV:=Hide.mk hsv
      have hrow:=ops_agg op h12
      have hrk:=rank_row h12
      have HRET:Hide (parM (textM vs (.mk op kq subs)) (rowAt op).rank least=ret):=⟨by rw [hrk]; exact hret⟩
      clear hret hrk
      have HI:Hide ItoaOK:=⟨hI⟩
      have HJ1:Hide (∀ a ra,joinM op [(a,ra)]=if op=2 then (rowAt op).sign++parM a ra (rowAt op).l0 else (rowAt op).sign++⟨#[32]⟩++parM a ra (rowAt op).l0):=⟨fun a ra=>rfl⟩
      have HJ2:Hide (∀ a ra b rb,joinM op [(a,ra),(b,rb)]=parM a ra (rowAt op).l0++⟨#[32]⟩++(rowAt op).sign++⟨#[32]⟩++parM b rb (rowAt op).l1):=⟨fun a ra b rb=>rfl⟩
      have hsg:=sign_size op
      have HS12:Hide (2≤op→(rowAt op).subs=1∨(rowAt op).subs=2):=⟨fun h=>subs12 op h h12⟩
      have HS1:Hide (2≤op→(rowAt op).subs=1→op=2∨op=9):=⟨fun h h'=>subs1 op h h12 h'⟩
      have HS2N:Hide (op=2→(rowAt op).subs=1):=⟨fun e=>by rw [e]; rfl⟩
      generalize rowAt op=row at *
      obtain ⟨sg,sb,rk,l0,l1,nb,fn⟩:=row
      simp only [OpRow.cells] at hrow
      dsimp only at hsubs hsg HRET HJ1 HJ2 HS12 HS1 HS2N
      have hallr:allOne [.lit (.string sg),.lit (.int .i64 sb),.lit (.int .i64 rk),.lit (.int .i64 l0),.lit (.int .i64 l1),.lit (.bool nb),fnV fn]=true:=by simp
      by_cases h0:op=0
      · subst h0
        have hts:textM vs (.mk 0 kq subs)=decB kq:=by unfold textM; rw [if_pos rfl]; rfl
        have hz:=dec_size kq 9 (by omega)
        rw [hts] at HRET
        have hdl:(decB kq).size≤10:=hz
        have HW:Hide (∀ (g:Nat→Option Blk) (n:Nat),g 1=some (.cells bP false 0)→1 < n→WC 6 Tryd.prog 53 [.lit (.int .i64 kq)] ⟨.fn g,n⟩ fun r=>r=.ret (.lit (.string (decB kq))) ⟨.fn g,n⟩):=⟨fun g n h1 h2=>hI kq (by omega) g n h1 h2⟩
        generalize decB kq=dk at HRET hdl HW
        have hpl:(⟨#[40]⟩ : ByteArray).size=1:=rfl
        have hpr:(⟨#[41]⟩ : ByteArray).size=1:=rfl
        have hw2:((⟨#[40]⟩ : ByteArray)++dk).size≤200000001:=by rw [ba_size_append]; omega
        clear hz hts hsubs h3 hq1 hq0 hop hsv hsv1 hshl
        refine WC.enterP (noO_ok _ _) hG6 pl31 Tryd.func31 rfl (by decide +kernel) (Nat.le_of_ble_eq_true (by kernel_rfl)) ?_
        iterate 20 (all_goals try (first | with_reducible refine splitI (fun h=>?_) (fun h=>?_) | with_reducible refine splitBI (fun h=>?_) (fun h=>?_) | simp (disch:=first | assumption | omega | (simp; done) | fail) [Tryd.results31, *]))
        refine WC.mono (HW.out _ _ (by simp (disch:=omega) only [gput_lt]; exact hgp) (by omega)) ?_
        rintro _ rfl
        iterate 20 (all_goals try (first | with_reducible refine splitI (fun h=>?_) (fun h=>?_) | with_reducible refine splitBI (fun h=>?_) (fun h=>?_) | simp (disch:=first | assumption | omega | (simp; done) | fail) [Tryd.results31, *]))
        all_goals
          have e:=HRET.out
          refine ⟨_,⟨?_,rfl⟩,⟨by dsimp only; omega,fun b hb=>?_⟩⟩
          · rw [← e]; unfold parM
            first | (rw [if_pos (by assumption)]) | (rw [if_neg (by omega)])
          · have hb' : b < n:=hb
            show gput _ _ _ _=_
            simp (disch:=omega) only [gput_lt]
            try rfl
      by_cases h1:op=1
      · subst h1
        have hkl:kq < vs.length:=by omega
        have hnm:=hv vs[kq] (List.getElem_mem hkl)
        have hts:textM vs (.mk 1 kq subs)=vs[kq].name:=by
          unfold textM
          rw [if_neg h0,if_pos rfl,Int.toNat_natCast,List.getElem?_eq_getElem hkl]
        rw [hts] at HRET
        rcases hsv with ⟨kl0,_⟩ | ⟨b,off2,hb,hsvf,hr2⟩
        · omega
        obtain ⟨r1,_,_⟩:=row_var hr2 (s:=1) hkl
        have hklI:(kq:Int) < (vs.length:Int):=by omega
        generalize vs[kq].name=nm at r1 HRET hnm
        have hpl:(⟨#[40]⟩ : ByteArray).size=1:=rfl
        have hpr:(⟨#[41]⟩ : ByteArray).size=1:=rfl
        have hw2:((⟨#[40]⟩ : ByteArray)++nm).size≤200000001:=by rw [ba_size_append]; omega
        clear hts hsubs h3 hq1 hq0 hop hsv1 hshl hr2
        rcases hsvf with ⟨c,rfl⟩ | ⟨c,rfl⟩
        all_goals
          refine WC.enterP (noO_ok _ _) hG6 pl31 Tryd.func31 rfl (by decide +kernel) (Nat.le_of_ble_eq_true (by kernel_rfl)) ?_
          iterate 20 (all_goals try (first | with_reducible refine splitI (fun h=>?_) (fun h=>?_) | with_reducible refine splitBI (fun h=>?_) (fun h=>?_) | simp (disch:=first | assumption | omega | (simp; done) | fail) [Tryd.results31, *]))
        all_goals
          have e:=HRET.out
          refine ⟨_,⟨?_,rfl⟩,⟨by dsimp only; omega,fun b hb=>?_⟩⟩
          · rw [← e]; unfold parM
            first | (rw [if_pos (by assumption)]) | (rw [if_neg (by omega)])
          · have hb' : b < n:=hb
            show gput _ _ _ _=_
            simp (disch:=omega) only [gput_lt]
            try rfl
      have h2:2≤op:=by omega
      have h0i:¬(op:Int)=0:=by omega
      have h1i:¬(op:Int)=1:=by omega
      have hopI:(op:Int) < 12:=by omega
      have hsz:sizeL subs≤m:=by unfold sizeN at hx; omega
      have HT:Hide (textM vs (.mk op kq subs)=joinM op (textL vs subs)):=⟨by rw [textM,if_neg h0,if_neg h1]⟩
      rcases hsv1 with ⟨hsub,_⟩ | ⟨a,off,r,han,hsl,hrow1,hrep⟩
      · exfalso
        rcases HS12.out h2 with hs1 | hs1 <;> (rw [hsub,hs1] at hsubs; simp at hsubs)
      rcases HS12.out h2 with hs1 | hs1
      · have hone:subs.length=1:=by omega
        have hops:=HS1.out h2 hs1
        subst hs1
        obtain ⟨y,rfl⟩:=List.length_eq_one_iff.1 hone
        obtain ⟨c1,r1,rfl,hy1,hr1⟩:=hrep
        have hr1' : r1=[]:=hr1
        subst hr1'
        obtain ⟨op2,k2,sv2,hcy,h2c⟩:=repN_one hy1
        subst hcy
        have h2a:allOne [.lit (.int .u8 op2),.lit (.int .i64 k2),sv2]=true:=by simp [h2c]
        have hrw:=hrow1.agg (k:=0) (s:=3) (by simp)
        simp only [Nat.add_zero,List.append_nil,List.drop_zero,List.take] at hrw
        have hsy:shapedM vs.length y=true:=by simp only [shapedL,Bool.and_eq_true] at hshl; exact hshl.1
        have hty:=text_size hv y hsy
        have hps:=par_size (textM vs y) (rankM y.op) l0
        have hsy2:sizeN y≤1000000:=by unfold sizeL at hsz; omega
        have HY:=Hide.mk hy1
        have HT2:Hide (textM vs (.mk op kq [y])=if op=2 then sg++parM (textM vs y) (rankM y.op) l0 else sg++⟨#[32]⟩++parM (textM vs y) (rankM y.op) l0):=⟨by rw [HT.out,textL,textL]; exact HJ1.out _ _⟩
        have IHY:Hide (∀ (g' : Nat→Option Blk) (n' : Nat),g' 0=some opsB→g' 1=some (.cells bP false 0)→1 < n'→repN g' n' y [.lit (.int .u8 op2),.lit (.int .i64 k2),sv2]→SliceV g' n' sv vs.length (vs.flatMap VarM.cells) →
          WC 6 Tryd.prog 31 [sv,.agg [.lit (.int .u8 op2),.lit (.int .i64 k2),sv2],.lit (.int .i64 l0)] ⟨.fn g',n'⟩ fun r=>r=.ret (.lit (.string (parM (textM vs y) (rankM y.op) l0))) ⟨.fn g',n'⟩) :=
          ⟨fun g' n' q1 q0 q2 q3 q4=>IH.out (by omega) y (by unfold sizeL at hsz; omega) g' n' sv _ l0 q1 q0 q2 q3 q4 hsy⟩
        have hwl:(parM (textM vs y) (rankM y.op) l0).size≤100000000:=by omega
        generalize parM (textM vs y) (rankM y.op) l0=wy at HT2 IHY hwl
        clear hsubs h3 hq1 hq0 hop hshl hrow1 hy1 hsy hr1 hsv hty hps hsy2 hone
        have hspz:(⟨#[32]⟩ : ByteArray).size=1:=rfl
        have hpl:(⟨#[40]⟩ : ByteArray).size=1:=rfl
        have hpr:(⟨#[41]⟩ : ByteArray).size=1:=rfl
        have hdash:=fun (a b:ByteArray)=>ba_size_append a b
        have HBA:=Hide.mk hdash
        clear hdash
        rcases hops with rfl | rfl
        · rw [HT2.out,if_pos rfl] at HRET
          have hw1:(sg++wy).size≤200000000:=by rw [ba_size_append]; omega
          have hw2:((⟨#[40]⟩ : ByteArray)++(sg++wy)).size≤200000001:=by rw [ba_size_append]; omega
          rcases hsl with ⟨c,rfl⟩ | ⟨c,rfl⟩
          all_goals
            refine WC.enterP (noO_ok _ _) hG6 pl31 Tryd.func31 rfl (by decide +kernel) (Nat.le_of_ble_eq_true (by kernel_rfl)) ?_
            iterate 20 (all_goals try (first | with_reducible refine splitI (fun h=>?_) (fun h=>?_) | with_reducible refine splitBI (fun h=>?_) (fun h=>?_) | simp (disch:=first | assumption | omega | (simp; done) | fail) [Tryd.results31, *]))
            refine WC.mono (IHY.out _ _ (by simp (disch:=omega) only [gput_lt]; exact hg) (by simp (disch:=omega) only [gput_lt]; exact hgp) (by omega) (repN_mono (by omega) (fun a ha=>by simp (disch:=omega) only [gput_lt]) HY.out) (HSV.out.mono (by omega) (fun a ha=>by simp (disch:=omega) only [gput_lt]))) ?_
            rintro _ rfl
            iterate 20 (all_goals try (first | with_reducible refine splitI (fun h=>?_) (fun h=>?_) | with_reducible refine splitBI (fun h=>?_) (fun h=>?_) | simp (disch:=first | assumption | omega | (simp; done) | fail) [Tryd.results31, *]))
          all_goals
          have e:=HRET.out
          refine ⟨_,⟨?_,rfl⟩,⟨by dsimp only; omega,fun b hb=>?_⟩⟩
          · rw [← e]; unfold parM
            first | (rw [if_pos (by assumption)]) | (rw [if_neg (by omega)])
          · have hb' : b < n:=hb
            show gput _ _ _ _=_
            simp (disch:=omega) only [gput_lt]
            try rfl
        · rw [HT2.out,if_neg (by omega)] at HRET
          have hw0:(sg++(⟨#[32]⟩ : ByteArray)).size≤4:=by rw [ba_size_append]; omega
          have hw1:(sg++(⟨#[32]⟩ : ByteArray)++wy).size≤200000000:=by rw [ba_size_append]; omega
          have hw2:((⟨#[40]⟩ : ByteArray)++(sg++(⟨#[32]⟩ : ByteArray)++wy)).size≤200000001:=by rw [ba_size_append]; omega
          rcases hsl with ⟨c,rfl⟩ | ⟨c,rfl⟩
          all_goals
            refine WC.enterP (noO_ok _ _) hG6 pl31 Tryd.func31 rfl (by decide +kernel) (Nat.le_of_ble_eq_true (by kernel_rfl)) ?_
            iterate 20 (all_goals try (first | with_reducible refine splitI (fun h=>?_) (fun h=>?_) | with_reducible refine splitBI (fun h=>?_) (fun h=>?_) | simp (disch:=first | assumption | omega | (simp; done) | fail) [Tryd.results31, *]))
            refine WC.mono (IHY.out _ _ (by simp (disch:=omega) only [gput_lt]; exact hg) (by simp (disch:=omega) only [gput_lt]; exact hgp) (by omega) (repN_mono (by omega) (fun a ha=>by simp (disch:=omega) only [gput_lt]) HY.out) (HSV.out.mono (by omega) (fun a ha=>by simp (disch:=omega) only [gput_lt]))) ?_
            rintro _ rfl
            iterate 20 (all_goals try (first | with_reducible refine splitI (fun h=>?_) (fun h=>?_) | with_reducible refine splitBI (fun h=>?_) (fun h=>?_) | simp (disch:=first | assumption | omega | (simp; done) | fail) [Tryd.results31, *]))
          all_goals
          have e:=HRET.out
          refine ⟨_,⟨?_,rfl⟩,⟨by dsimp only; omega,fun b hb=>?_⟩⟩
          · rw [← e]; unfold parM
            first | (rw [if_pos (by assumption)]) | (rw [if_neg (by omega)])
          · have hb' : b < n:=hb
            show gput _ _ _ _=_
            simp (disch:=omega) only [gput_lt]
            try rfl
      · have htwo:subs.length=2:=by omega
        have hne2:¬(op:Int)=2:=by
          intro e
          have e2:op=2:=by omega
          subst e2
          exact absurd hs1 (by have:=HS2N.out rfl; omega)
        subst hs1
        obtain ⟨y,z,rfl⟩ : ∃ y z,subs=[y,z]:=by
          match subs,htwo with
          | [y,z],_=>exact ⟨y,z,rfl⟩
        obtain ⟨c1,r1,rfl,hy1,c2,r2,rfl,hz1,hr2⟩:=hrep
        have hr2' : r2=[]:=hr2
        subst hr2'
        obtain ⟨op2,k2,sv2,hcy,h2c⟩:=repN_one hy1
        subst hcy
        obtain ⟨op3,k3,sv3,hcz,h3c⟩:=repN_one hz1
        subst hcz
        have h2a:allOne [.lit (.int .u8 op2),.lit (.int .i64 k2),sv2]=true:=by simp [h2c]
        have h3a:allOne [.lit (.int .u8 op3),.lit (.int .i64 k3),sv3]=true:=by simp [h3c]
        have hrw1:=hrow1.agg (k:=0) (s:=3) (by simp)
        have hrw2:=hrow1.agg (k:=3) (s:=3) (by simp)
        simp only [Nat.add_zero,List.append_nil,List.drop_zero,List.take,List.cons_append,List.nil_append,List.drop_succ_cons] at hrw1 hrw2
        simp only [shapedL,Bool.and_eq_true] at hshl
        have hsy:shapedM vs.length y=true:=hshl.1
        have hsz2:shapedM vs.length z=true:=hshl.2.1
        have hty:=text_size hv y hsy
        have htz:=text_size hv z hsz2
        have hps:=par_size (textM vs y) (rankM y.op) l0
        have hpz:=par_size (textM vs z) (rankM z.op) l1
        have hsy2:sizeN y≤1000000:=by unfold sizeL at hsz; omega
        have hsz3:sizeN z≤1000000:=by unfold sizeL sizeL at hsz; omega
        have HY:=Hide.mk hy1
        have HZ:=Hide.mk hz1
        have HT2:Hide (textM vs (.mk op kq [y,z])=parM (textM vs y) (rankM y.op) l0++⟨#[32]⟩++sg++⟨#[32]⟩++parM (textM vs z) (rankM z.op) l1):=⟨by rw [HT.out,textL,textL,textL]; exact HJ2.out _ _ _ _⟩
        have IHY:Hide (∀ (g' : Nat→Option Blk) (n' : Nat),g' 0=some opsB→g' 1=some (.cells bP false 0)→1 < n'→repN g' n' y [.lit (.int .u8 op2),.lit (.int .i64 k2),sv2]→SliceV g' n' sv vs.length (vs.flatMap VarM.cells) →
          WC 6 Tryd.prog 31 [sv,.agg [.lit (.int .u8 op2),.lit (.int .i64 k2),sv2],.lit (.int .i64 l0)] ⟨.fn g',n'⟩ fun r=>r=.ret (.lit (.string (parM (textM vs y) (rankM y.op) l0))) ⟨.fn g',n'⟩) :=
          ⟨fun g' n' q1 q0 q2 q3 q4=>IH.out (by omega) y (by unfold sizeL at hsz; omega) g' n' sv _ l0 q1 q0 q2 q3 q4 hsy⟩
        have IHZ:Hide (∀ (g' : Nat→Option Blk) (n' : Nat),g' 0=some opsB→g' 1=some (.cells bP false 0)→1 < n'→repN g' n' z [.lit (.int .u8 op3),.lit (.int .i64 k3),sv3]→SliceV g' n' sv vs.length (vs.flatMap VarM.cells) →
          WC 6 Tryd.prog 31 [sv,.agg [.lit (.int .u8 op3),.lit (.int .i64 k3),sv3],.lit (.int .i64 l1)] ⟨.fn g',n'⟩ fun r=>r=.ret (.lit (.string (parM (textM vs z) (rankM z.op) l1))) ⟨.fn g',n'⟩) :=
          ⟨fun g' n' q1 q0 q2 q3 q4=>IH.out (by omega) z (by unfold sizeL sizeL at hsz; omega) g' n' sv _ l1 q1 q0 q2 q3 q4 hsz2⟩
        have hwl:(parM (textM vs y) (rankM y.op) l0).size≤100000000:=by omega
        have hwz:(parM (textM vs z) (rankM z.op) l1).size≤100000000:=by omega
        generalize parM (textM vs y) (rankM y.op) l0=wy at HT2 IHY hwl
        generalize parM (textM vs z) (rankM z.op) l1=wz at HT2 IHZ hwz
        clear hsubs h3 hq1 hq0 hop hshl hrow1 hy1 hz1 hsy hsz2 hr2 hsv hty htz hps hpz hsy2 hsz3 htwo
        have hspz:(⟨#[32]⟩ : ByteArray).size=1:=rfl
        have hpl:(⟨#[40]⟩ : ByteArray).size=1:=rfl
        have hpr:(⟨#[41]⟩ : ByteArray).size=1:=rfl
        rw [HT2.out] at HRET
        have hw0:(wy++(⟨#[32]⟩ : ByteArray)).size≤100000001:=by rw [ba_size_append]; omega
        have hw1:(wy++(⟨#[32]⟩ : ByteArray)++sg).size≤100000004:=by rw [ba_size_append]; omega
        have hw2:(wy++(⟨#[32]⟩ : ByteArray)++sg++(⟨#[32]⟩ : ByteArray)).size≤100000005:=by rw [ba_size_append]; omega
        have hw3:(wy++(⟨#[32]⟩ : ByteArray)++sg++(⟨#[32]⟩ : ByteArray)++wz).size≤300000000:=by rw [ba_size_append]; omega
        have hw4:((⟨#[40]⟩ : ByteArray)++(wy++(⟨#[32]⟩ : ByteArray)++sg++(⟨#[32]⟩ : ByteArray)++wz)).size≤300000001:=by rw [ba_size_append]; omega
        rcases hsl with ⟨c,rfl⟩ | ⟨c,rfl⟩
        all_goals
          refine WC.enterP (noO_ok _ _) hG6 pl31 Tryd.func31 rfl (by decide +kernel) (Nat.le_of_ble_eq_true (by kernel_rfl)) ?_
          iterate 20 (all_goals try (first | with_reducible refine splitI (fun h=>?_) (fun h=>?_) | with_reducible refine splitBI (fun h=>?_) (fun h=>?_) | simp (disch:=first | assumption | omega | (simp; done) | fail) [Tryd.results31, *]))
          refine WC.mono (IHY.out _ _ (by simp (disch:=omega) only [gput_lt]; exact hg) (by simp (disch:=omega) only [gput_lt]; exact hgp) (by omega) (repN_mono (by omega) (fun a ha=>by simp (disch:=omega) only [gput_lt]) HY.out) (HSV.out.mono (by omega) (fun a ha=>by simp (disch:=omega) only [gput_lt]))) ?_
          rintro _ rfl
          iterate 20 (all_goals try (first | with_reducible refine splitI (fun h=>?_) (fun h=>?_) | with_reducible refine splitBI (fun h=>?_) (fun h=>?_) | simp (disch:=first | assumption | omega | (simp; done) | fail) [Tryd.results31, *]))
          refine WC.mono (IHZ.out _ _ (by simp (disch:=omega) only [gput_lt]; exact hg) (by simp (disch:=omega) only [gput_lt]; exact hgp) (by omega) (repN_mono (by omega) (fun a ha=>by simp (disch:=omega) only [gput_lt]) HZ.out) (HSV.out.mono (by omega) (fun a ha=>by simp (disch:=omega) only [gput_lt]))) ?_
          rintro _ rfl
          iterate 20 (all_goals try (first | with_reducible refine splitI (fun h=>?_) (fun h=>?_) | with_reducible refine splitBI (fun h=>?_) (fun h=>?_) | simp (disch:=first | assumption | omega | (simp; done) | fail) [Tryd.results31, *]))
        all_goals
          have e:=HRET.out
          refine ⟨_,⟨?_,rfl⟩,⟨by dsimp only; omega,fun b hb=>?_⟩⟩
          · rw [← e]; unfold parM
            first | (rw [if_pos (by assumption)]) | (rw [if_neg (by omega)])
          · have hb' : b < n:=hb
            show gput _ _ _ _=_
            simp (disch:=omega) only [gput_lt]
            try rfl
end Go.Ai
end
