/- A small verified interpreter over names, its proofs, and what was proved with it. No condition. -/
import Derived.Shelf.Strconv.AtoiAll
import Derived.Test.YtfhkfifjbgcpiaaDoorProg
import Derived.Lib.AtoiAll
import Derived.Test.YtfhkfifjbgcpiaaDoorPD6
import Derived.Test.YtfhkfifjbgcpiaaDoorPD2
set_option linter.all false
set_option linter.deprecated false
section
namespace Go.Proofs
open Go.Shelf
def Tryd.laysAllLaysC172_ren:Go.Shelf.Ren:=⟨fun | 172=>65 | 244=>69 | 245=>70 | 247=>75 | 279=>76 | 280=>77 | 281=>78 | 282=>79 | 287=>85 | 316=>86 | 171=>53 | 205=>87 | 321=>90 | 322=>91 | 243=>64 | 246=>68 | 283=>71 | 284=>72 | 285=>73 | 286=>74 | 129=>81 | 317=>80 | 318=>82 | 319=>83 | 320=>84 | 337=>88 | 338=>89 | n=>n,fun | 9=>9 | 3=>3 | 75=>104 | 76=>105 | 4=>4 | 5=>5 | 167=>117 | 37=>22 | 0=>0 | 85=>118 | 2=>2 | 168=>120 | 53=>112 | 175=>130 | 46=>128 | 210=>134 | 127=>138 | 145=>141 | 143=>139 | 21=>21 | 171=>111 | 173=>115 | 212=>124 | 51=>125 | 20=>20 | 213=>126 | 232=>142 | 233=>143 | 80=>144 | n=>n,fun | 15=>2 | 16=>3 | 17=>1 | 18=>4 | 19=>5 | n=>n⟩
theorem Tryd.laysAllLaysC172:Go.Proofs.LaysC.n172 Tryd.prog Tryd.laysAllLaysC172_ren:={
  mixed:=by kernel_rfl
  f129:=Tryd.func81.trans (congrArg some (by kernel_rfl))
  f171:=Tryd.func53.trans (congrArg some (by kernel_rfl))
  f172:=Tryd.func65.trans (congrArg some (by kernel_rfl))
  f205:=Tryd.func87.trans (congrArg some (by kernel_rfl))
  f243:=Tryd.func64.trans (congrArg some (by kernel_rfl))
  f244:=Tryd.func69.trans (congrArg some (by kernel_rfl))
  f245:=Tryd.func70.trans (congrArg some (by kernel_rfl))
  f246:=Tryd.func68.trans (congrArg some (by kernel_rfl))
  f247:=Tryd.func75.trans (congrArg some (by kernel_rfl))
  f279:=Tryd.func76.trans (congrArg some (by kernel_rfl))
  f280:=Tryd.func77.trans (congrArg some (by kernel_rfl))
  f281:=Tryd.func78.trans (congrArg some (by kernel_rfl))
  f282:=Tryd.func79.trans (congrArg some (by kernel_rfl))
  f283:=Tryd.func71.trans (congrArg some (by kernel_rfl))
  f284:=Tryd.func72.trans (congrArg some (by kernel_rfl))
  f285:=Tryd.func73.trans (congrArg some (by kernel_rfl))
  f286:=Tryd.func74.trans (congrArg some (by kernel_rfl))
  f287:=Tryd.func85.trans (congrArg some (by kernel_rfl))
  f316:=Tryd.func86.trans (congrArg some (by kernel_rfl))
  f317:=Tryd.func80.trans (congrArg some (by kernel_rfl))
  f318:=Tryd.func82.trans (congrArg some (by kernel_rfl))
  f319:=Tryd.func83.trans (congrArg some (by kernel_rfl))
  f320:=Tryd.func84.trans (congrArg some (by kernel_rfl))
  f321:=Tryd.func90.trans (congrArg some (by kernel_rfl))
  f322:=Tryd.func91.trans (congrArg some (by kernel_rfl))
  f337:=Tryd.func88.trans (congrArg some (by kernel_rfl))
  f338:=Tryd.func89.trans (congrArg some (by kernel_rfl))
  t0:=Tryd.underlying0
  a0:=Tryd.isAgg0
  z0:=Tryd.sizeOf0
  v0:=Tryd.zeroValue0
  t2:=Tryd.underlying2
  a2:=Tryd.isAgg2
  z2:=Tryd.sizeOf2
  v2:=Tryd.zeroValue2
  t3:=Tryd.underlying3
  a3:=Tryd.isAgg3
  z3:=Tryd.sizeOf3
  v3:=Tryd.zeroValue3
  t4:=Tryd.underlying4
  a4:=Tryd.isAgg4
  z4:=Tryd.sizeOf4
  v4:=Tryd.zeroValue4
  t5:=Tryd.underlying5
  a5:=Tryd.isAgg5
  z5:=Tryd.sizeOf5
  v5:=Tryd.zeroValue5
  t9:=Tryd.underlying9
  a9:=Tryd.isAgg9
  z9:=Tryd.sizeOf9
  v9:=Tryd.zeroValue9
  t20:=Tryd.underlying20
  a20:=Tryd.isAgg20
  z20:=Tryd.sizeOf20
  v20:=Tryd.zeroValue20
  t21:=Tryd.underlying21
  a21:=Tryd.isAgg21
  z21:=Tryd.sizeOf21
  v21:=Tryd.zeroValue21
  t37:=Tryd.underlying22
  a37:=Tryd.isAgg22
  z37:=Tryd.sizeOf22
  v37:=Tryd.zeroValue22
  t46:=Tryd.underlying128
  a46:=Tryd.isAgg128
  z46:=Tryd.sizeOf128
  v46:=Tryd.zeroValue128
  t51:=Tryd.underlying125
  a51:=Tryd.isAgg125
  z51:=Tryd.sizeOf125
  v51:=Tryd.zeroValue125
  t53:=Tryd.underlying112
  a53:=Tryd.isAgg112
  z53:=Tryd.sizeOf112
  v53:=Tryd.zeroValue112
  t75:=Tryd.underlying104
  a75:=Tryd.isAgg104
  z75:=Tryd.sizeOf104
  v75:=Tryd.zeroValue104
  t76:=Tryd.underlying105
  a76:=Tryd.isAgg105
  z76:=Tryd.sizeOf105
  v76:=Tryd.zeroValue105
  t85:=Tryd.underlying118
  a85:=Tryd.isAgg118
  z85:=Tryd.sizeOf118
  v85:=Tryd.zeroValue118
  t127:=Tryd.underlying138
  a127:=Tryd.isAgg138
  z127:=Tryd.sizeOf138
  v127:=Tryd.zeroValue138
  t143:=Tryd.underlying139
  a143:=Tryd.isAgg139
  z143:=Tryd.sizeOf139
  v143:=Tryd.zeroValue139
  t145:=Tryd.underlying141
  a145:=Tryd.isAgg141
  z145:=Tryd.sizeOf141
  v145:=Tryd.zeroValue141
  t167:=Tryd.underlying117
  a167:=Tryd.isAgg117
  z167:=Tryd.sizeOf117
  v167:=Tryd.zeroValue117
  t168:=Tryd.underlying120
  a168:=Tryd.isAgg120
  z168:=Tryd.sizeOf120
  v168:=Tryd.zeroValue120
  t171:=Tryd.underlying111
  a171:=Tryd.isAgg111
  z171:=Tryd.sizeOf111
  v171:=Tryd.zeroValue111
  t173:=Tryd.underlying115
  a173:=Tryd.isAgg115
  z173:=Tryd.sizeOf115
  v173:=Tryd.zeroValue115
  t175:=Tryd.underlying130
  a175:=Tryd.isAgg130
  z175:=Tryd.sizeOf130
  v175:=Tryd.zeroValue130
  t210:=Tryd.underlying134
  a210:=Tryd.isAgg134
  z210:=Tryd.sizeOf134
  v210:=Tryd.zeroValue134
  t212:=Tryd.underlying124
  a212:=Tryd.isAgg124
  z212:=Tryd.sizeOf124
  v212:=Tryd.zeroValue124
  t213:=Tryd.underlying126
  a213:=Tryd.isAgg126
  z213:=Tryd.sizeOf126
  t232:=Tryd.underlying142
  a232:=Tryd.isAgg142
  z232:=Tryd.sizeOf142
  v232:=Tryd.zeroValue142
  t233:=Tryd.underlying143
  a233:=Tryd.isAgg143
  z233:=Tryd.sizeOf143
  v233:=Tryd.zeroValue143
  g15:=by kernel_rfl
  g16:=by kernel_rfl
  g17:=by kernel_rfl
  g18:=by kernel_rfl
  g19:=by kernel_rfl
  t80:=Tryd.underlying144
  a80:=Tryd.isAgg144
  z80:=Tryd.sizeOf144
  v80:=Tryd.zeroValue144
  i0:=by kernel_rfl
  i2:=by kernel_rfl
  i3:=by kernel_rfl
  i4:=by kernel_rfl
  i5:=by kernel_rfl
  i9:=by kernel_rfl
  i20:=by kernel_rfl
  i21:=by kernel_rfl
  i37:=by kernel_rfl
  i46:=by kernel_rfl
  i51:=by kernel_rfl
  i53:=by kernel_rfl
  i75:=by kernel_rfl
  i76:=by kernel_rfl
  i80:=by kernel_rfl
  i85:=by kernel_rfl
  i127:=by kernel_rfl
  i143:=by kernel_rfl
  i145:=by kernel_rfl
  i167:=by kernel_rfl
  i168:=by kernel_rfl
  i171:=by kernel_rfl
  i173:=by kernel_rfl
  i175:=by kernel_rfl
  i210:=by kernel_rfl
  i212:=by kernel_rfl
  i232:=by kernel_rfl
  i233:=by kernel_rfl
  m15:=by kernel_rfl
  m16:=by kernel_rfl
  m17:=by kernel_rfl
  m18:=by kernel_rfl
  m19:=by kernel_rfl
  c0:=by kernel_rfl
  c2:=by kernel_rfl
  c3:=by kernel_rfl
  c4:=by kernel_rfl
  c5:=by kernel_rfl
  c9:=by kernel_rfl
  c20:=by kernel_rfl
  c21:=by kernel_rfl
  c37:=by kernel_rfl
  c46:=by kernel_rfl
  c51:=by kernel_rfl
  c53:=by kernel_rfl
  c75:=by kernel_rfl
  c76:=by kernel_rfl
  c80:=by kernel_rfl
  c85:=by kernel_rfl
  c127:=by kernel_rfl
  c143:=by kernel_rfl
  c145:=by kernel_rfl
  c167:=by kernel_rfl
  c168:=by kernel_rfl
  c171:=by kernel_rfl
  c173:=by kernel_rfl
  c175:=by kernel_rfl
  c210:=by kernel_rfl
  c212:=by kernel_rfl
  c213:=by kernel_rfl
  c232:=by kernel_rfl
  c233:=by kernel_rfl }
end Go.Proofs
end
section
namespace Go.Ai
open Go.Proofs
set_option maxRecDepth 10000
def valL (acc:Nat) : List UInt8→Nat
  | []=>acc
  | c :: r=>valL (acc * 10+(c.toNat - 48)) r
theorem valL_le:∀ (l:List UInt8) (acc:Nat),acc≤valL acc l
  | [],acc=>Nat.le_refl _
  | c :: r,acc=>by
    have:=valL_le r (acc * 10+(c.toNat - 48))
    unfold valL
    omega
theorem parse10_eq:∀ (l:List UInt8) (acc:Nat),(∀ c∈l,48≤c.toNat∧c.toNat≤57)→acc < 18446744073709551616→Lib.parseUint10 acc l=if valL acc l < 18446744073709551616 then .ok (valL acc l) else .range
  | [],acc,_,h=>by unfold Lib.parseUint10 valL; rw [if_pos h]
  | c :: r,acc,hc,h=>by
    have h1:=hc c (by simp)
    have h2:=valL_le r (acc * 10+(c.toNat - 48))
    unfold Lib.parseUint10
    rw [if_pos h1]
    show _=if valL (acc * 10+(c.toNat - 48)) r < _ then _ else _
    by_cases h3:1844674407370955162≤acc
    · rw [if_pos h3,if_neg (by omega)]
    · rw [if_neg h3]
      by_cases h4:18446744073709551616≤acc * 10+(c.toNat - 48)
      · rw [if_pos h4,if_neg (by omega)]
      · rw [if_neg h4,parse10_eq r _ (fun d hd=>hc d (by simp [hd])) (by omega)]
        rfl
theorem bAt_list {s:ByteArray} {k:Nat} (h:k < s.size) : bAt s k=((s.data.toList[k]'(by simpa using h)).toNat:Nat):=by
  unfold bAt
  rw [dif_pos h]
  simp
  rfl
theorem drop_at {l:List UInt8} {k:Nat} (h:k < l.length) : l.drop k=l[k] :: l.drop (k+1):=List.drop_eq_getElem_cons h
theorem valN_list {s:ByteArray} (m:Nat) : ∀ (k acc:Nat),k+m=s.size→valN s m k acc=valL acc (s.data.toList.drop k):=by
  induction m with
  | zero =>
    intro k acc h
    rw [List.drop_eq_nil_of_le (by simp; omega)]
    rfl
  | succ m ih =>
    intro k acc h
    have hk:k < s.size:=by omega
    have hl:k < s.data.toList.length:=by simpa using hk
    have e2:(bAt s k - 48).toNat=(s.data.toList[k]).toNat - 48:=by
      rw [bAt_list hk]
      omega
    have e1:valN s (m+1) k acc=valN s m (k+1) (acc * 10+(bAt s k - 48).toNat):=by rw [valN]
    rw [e1,ih (k+1) _ (by omega),e2,drop_at hl]
    rfl
theorem digits_list {s:ByteArray} (hd:digitsB s) : ∀ c∈s.data.toList,48≤c.toNat∧c.toNat≤57:=by
  intro c hc
  obtain ⟨k,hk,rfl⟩:=List.mem_iff_getElem.1 hc
  have hk' : k < s.size:=by simpa using hk
  have:=digit_in (hd k hk')
  rw [bAt_list hk'] at this
  omega
theorem atoiAll_digits {s:ByteArray} (h0:0 < s.size) (hd:digitsB s) : Lib.atoiAll s.data.toList=if valB s≤9223372036854775807 then .ok (valB s:Nat) else .range:=by
  have hl:=digits_list hd
  have hv:valB s=valL 0 s.data.toList:=by unfold valB; rw [valN_list _ _ _ (by omega),List.drop_zero]
  rw [hv]
  cases hs:s.data.toList with
  | nil =>
    have:s.data.toList.length=0:=by rw [hs]; rfl
    simp at this
    have h1:s.size=s.data.size:=rfl
    rw [h1,this] at h0
    simp at h0
  | cons c r =>
    rw [hs] at hl
    have hc:=hl c (by simp)
    unfold Lib.atoiAll Lib.parseMag
    dsimp only
    rw [if_neg (show ¬(c.toNat=43∨c.toNat=45) by omega),if_neg (by simp),parse10_eq _ 0 hl (by omega)]
    by_cases h1:valL 0 (c :: r) < 18446744073709551616
    · rw [if_pos h1]
      dsimp only
      by_cases h2:9223372036854775808≤valL 0 (c :: r)
      · rw [if_pos ⟨by omega,h2⟩,if_neg (by omega)]
      · rw [if_neg (fun h=>h2 h.2),if_neg (fun h=>by omega),if_neg (by omega),if_pos (by omega)]
    · rw [if_neg h1,if_neg (by omega)]
theorem atoiSat_digits {s:ByteArray} (h0:0 < s.size) (hd:digitsB s) : Lib.atoiSat s.data.toList=9223372036854775807:=by
  have hl:=digits_list hd
  unfold Lib.atoiSat
  rw [if_neg]
  intro h
  cases hs:s.data.toList with
  | nil=>rw [hs] at h; simp at h
  | cons c r =>
    rw [hs] at hl h
    have:=hl c (by simp)
    simp at h
    omega
end Go.Ai
end
section
namespace Go.Ai
open Go.Proofs
set_option maxRecDepth 10000
theorem Sim.old {B G:Nat} {ρ:Rn} {H:Mem} {w w' : World} (s:Sim B G ρ H w) (h:RowKit.Below w.heap.size w w') : Sim B G ρ H w' :=
  s.other h.size fun a x b o k hx hr=>h.block b (s.at hx hr).lt
theorem Sim.blind {B G:Nat} {ρ:Rn} {g:Nat→Option Blk} {n:Nat} {w:World} (s:Sim B G ρ ⟨.fn g,n⟩ w) (x:Nat×Nat×Nat) : Sim B G (upd ρ n x) ⟨.fn (gput g n Option.none),n+1⟩ w:=by
  have hs:Sub ρ (upd ρ n x):=sub_upd s.none
  have hne:∀ a y,gput g n Option.none a=some y→a≠n∧g a=some y:=by
    intro a y h
    by_cases e:a=n
    · subst e; rw [gput_eq] at h; cases h
    · rw [gput_ne e] at h; exact ⟨e,h⟩
  refine ⟨fun a y hy=>?_,fun a a' y y' b o k o' k' hy hy' hd ho hr hr'=>?_,fun a ha=>?_,fun a y ha hy=>?_,Nat.le_succ_of_le s.names,s.base⟩
  · obtain ⟨h1,h2⟩:=hne a y hy
    rw [upd_ne _ _ h1]
    rcases s.blk a y h2 with h | ⟨b,o,k,h3,h4⟩
    · exact .inl h
    · exact .inr ⟨b,o,k,h3,h4.mono hs rfl⟩
  · obtain ⟨h1,h2⟩:=hne a y hy
    obtain ⟨h3,h4⟩:=hne a' y' hy'
    rw [upd_ne _ _ h1] at hr
    rw [upd_ne _ _ h3] at hr'
    exact s.inj a a' y y' b o k o' k' h2 h4 hd ho hr hr'
  · have ha' : n+1≤a:=ha
    rw [upd_ne _ _ (by omega)]
    exact s.fresh a (by show n≤a; omega)
  · obtain ⟨h1,h2⟩:=hne a y hy
    rw [upd_ne _ _ h1]
    exact s.glob a y ha h2
theorem atoi_ok {s0:ByteArray} (hs0:s0.size≤1000000) : AtoiOK s0:=fun s g n he hn h0 hss hd _=>by
  intro B ρ us w sim hv
  obtain ⟨u,us',hu,hvr,hnil⟩:=hv
  have e1:u=.string s:=hvr
  have e2:us'=[]:=hnil
  subst e1 e2
  have hus:us=#[.string s]:=by
    apply Array.ext'
    rw [hu]
  subst hus
  by_cases hle:valB s≤9223372036854775807
  · have hat:=atoiAll_digits h0 hd
    rw [if_pos hle] at hat
    refine (Any.strconv_Atoi_ok Tryd.laysAllLaysC172 s (by omega) _ hat w).mono ?_
    rintro e w' ⟨rfl,hw⟩
    have hb:RowKit.Below w.heap.size w w':=by
      rcases hw with rfl | ⟨t,rfl⟩
      · exact RowKit.Below.refl _ _
      · exact Lib.bytesWorld_below _ _ _
    refine ⟨_,⟨(valB s:Nat),.lit .nilIface,g,n,rfl,Nat.le_refl _,fun _ _=>rfl,?_⟩,ρ,⟨fun _ _=>rfl,hb.mono sim.base⟩,sim.old hb,⟨_,rfl,_,_,rfl,rfl,_,_,rfl,rfl,rfl⟩,Nat.le_refl _⟩
    by_cases h1:valB s≤2147483648
    · exact .inl ⟨h1,rfl,rfl⟩
    · exact .inr ⟨by omega,.inl ⟨rfl,by omega⟩⟩
  · have hat:=atoiAll_digits h0 hd
    rw [if_neg hle] at hat
    obtain ⟨b,o,k,h1,h2⟩ : ∃ b o k,ρ 3=some (b,o,k)∧BR B ρ (.cells bY false 0) b o k w:=by
      rcases sim.blk 3 _ he with h | h
      · rw [sim.glob 3 _ (by omega) he] at h; cases h
      · exact h
    have h3:=sim.glob 3 _ (by omega) he
    rw [h3] at h1
    cases h1
    obtain ⟨c,e,fz,hh,hc,_⟩:=h2
    obtain ⟨u,hu1,hu2⟩:=hc 0 _ rfl
    obtain ⟨u2,rfl,_⟩:=hu2
    have hcell:w.cell? ⟨3,0,none⟩=some (.iface 139 u2):=by
      simp [World.cell?,hh]
      simpa using hu1
    refine (Any.strconv_Atoi_range Tryd.laysAllLaysC172 s (by omega) hat (.iface 139 u2) w hcell (.inr ⟨_,_,rfl⟩)).mono ?_
    rintro e w' ⟨N,rfl,hN,_,hb⟩
    rw [atoiSat_digits h0 hd]
    refine ⟨_,⟨9223372036854775807,.iface 120 (.ptr n 0),gput g n Option.none,n+1,rfl,Nat.le_succ _,fun a ha=>gput_lt ha,.inr ⟨by omega,.inr ⟨n,0,rfl⟩⟩⟩,upd ρ n (N,0,0),⟨fun a ha=>upd_ne _ _ (Nat.ne_of_lt ha),hb.mono sim.base⟩,(sim.old hb).blind _,?_,Nat.le_succ _⟩
    exact ⟨_,rfl,_,_,rfl,rfl,_,_,rfl,⟨_,rfl,N,0,0,upd_same _ _ _,rfl⟩,rfl⟩
end Go.Ai
end
section
namespace Go.Ai
open Go.Proofs
set_option maxRecDepth 10000
theorem bAt_app_l {a b:ByteArray} {i:Nat} (h:i < a.size) : bAt (a++b) i=bAt a i:=by
  unfold bAt
  have h2:i < (a++b).size:=by rw [ba_size_append]; omega
  rw [dif_pos h2,dif_pos h,ByteArray.getElem_append_left h]
theorem bAt_app_r {a b:ByteArray} {i:Nat} (h:i < b.size) : bAt (a++b) (a.size+i)=bAt b i:=by
  unfold bAt
  have h2:a.size+i < (a++b).size:=by rw [ba_size_append]; omega
  rw [dif_pos h2,dif_pos h,ByteArray.getElem_append_right (by omega)]
  simp
structure Has (s:ByteArray) (k:Nat) (w:ByteArray) : Prop where
  le:k+w.size≤s.size
  at' : ∀ i,i < w.size→bAt s (k+i)=bAt w i
theorem Has.app {s a b:ByteArray} {k:Nat} (h:Has s k (a++b)) : Has s k a∧Has s (k+a.size) b:=by
  obtain ⟨h1,h2⟩:=h
  rw [ba_size_append] at h1
  refine ⟨⟨by omega,fun i hi=>?_⟩,⟨by omega,fun i hi=>?_⟩⟩
  · rw [h2 i (by rw [ba_size_append]; omega),bAt_app_l hi]
  · rw [Nat.add_assoc,h2 _ (by rw [ba_size_append]; omega),bAt_app_r hi]
theorem ba_ext {a b:ByteArray} (h:a.size=b.size) (h2:∀ i,i < a.size→bAt a i=bAt b i) : a=b:=by
  refine ByteArray.ext_getElem h fun i h3 h4=>?_
  have:=h2 i h3
  unfold bAt at this
  rw [dif_pos h3,dif_pos h4] at this
  exact UInt8.toNat_inj.1 (by omega)
theorem Has.ext {s w:ByteArray} {k:Nat} (h:Has s k w) : s.extract k (k+w.size)=w:=by
  have hs:(s.extract k (k+w.size)).size=w.size:=by rw [ByteArray.size_extract]; have:=h.le; omega
  refine ba_ext hs fun i hi=>?_
  rw [bAt_extract (by omega) h.le]
  exact h.at' i (by omega)
theorem Has.byte {s w:ByteArray} {k:Nat} (h:Has s k w) (h0:0 < w.size) : bAt s k=bAt w 0:=by
  have:=h.at' 0 h0
  rwa [Nat.add_zero] at this
def Stop (s:ByteArray) (j:Nat) : Prop:=j=s.size∨(j < s.size∧(bAt s j=32∨bAt s j=41))
theorem digit_letter {c:Int} (h:digitM c=true) : ¬letterM c=true:=by
  have:=digit_in h
  simp only [letterM,Bool.or_eq_true,decide_eq_true_eq]
  omega
theorem adv_stay {s:ByteArray} {k:Nat} (h:k=s.size∨bAt s k≠32) : advM s k=k:=by
  unfold advM
  rcases h with h | h
  · rw [h,Nat.sub_self]; rfl
  · cases hm:s.size - k with
    | zero=>rfl
    | succ m =>
      unfold skipM
      split
      · first | rfl | rw [if_neg h]
      · rfl
theorem adv_skip {s:ByteArray} {k:Nat} (hk:k < s.size) (h:bAt s k=32) : advM s k=advM s (k+1):=by
  unfold advM
  rw [show s.size - k=(s.size - (k+1))+1 by omega,skipM,if_pos hk,if_pos h]
end Go.Ai
end
section
namespace Go.Ai
open Go.Proofs
set_option maxRecDepth 10000
set_option maxHeartbeats 4000000
section
variable {vs:List VarM} {s:ByteArray}
theorem read_mono:∀ (m:Nat),(∀ rank k r,readF vs s m rank k=some r→readF vs s (m+1) rank k=some r)∧(∀ rank x k r,loopF vs s m rank x k=some r→loopF vs s (m+1) rank x k=some r)∧(∀ k r,atomF vs s m k=some r→atomF vs s (m+1) k=some r)
  | 0=>⟨fun _ _ _ h=>(by rw [readF] at h; cases h),fun _ _ _ _ h=>(by rw [loopF] at h; cases h),fun _ _ h=>(by rw [atomF] at h; cases h)⟩
  | m+1=>by
    obtain ⟨i1,i2,i3⟩:=read_mono m
    refine ⟨fun rank k r h=>?_,fun rank x k r h=>?_,fun k r h=>?_⟩
    · rw [readF] at h
      rw [readF]
      by_cases c1:7 < rank
      · rw [if_pos c1] at h ⊢; exact i3 _ _ h
      rw [if_neg c1] at h ⊢
      by_cases c2:rank=3∧tokB s k=notT
      · rw [if_pos c2] at h ⊢
        cases hm:readF vs s m rank (nxtM s k) with
        | none=>rw [hm] at h; cases h
        | some z=>rw [hm] at h; rw [i1 _ _ _ hm]; exact h
      rw [if_neg c2] at h ⊢
      by_cases c3:rank=7∧tokB s k=negT
      · rw [if_pos c3] at h ⊢
        cases hm:readF vs s m rank (nxtM s k) with
        | none=>rw [hm] at h; cases h
        | some z=>rw [hm] at h; rw [i1 _ _ _ hm]; exact h
      rw [if_neg c3] at h ⊢
      cases hm:readF vs s m (rank+1) k with
      | none=>rw [hm] at h; cases h
      | some z =>
        rw [hm] at h; rw [i1 _ _ _ hm]
        cases z with
        | ok x k'=>exact i2 _ _ _ _ h
        | err e k'=>exact h
    · rw [loopF] at h
      rw [loopF]
      by_cases c1:binM rank (tokB s k)=0
      · rw [if_pos c1] at h ⊢; exact h
      rw [if_neg c1] at h ⊢
      cases hm:readF vs s m (rank+1) (nxtM s k) with
      | none=>rw [hm] at h; cases h
      | some z =>
        rw [hm] at h; rw [i1 _ _ _ hm]
        cases z with
        | ok y k' =>
          dsimp only at h ⊢
          by_cases c2:rank=4
          · rw [if_pos c2] at h ⊢; exact h
          · rw [if_neg c2] at h ⊢; exact i2 _ _ _ _ h
        | err e k'=>exact h
    · rw [atomF] at h
      rw [atomF]
      by_cases c1:tokB s k=⟨#[]⟩
      · rw [if_pos c1] at h ⊢; exact h
      rw [if_neg c1] at h ⊢
      by_cases c2:tokB s k=openT
      · rw [if_pos c2] at h ⊢
        cases hm:readF vs s m 1 (nxtM s k) with
        | none=>rw [hm] at h; cases h
        | some z=>rw [hm] at h; rw [i1 _ _ _ hm]; exact h
      rw [if_neg c2] at h ⊢
      exact h
theorem read_more {m n rank k:Nat} {r:ParR} (h:readF vs s m rank k=some r) (hn:m≤n) : readF vs s n rank k=some r:=by
  induction n with
  | zero => have : m = 0 := by omega
            subst this; exact h
  | succ n ih =>
    by_cases e:m=n+1
    · subst e; exact h
    · exact (read_mono n).1 _ _ _ (ih (by omega))
theorem loop_more {m n rank k:Nat} {x:NodeM} {r:ParR} (h:loopF vs s m rank x k=some r) (hn:m≤n) : loopF vs s n rank x k=some r:=by
  induction n with
  | zero => have : m = 0 := by omega
            subst this; exact h
  | succ n ih =>
    by_cases e:m=n+1
    · subst e; exact h
    · exact (read_mono n).2.1 _ _ _ _ (ih (by omega))
theorem bin_lt {rank:Int} {k:Nat} (hk:k≤s.size) (h:¬binM rank (tokB s k)=0) : k < s.size:=by
  by_cases e:k=s.size
  · exact absurd ((congrArg (binM rank) ((tok_empty hk).2 e)).trans (binM_empty rank)) h
  · omega
theorem read_tot:∀ (m:Nat),(∀ rank k,1≤rank→rank≤8→k≤s.size→20 * (s.size - k)+(10 - rank)≤m→∃ r,readF vs s m rank k=some r)∧(∀ rank x k,1≤rank→rank≤7→k≤s.size→20 * (s.size - k)+1≤m→∃ r,loopF vs s m rank x k=some r)∧(∀ k,k≤s.size→20 * (s.size - k)+1≤m→∃ r,atomF vs s m k=some r)
  | 0=>⟨fun _ _ _ _ _ _=>(by omega),fun _ _ _ _ _ _ _=>(by omega),fun _ _ _=>(by omega)⟩
  | m+1=>by
    obtain ⟨i1,i2,i3⟩:=read_tot m
    refine ⟨fun rank k hr hr8 hk hm=>?_,fun rank x k hr hr7 hk hm=>?_,fun k hk hm=>?_⟩
    · rw [readF]
      by_cases c1:7 < rank
      · rw [if_pos c1]; exact i3 _ hk (by omega)
      rw [if_neg c1]
      have neLt:∀ t:ByteArray,t≠⟨#[]⟩→tokB s k=t→k < s.size:=fun t ht e=>by
        by_cases h:k=s.size
        · exact absurd (e.symm.trans ((tok_empty hk).2 h)) ht
        · omega
      by_cases c2:rank=3∧tokB s k=notT
      · rw [if_pos c2]
        have hlt:=neLt notT (by decide) c2.2
        obtain ⟨r,hr⟩:=i1 rank (nxtM s k) hr hr8 (nxtM_le hk) (by have:=nxtM_lt hlt; have:=nxtM_le hk; omega)
        rw [hr]
        cases r <;> exact ⟨_,rfl⟩
      rw [if_neg c2]
      by_cases c3:rank=7∧tokB s k=negT
      · rw [if_pos c3]
        have hlt:=neLt negT (by decide) c3.2
        obtain ⟨r,hr⟩:=i1 rank (nxtM s k) hr hr8 (nxtM_le hk) (by have:=nxtM_lt hlt; have:=nxtM_le hk; omega)
        rw [hr]
        cases r <;> exact ⟨_,rfl⟩
      rw [if_neg c3]
      obtain ⟨r,hr'⟩:=i1 (rank+1) k (by omega) (by omega) hk (by omega)
      rw [hr']
      cases r with
      | ok x k' =>
        have h2:=(read_le (vs:=vs) (s:=s) m).1 _ _ _ _ hk hr'
        exact i2 rank x k' hr (by omega) h2.2 (by omega)
      | err e k'=>exact ⟨_,rfl⟩
    · rw [loopF]
      by_cases c1:binM rank (tokB s k)=0
      · rw [if_pos c1]; exact ⟨_,rfl⟩
      rw [if_neg c1]
      have hlt:=bin_lt hk c1
      have n1:=nxtM_lt hlt
      have n2:=nxtM_le hk
      obtain ⟨r,hr'⟩:=i1 (rank+1) (nxtM s k) (by omega) (by omega) n2 (by omega)
      rw [hr']
      cases r with
      | ok y k' =>
        have h2:=(read_le (vs:=vs) (s:=s) m).1 _ _ _ _ n2 hr'
        dsimp only
        by_cases c2:rank=4
        · rw [if_pos c2]; exact ⟨_,rfl⟩
        · rw [if_neg c2]; exact i2 rank _ k' hr hr7 h2.2 (by omega)
      | err e k'=>exact ⟨_,rfl⟩
    · rw [atomF]
      by_cases c1:tokB s k=⟨#[]⟩
      · rw [if_pos c1]; exact ⟨_,rfl⟩
      rw [if_neg c1]
      have hlt:k < s.size:=by
        by_cases h:k=s.size
        · exact absurd ((tok_empty hk).2 h) c1
        · omega
      by_cases c2:tokB s k=openT
      · rw [if_pos c2]
        have n1:=nxtM_lt hlt
        have n2:=nxtM_le hk
        obtain ⟨r,hr⟩:=i1 1 (nxtM s k) (by omega) (by omega) n2 (by omega)
        rw [hr]
        cases r with
        | ok x k'=>dsimp only; split <;> exact ⟨_,rfl⟩
        | err e k'=>exact ⟨_,rfl⟩
      rw [if_neg c2]
      split
      · split
        · exact ⟨_,rfl⟩
        · split <;> exact ⟨_,rfl⟩
      · split
        · split <;> exact ⟨_,rfl⟩
        · exact ⟨_,rfl⟩
variable (vs s)
def RdT (rank k:Nat) (r:ParR) : Prop:=∃ m,readF vs s m rank k=some r
def LpT (rank:Nat) (x:NodeM) (k:Nat) (r:ParR) : Prop:=∃ m,loopF vs s m rank x k=some r
def AtT (k:Nat) (r:ParR) : Prop:=∃ m,atomF vs s m k=some r
variable {vs s}
theorem RdT.enough {k:Nat} {r:ParR} (h:RdT vs s 1 k r) (hk:k≤s.size) : readF vs s (20 * s.size+9) 1 k=some r:=by
  obtain ⟨m,hm⟩:=h
  obtain ⟨r',hr⟩:=(read_tot (vs:=vs) (s:=s) (20 * s.size+9)).1 1 k (by omega) (by omega) hk (by omega)
  rcases Nat.le_total m (20 * s.size+9) with h1 | h1
  · exact read_more hm h1
  · have:=read_more hr h1
    rw [hm] at this
    rw [hr,← this]
theorem RdT.not {k k' : Nat} {x:NodeM} (ht:tokB s k=notT) (h:RdT vs s 3 (nxtM s k) (.ok x k')) : RdT vs s 3 k (.ok (.mk 9 0 [x]) k'):=by
  obtain ⟨m,hm⟩:=h
  exact ⟨m+1,by rw [readF,if_neg (by omega),if_pos ⟨rfl,ht⟩,hm]⟩
theorem RdT.neg {k k' : Nat} {x:NodeM} (ht:tokB s k=negT) (h:RdT vs s 7 (nxtM s k) (.ok x k')) : RdT vs s 7 k (.ok (.mk 2 0 [x]) k'):=by
  obtain ⟨m,hm⟩:=h
  exact ⟨m+1,by rw [readF,if_neg (by omega),if_neg (fun h=>by omega),if_pos ⟨rfl,ht⟩,hm]⟩
theorem RdT.bin {rank k k' : Nat} {x:NodeM} {r:ParR} (h7:rank≤7) (h3:rank=3→tokB s k≠notT) (hn:rank=7→tokB s k≠negT) (h:RdT vs s (rank+1) k (.ok x k')) (hl:LpT vs s rank x k' r) : RdT vs s rank k r:=by
  obtain ⟨m,hm⟩:=h
  obtain ⟨n,hn'⟩:=hl
  refine ⟨max m n+1,?_⟩
  rw [readF,if_neg (by omega),if_neg (fun h=>h3 h.1 h.2),if_neg (fun h=>hn h.1 h.2),read_more hm (Nat.le_max_left _ _)]
  exact loop_more hn' (Nat.le_max_right _ _)
theorem LpT.stop {rank k:Nat} {x:NodeM} (h:binM rank (tokB s k)=0) : LpT vs s rank x k (.ok x k):=⟨1,by rw [loopF,if_pos h]⟩
theorem LpT.step {rank k k' : Nat} {x y:NodeM} {r:ParR} (h:binM rank (tokB s k)≠0) (h4:rank≠4) (hr:RdT vs s (rank+1) (nxtM s k) (.ok y k')) (hl:LpT vs s rank (.mk (binM rank (tokB s k)) 0 [x,y]) k' r) : LpT vs s rank x k r:=by
  obtain ⟨m,hm⟩:=hr
  obtain ⟨n,hn⟩:=hl
  refine ⟨max m n+1,?_⟩
  rw [loopF,if_neg h,read_more hm (Nat.le_max_left _ _)]
  dsimp only
  rw [if_neg h4]
  exact loop_more hn (Nat.le_max_right _ _)
theorem AtT.num {k:Nat} (h0:0 < (tokB s k).size) (hd:digitM (bAt (tokB s k) 0)=true) (hz:¬(bAt (tokB s k) 0=48∧1 < (tokB s k).size)) (hv:valB (tokB s k)≤2147483648) : AtT vs s k (.ok (.mk 0 (valB (tokB s k) : Nat) []) (nxtM s k)):=by
  refine ⟨1,?_⟩
  have h1:¬tokB s k=openT:=by
    intro e; rw [e] at hd; revert hd; decide
  have h2:¬tokB s k=⟨#[]⟩:=by
    intro e; rw [e] at h0; exact Nat.lt_irrefl _ h0
  rw [atomF,if_neg h2,if_neg h1,if_pos hd,if_neg hz,if_neg (by omega)]
theorem AtT.name {k i:Nat} (h0:0 < (tokB s k).size) (hl:letterM (bAt (tokB s k) 0)=true) (hr:reservedM (tokB s k)=false) (hi:idxM vs (tokB s k)=some i) : AtT vs s k (.ok (.mk 1 (i:Nat) []) (nxtM s k)):=by
  refine ⟨1,?_⟩
  have h1:¬tokB s k=openT:=by
    intro e; rw [e] at hl; revert hl; decide
  have h2:¬tokB s k=⟨#[]⟩:=by
    intro e; rw [e] at h0; exact Nat.lt_irrefl _ h0
  rw [atomF,if_neg h2,if_neg h1,if_neg (fun h=>digit_letter h hl),if_pos ⟨hl,hr⟩,hi]
end
end Go.Ai
end
section
namespace Go.Ai
open Go.Proofs
set_option maxRecDepth 10000
set_option maxHeartbeats 4000000
/-! ### names -/
structure NamesOK (vs:List VarM) : Prop where
  short:shortV vs
  idx:∀ i (h:i < vs.length),idxM vs vs[i].name=some i
  pos:∀ i (h:i < vs.length),0 < (vs[i].name).size
  let' : ∀ i (h:i < vs.length),letterM (bAt vs[i].name 0)=true
  res:∀ i (h:i < vs.length),reservedM vs[i].name=false
  parts:∀ i (h:i < vs.length),∀ j,j < (vs[i].name).size→partM (bAt vs[i].name j)=true
/-! ### numbers -/
theorem valN_snoc {s:ByteArray} : ∀ (m k a:Nat),valN s (m+1) k a=valN s m k a * 10+(bAt s (k+m) - 48).toNat
  | 0,k,a=>by simp [valN]
  | m+1,k,a=>by
    rw [valN,valN_snoc m (k+1),valN,show k+1+m=k+(m+1) by omega]
/-! ### operations -/
def binOp (op:Nat) : Prop:=op=3∨op=4∨op=5∨op=6∨op=7∨op=8∨op=10∨op=11
def sgn (op:Nat) : ByteArray:=(rowAt op).sign
end Go.Ai
end
section
namespace Go.Ai
open Go.Proofs
set_option maxRecDepth 10000
set_option maxHeartbeats 4000000
section
variable {vs:List VarM} {s:ByteArray}
def NoB (s:ByteArray) (r k:Nat) : Prop:=∀ j:Nat,r≤j→j≤7→binM (j:Nat) (tokB s k)=0
theorem NoB.mono {r r' k:Nat} (h:NoB s r k) (hr:r≤r') : NoB s r' k:=fun j h1 h2=>h j (by omega) h2
structure RdOK (vs:List VarM) (s:ByteArray) (k:Nat) (x:NodeM) (e k' : Nat) : Prop where
  nt:4≤e→tokB s k≠notT
  ng:8≤e→tokB s k≠negT
  stop:∀ r,1≤r→r≤e→NoB s r k'→RdT vs s r k (.ok x k')
  loop:∀ r q,(r=1∨r=2∨r=5∨r=6)→r≤e→NoB s (r+1) k'→LpT vs s r x k' q→RdT vs s r k q
/-! ### texts -/
end
end Go.Ai
end
section
namespace Go.Ai
open Go.Proofs
set_option maxRecDepth 10000
set_option maxHeartbeats 4000000
theorem rsame_w:∀ (m:Nat),m≤1000000→∀ (x:NodeM),sizeN x≤m→∀ (g:Nat→Option Blk) (n:Nat) (cs ds:List AV),repN g n x cs→repN g n x ds →
    WC 6 Tryd.prog 15 [.agg cs,.agg ds] ⟨.fn g,n⟩ fun r=>r=.ret (.lit (.int .i64 1)) ⟨.fn g,n⟩:=by
  intro m
  induction m with
  | zero=>intro _ x hx; cases x; unfold sizeN at hx; omega
  | succ m ihm =>
    intro hm x hx g n cs ds hr hr'
    have IH:=Hide.mk ihm
    clear ihm
    refine WC.drop1 rfl ?_
    cases x with
    | mk op q subs =>
      obtain ⟨hop,sv,rfl,hsv⟩:=hr
      obtain ⟨_,tv,rfl,htv⟩:=hr'
      have hsz:sizeL subs≤m:=by unfold sizeN at hx; omega
      have hlen:subs.length≤1000000:=Nat.le_trans (len_size subs) (by omega)
      obtain ⟨sv',hq⟩ : ∃ sv',Hide (sv'=sv):=⟨_,⟨rfl⟩⟩
      obtain ⟨tv',hq2⟩ : ∃ tv',Hide (tv'=tv):=⟨_,⟨rfl⟩⟩
      rcases hsv with ⟨hsub,rfl | rfl⟩ | ⟨a,off,r,han,⟨c,rfl⟩ | ⟨c,rfl⟩,hrow,hrep⟩ <;>
      rcases htv with ⟨hsub2,rfl | rfl⟩ | ⟨a2,off2,r2,han2,⟨c2,rfl⟩ | ⟨c2,rfl⟩,hrow2,hrep2⟩
      all_goals try (have hz0:subs.length=0:=by rw [hsub]; rfl)
      all_goals try (have hz1:subs.length=0:=by rw [hsub2]; rfl)
      all_goals refine WC.enterP (noO_ok _ _) hG6 pl15 Tryd.func15 rfl (by decide +kernel) (Nat.le_of_ble_eq_true (by kernel_rfl)) ?_
      all_goals
        iterate 12 (all_goals try (first | with_reducible refine splitI (fun h=>?_) (fun h=>?_) | with_reducible refine splitBI (fun h=>?_) (fun h=>?_) | simp (disch:=first | assumption | omega | (simp; done) | fail) [Tryd.results15, *]))
        refine LX.ind (fun m gf H'=>∃ (k n' : Nat) (g' : Nat→Option Blk),k≤subs.length∧m=subs.length - k∧H'=⟨.fn g',n'⟩∧n+1 < n'∧(∀ b,b < n→g' b=g b)∧g' n=some (.cells [.lit (.int .u8 op),.lit (.int .i64 q),sv'] true 0) ∧
          g' (n+1)=some (.cells [.lit (.int .u8 op),.lit (.int .i64 q),tv'] true 0)∧gf 2=some (.ptr n 0)∧gf 3=some (.ptr (n+1) 0)∧gf 5=some (.lit (.int .i64 k))) (m0:=subs.length) ?_ ?_
        · exact ⟨0,n+1+1,_,Nat.zero_le _,rfl,rfl,by omega,fun b hb=>by simp (disch:=omega) only [gput_lt],by simp (disch:=omega) [hq.out, *],by simp [hq2.out, *],by simp,by simp,by simp⟩
        rintro m' gf H' ⟨k,n',g',hk,rfl,rfl,hn',hg',hgn,hgn2,g2,g3,g5⟩ ih
        refine LX.roundP (noO_ok _ _) hG6 pl15 (by decide +kernel) ?_
        rw [hq.out] at hgn
        rw [hq2.out] at hgn2
        have HG:=Hide.mk hg'
        clear hg'
        by_cases hlt:k < subs.length
        · first
          | (exfalso; rw [hsub] at hlt; simp at hlt; done)
          | (exfalso; rw [hsub2] at hlt; simp at hlt; done)
          | (have hy0:=repL_at hrep k hlt
             have hz0:=repL_at hrep2 k hlt
             have hrow':=(hrow.mono (HG.out a han)).agg (k:=k * 3) (s:=3) (by rw [repL_len hrep]; omega)
             have hrow2':=(hrow2.mono (HG.out a2 han2)).agg (k:=k * 3) (s:=3) (by rw [repL_len hrep2]; omega)
             have hszy:sizeN subs[k]≤m:=Nat.le_trans (size_mem (List.getElem_mem hlt)) hsz
             generalize subs[k]=y at hy0 hz0 hszy
             obtain ⟨k2,sv2,hcy,h1c,hop2⟩:=repN_op hy0
             obtain ⟨k3,sv3,hcz,h1d,hop3⟩:=repN_op hz0
             rw [hcy] at hrow' hy0
             rw [hcz] at hrow2' hz0
             have h1a:allOne [.lit (.int .u8 y.op),.lit (.int .i64 k2),sv2]=true:=by simp [h1c]
             have h1b:allOne [.lit (.int .u8 y.op),.lit (.int .i64 k3),sv3]=true:=by simp [h1d]
             have HY:=Hide.mk hy0
             have HZ:=Hide.mk hz0
             have HR:=Hide.mk hrep
             have HR2:=Hide.mk hrow
             have HR3:=Hide.mk hrep2
             have HR4:=Hide.mk hrow2
             have hlt' : (k:Int) < (subs.length:Int):=by omega
             clear hy0 hz0 hrep hrep2 hrow hrow2 hcy hcz
             iterate 40 (all_goals try (first | with_reducible refine splitI (fun h=>?_) (fun h=>?_) | with_reducible refine splitBI (fun h=>?_) (fun h=>?_) | simp (disch:=first | assumption | omega | (simp; done) | fail) [Tryd.results15, *]))
             refine WC.mono (IH.out (by omega) y hszy _ _ _ _ (repN_mono (b':=n') (by omega) (fun a ha=>HG.out a ha) HY.out) (repN_mono (b':=n') (by omega) (fun a ha=>HG.out a ha) HZ.out)) ?_
             rintro _ rfl
             iterate 10 (all_goals try (first | with_reducible refine splitI (fun h=>?_) (fun h=>?_) | with_reducible refine splitBI (fun h=>?_) (fun h=>?_) | simp (disch:=first | assumption | omega | (simp; done) | fail) [Tryd.results15, *]))
             refine ih.out (subs.length - (k+1)) _ _ (by omega) ⟨k+1,n',_,hlt,rfl,rfl,by omega,HG.out,by simp [*,hq.out],by simp [*,hq2.out],by simp [*],by simp [*],by simp [*]⟩)
        · have hkn:k=subs.length:=by omega
          subst hkn
          try clear hrep hrow
          try clear hrep2 hrow2
          iterate 10 (all_goals try (first | with_reducible refine splitI (fun h=>?_) (fun h=>?_) | with_reducible refine splitBI (fun h=>?_) (fun h=>?_) | simp (disch:=first | assumption | omega | (simp; done) | fail) [Tryd.results15, *]))
          all_goals first
            | (exfalso; omega)
            | exact ⟨by show n≤n'; omega,fun b hb=>HG.out b hb⟩
end Go.Ai
end
