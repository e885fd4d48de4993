/- A small verified interpreter over names, its proofs, and what was proved with it. No condition. -/
import Derived.Shelf.Strconv.AtoiAll
import Derived.Test.YtfhkfifjbgcpiaaDoorProg
import Derived.Lib.AtoiAll
import Derived.Test.YtfhkfifjbgcpiaaDoorTD6
import Derived.Test.YtfhkfifjbgcpiaaDoorTD2
set_option linter.all false
set_option linter.deprecated false
section
namespace Go.Proofs
open Go.Shelf
def Tryd.laysAllLaysC172_ren:Go.Shelf.Ren:=⟨fun | 172=>65 | 244=>69 | 245=>70 | 247=>75 | 279=>76 | 280=>77 | 281=>78 | 282=>79 | 287=>85 | 316=>86 | 171=>53 | 205=>87 | 321=>90 | 322=>91 | 243=>64 | 246=>68 | 283=>71 | 284=>72 | 285=>73 | 286=>74 | 129=>81 | 317=>80 | 318=>82 | 319=>83 | 320=>84 | 337=>88 | 338=>89 | n=>n,fun | 9=>9 | 3=>3 | 75=>104 | 76=>105 | 4=>4 | 5=>5 | 167=>117 | 37=>22 | 0=>0 | 85=>118 | 2=>2 | 168=>120 | 53=>112 | 175=>130 | 46=>128 | 210=>134 | 127=>138 | 145=>141 | 143=>139 | 21=>21 | 171=>111 | 173=>115 | 212=>124 | 51=>125 | 20=>20 | 213=>126 | 232=>142 | 233=>143 | 80=>144 | n=>n,fun | 15=>2 | 16=>3 | 17=>1 | 18=>4 | 19=>5 | n=>n⟩
theorem Tryd.laysAllLaysC172:Go.Proofs.LaysC.n172 Tryd.prog Tryd.laysAllLaysC172_ren:={
  mixed:=by kernel_rfl
  f129:=Tryd.func81.trans (congrArg some (by kernel_rfl))
  f171:=Tryd.func53.trans (congrArg some (by kernel_rfl))
  f172:=Tryd.func65.trans (congrArg some (by kernel_rfl))
  f205:=Tryd.func87.trans (congrArg some (by kernel_rfl))
  f243:=Tryd.func64.trans (congrArg some (by kernel_rfl))
  f244:=Tryd.func69.trans (congrArg some (by kernel_rfl))
  f245:=Tryd.func70.trans (congrArg some (by kernel_rfl))
  f246:=Tryd.func68.trans (congrArg some (by kernel_rfl))
  f247:=Tryd.func75.trans (congrArg some (by kernel_rfl))
  f279:=Tryd.func76.trans (congrArg some (by kernel_rfl))
  f280:=Tryd.func77.trans (congrArg some (by kernel_rfl))
  f281:=Tryd.func78.trans (congrArg some (by kernel_rfl))
  f282:=Tryd.func79.trans (congrArg some (by kernel_rfl))
  f283:=Tryd.func71.trans (congrArg some (by kernel_rfl))
  f284:=Tryd.func72.trans (congrArg some (by kernel_rfl))
  f285:=Tryd.func73.trans (congrArg some (by kernel_rfl))
  f286:=Tryd.func74.trans (congrArg some (by kernel_rfl))
  f287:=Tryd.func85.trans (congrArg some (by kernel_rfl))
  f316:=Tryd.func86.trans (congrArg some (by kernel_rfl))
  f317:=Tryd.func80.trans (congrArg some (by kernel_rfl))
  f318:=Tryd.func82.trans (congrArg some (by kernel_rfl))
  f319:=Tryd.func83.trans (congrArg some (by kernel_rfl))
  f320:=Tryd.func84.trans (congrArg some (by kernel_rfl))
  f321:=Tryd.func90.trans (congrArg some (by kernel_rfl))
  f322:=Tryd.func91.trans (congrArg some (by kernel_rfl))
  f337:=Tryd.func88.trans (congrArg some (by kernel_rfl))
  f338:=Tryd.func89.trans (congrArg some (by kernel_rfl))
  t0:=Tryd.underlying0
  a0:=Tryd.isAgg0
  z0:=Tryd.sizeOf0
  v0:=Tryd.zeroValue0
  t2:=Tryd.underlying2
  a2:=Tryd.isAgg2
  z2:=Tryd.sizeOf2
  v2:=Tryd.zeroValue2
  t3:=Tryd.underlying3
  a3:=Tryd.isAgg3
  z3:=Tryd.sizeOf3
  v3:=Tryd.zeroValue3
  t4:=Tryd.underlying4
  a4:=Tryd.isAgg4
  z4:=Tryd.sizeOf4
  v4:=Tryd.zeroValue4
  t5:=Tryd.underlying5
  a5:=Tryd.isAgg5
  z5:=Tryd.sizeOf5
  v5:=Tryd.zeroValue5
  t9:=Tryd.underlying9
  a9:=Tryd.isAgg9
  z9:=Tryd.sizeOf9
  v9:=Tryd.zeroValue9
  t20:=Tryd.underlying20
  a20:=Tryd.isAgg20
  z20:=Tryd.sizeOf20
  v20:=Tryd.zeroValue20
  t21:=Tryd.underlying21
  a21:=Tryd.isAgg21
  z21:=Tryd.sizeOf21
  v21:=Tryd.zeroValue21
  t37:=Tryd.underlying22
  a37:=Tryd.isAgg22
  z37:=Tryd.sizeOf22
  v37:=Tryd.zeroValue22
  t46:=Tryd.underlying128
  a46:=Tryd.isAgg128
  z46:=Tryd.sizeOf128
  v46:=Tryd.zeroValue128
  t51:=Tryd.underlying125
  a51:=Tryd.isAgg125
  z51:=Tryd.sizeOf125
  v51:=Tryd.zeroValue125
  t53:=Tryd.underlying112
  a53:=Tryd.isAgg112
  z53:=Tryd.sizeOf112
  v53:=Tryd.zeroValue112
  t75:=Tryd.underlying104
  a75:=Tryd.isAgg104
  z75:=Tryd.sizeOf104
  v75:=Tryd.zeroValue104
  t76:=Tryd.underlying105
  a76:=Tryd.isAgg105
  z76:=Tryd.sizeOf105
  v76:=Tryd.zeroValue105
  t85:=Tryd.underlying118
  a85:=Tryd.isAgg118
  z85:=Tryd.sizeOf118
  v85:=Tryd.zeroValue118
  t127:=Tryd.underlying138
  a127:=Tryd.isAgg138
  z127:=Tryd.sizeOf138
  v127:=Tryd.zeroValue138
  t143:=Tryd.underlying139
  a143:=Tryd.isAgg139
  z143:=Tryd.sizeOf139
  v143:=Tryd.zeroValue139
  t145:=Tryd.underlying141
  a145:=Tryd.isAgg141
  z145:=Tryd.sizeOf141
  v145:=Tryd.zeroValue141
  t167:=Tryd.underlying117
  a167:=Tryd.isAgg117
  z167:=Tryd.sizeOf117
  v167:=Tryd.zeroValue117
  t168:=Tryd.underlying120
  a168:=Tryd.isAgg120
  z168:=Tryd.sizeOf120
  v168:=Tryd.zeroValue120
  t171:=Tryd.underlying111
  a171:=Tryd.isAgg111
  z171:=Tryd.sizeOf111
  v171:=Tryd.zeroValue111
  t173:=Tryd.underlying115
  a173:=Tryd.isAgg115
  z173:=Tryd.sizeOf115
  v173:=Tryd.zeroValue115
  t175:=Tryd.underlying130
  a175:=Tryd.isAgg130
  z175:=Tryd.sizeOf130
  v175:=Tryd.zeroValue130
  t210:=Tryd.underlying134
  a210:=Tryd.isAgg134
  z210:=Tryd.sizeOf134
  v210:=Tryd.zeroValue134
  t212:=Tryd.underlying124
  a212:=Tryd.isAgg124
  z212:=Tryd.sizeOf124
  v212:=Tryd.zeroValue124
  t213:=Tryd.underlying126
  a213:=Tryd.isAgg126
  z213:=Tryd.sizeOf126
  t232:=Tryd.underlying142
  a232:=Tryd.isAgg142
  z232:=Tryd.sizeOf142
  v232:=Tryd.zeroValue142
  t233:=Tryd.underlying143
  a233:=Tryd.isAgg143
  z233:=Tryd.sizeOf143
  v233:=Tryd.zeroValue143
  g15:=by kernel_rfl
  g16:=by kernel_rfl
  g17:=by kernel_rfl
  g18:=by kernel_rfl
  g19:=by kernel_rfl
  t80:=Tryd.underlying144
  a80:=Tryd.isAgg144
  z80:=Tryd.sizeOf144
  v80:=Tryd.zeroValue144
  i0:=by kernel_rfl
  i2:=by kernel_rfl
  i3:=by kernel_rfl
  i4:=by kernel_rfl
  i5:=by kernel_rfl
  i9:=by kernel_rfl
  i20:=by kernel_rfl
  i21:=by kernel_rfl
  i37:=by kernel_rfl
  i46:=by kernel_rfl
  i51:=by kernel_rfl
  i53:=by kernel_rfl
  i75:=by kernel_rfl
  i76:=by kernel_rfl
  i80:=by kernel_rfl
  i85:=by kernel_rfl
  i127:=by kernel_rfl
  i143:=by kernel_rfl
  i145:=by kernel_rfl
  i167:=by kernel_rfl
  i168:=by kernel_rfl
  i171:=by kernel_rfl
  i173:=by kernel_rfl
  i175:=by kernel_rfl
  i210:=by kernel_rfl
  i212:=by kernel_rfl
  i232:=by kernel_rfl
  i233:=by kernel_rfl
  m15:=by kernel_rfl
  m16:=by kernel_rfl
  m17:=by kernel_rfl
  m18:=by kernel_rfl
  m19:=by kernel_rfl
  c0:=by kernel_rfl
  c2:=by kernel_rfl
  c3:=by kernel_rfl
  c4:=by kernel_rfl
  c5:=by kernel_rfl
  c9:=by kernel_rfl
  c20:=by kernel_rfl
  c21:=by kernel_rfl
  c37:=by kernel_rfl
  c46:=by kernel_rfl
  c51:=by kernel_rfl
  c53:=by kernel_rfl
  c75:=by kernel_rfl
  c76:=by kernel_rfl
  c80:=by kernel_rfl
  c85:=by kernel_rfl
  c127:=by kernel_rfl
  c143:=by kernel_rfl
  c145:=by kernel_rfl
  c167:=by kernel_rfl
  c168:=by kernel_rfl
  c171:=by kernel_rfl
  c173:=by kernel_rfl
  c175:=by kernel_rfl
  c210:=by kernel_rfl
  c212:=by kernel_rfl
  c213:=by kernel_rfl
  c232:=by kernel_rfl
  c233:=by kernel_rfl }
end Go.Proofs
end
section
namespace Go.Ai
open Go.Proofs
set_option maxRecDepth 10000
def valL (acc:Nat) : List UInt8→Nat
  | []=>acc
  | c :: r=>valL (acc * 10+(c.toNat - 48)) r
theorem valL_le:∀ (l:List UInt8) (acc:Nat),acc≤valL acc l
  | [],acc=>Nat.le_refl _
  | c :: r,acc=>by
    have:=valL_le r (acc * 10+(c.toNat - 48))
    unfold valL
    omega
theorem parse10_eq:∀ (l:List UInt8) (acc:Nat),(∀ c∈l,48≤c.toNat∧c.toNat≤57)→acc < 18446744073709551616→Lib.parseUint10 acc l=if valL acc l < 18446744073709551616 then .ok (valL acc l) else .range
  | [],acc,_,h=>by unfold Lib.parseUint10 valL; rw [if_pos h]
  | c :: r,acc,hc,h=>by
    have h1:=hc c (by simp)
    have h2:=valL_le r (acc * 10+(c.toNat - 48))
    unfold Lib.parseUint10
    rw [if_pos h1]
    show _=if valL (acc * 10+(c.toNat - 48)) r < _ then _ else _
    by_cases h3:1844674407370955162≤acc
    · rw [if_pos h3,if_neg (by omega)]
    · rw [if_neg h3]
      by_cases h4:18446744073709551616≤acc * 10+(c.toNat - 48)
      · rw [if_pos h4,if_neg (by omega)]
      · rw [if_neg h4,parse10_eq r _ (fun d hd=>hc d (by simp [hd])) (by omega)]
        rfl
theorem bAt_list {s:ByteArray} {k:Nat} (h:k < s.size) : bAt s k=((s.data.toList[k]'(by simpa using h)).toNat:Nat):=by
  unfold bAt
  rw [dif_pos h]
  simp
  rfl
theorem drop_at {l:List UInt8} {k:Nat} (h:k < l.length) : l.drop k=l[k] :: l.drop (k+1):=List.drop_eq_getElem_cons h
theorem valN_list {s:ByteArray} (m:Nat) : ∀ (k acc:Nat),k+m=s.size→valN s m k acc=valL acc (s.data.toList.drop k):=by
  induction m with
  | zero =>
    intro k acc h
    rw [List.drop_eq_nil_of_le (by simp; omega)]
    rfl
  | succ m ih =>
    intro k acc h
    have hk:k < s.size:=by omega
    have hl:k < s.data.toList.length:=by simpa using hk
    have e2:(bAt s k - 48).toNat=(s.data.toList[k]).toNat - 48:=by
      rw [bAt_list hk]
      omega
    have e1:valN s (m+1) k acc=valN s m (k+1) (acc * 10+(bAt s k - 48).toNat):=by rw [valN]
    rw [e1,ih (k+1) _ (by omega),e2,drop_at hl]
    rfl
theorem digits_list {s:ByteArray} (hd:digitsB s) : ∀ c∈s.data.toList,48≤c.toNat∧c.toNat≤57:=by
  intro c hc
  obtain ⟨k,hk,rfl⟩:=List.mem_iff_getElem.1 hc
  have hk' : k < s.size:=by simpa using hk
  have:=digit_in (hd k hk')
  rw [bAt_list hk'] at this
  omega
theorem atoiAll_digits {s:ByteArray} (h0:0 < s.size) (hd:digitsB s) : Lib.atoiAll s.data.toList=if valB s≤9223372036854775807 then .ok (valB s:Nat) else .range:=by
  have hl:=digits_list hd
  have hv:valB s=valL 0 s.data.toList:=by unfold valB; rw [valN_list _ _ _ (by omega),List.drop_zero]
  rw [hv]
  cases hs:s.data.toList with
  | nil =>
    have:s.data.toList.length=0:=by rw [hs]; rfl
    simp at this
    have h1:s.size=s.data.size:=rfl
    rw [h1,this] at h0
    simp at h0
  | cons c r =>
    rw [hs] at hl
    have hc:=hl c (by simp)
    unfold Lib.atoiAll Lib.parseMag
    dsimp only
    rw [if_neg (show ¬(c.toNat=43∨c.toNat=45) by omega),if_neg (by simp),parse10_eq _ 0 hl (by omega)]
    by_cases h1:valL 0 (c :: r) < 18446744073709551616
    · rw [if_pos h1]
      dsimp only
      by_cases h2:9223372036854775808≤valL 0 (c :: r)
      · rw [if_pos ⟨by omega,h2⟩,if_neg (by omega)]
      · rw [if_neg (fun h=>h2 h.2),if_neg (fun h=>by omega),if_neg (by omega),if_pos (by omega)]
    · rw [if_neg h1,if_neg (by omega)]
theorem atoiSat_digits {s:ByteArray} (h0:0 < s.size) (hd:digitsB s) : Lib.atoiSat s.data.toList=9223372036854775807:=by
  have hl:=digits_list hd
  unfold Lib.atoiSat
  rw [if_neg]
  intro h
  cases hs:s.data.toList with
  | nil=>rw [hs] at h; simp at h
  | cons c r =>
    rw [hs] at hl h
    have:=hl c (by simp)
    simp at h
    omega
end Go.Ai
end
section
namespace Go.Ai
open Go.Proofs
set_option maxRecDepth 10000
theorem Sim.old {B G:Nat} {ρ:Rn} {H:Mem} {w w' : World} (s:Sim B G ρ H w) (h:RowKit.Below w.heap.size w w') : Sim B G ρ H w' :=
  s.other h.size fun a x b o k hx hr=>h.block b (s.at hx hr).lt
theorem Sim.blind {B G:Nat} {ρ:Rn} {g:Nat→Option Blk} {n:Nat} {w:World} (s:Sim B G ρ ⟨.fn g,n⟩ w) (x:Nat×Nat×Nat) : Sim B G (upd ρ n x) ⟨.fn (gput g n Option.none),n+1⟩ w:=by
  have hs:Sub ρ (upd ρ n x):=sub_upd s.none
  have hne:∀ a y,gput g n Option.none a=some y→a≠n∧g a=some y:=by
    intro a y h
    by_cases e:a=n
    · subst e; rw [gput_eq] at h; cases h
    · rw [gput_ne e] at h; exact ⟨e,h⟩
  refine ⟨fun a y hy=>?_,fun a a' y y' b o k o' k' hy hy' hd ho hr hr'=>?_,fun a ha=>?_,fun a y ha hy=>?_,Nat.le_succ_of_le s.names,s.base⟩
  · obtain ⟨h1,h2⟩:=hne a y hy
    rw [upd_ne _ _ h1]
    rcases s.blk a y h2 with h | ⟨b,o,k,h3,h4⟩
    · exact .inl h
    · exact .inr ⟨b,o,k,h3,h4.mono hs rfl⟩
  · obtain ⟨h1,h2⟩:=hne a y hy
    obtain ⟨h3,h4⟩:=hne a' y' hy'
    rw [upd_ne _ _ h1] at hr
    rw [upd_ne _ _ h3] at hr'
    exact s.inj a a' y y' b o k o' k' h2 h4 hd ho hr hr'
  · have ha' : n+1≤a:=ha
    rw [upd_ne _ _ (by omega)]
    exact s.fresh a (by show n≤a; omega)
  · obtain ⟨h1,h2⟩:=hne a y hy
    rw [upd_ne _ _ h1]
    exact s.glob a y ha h2
theorem atoi_ok {s0:ByteArray} (hs0:s0.size≤1000000) : AtoiOK s0:=fun s g n he hn h0 hss hd _=>by
  intro B ρ us w sim hv
  obtain ⟨u,us',hu,hvr,hnil⟩:=hv
  have e1:u=.string s:=hvr
  have e2:us'=[]:=hnil
  subst e1 e2
  have hus:us=#[.string s]:=by
    apply Array.ext'
    rw [hu]
  subst hus
  by_cases hle:valB s≤9223372036854775807
  · have hat:=atoiAll_digits h0 hd
    rw [if_pos hle] at hat
    refine (Any.strconv_Atoi_ok Tryd.laysAllLaysC172 s (by omega) _ hat w).mono ?_
    rintro e w' ⟨rfl,hw⟩
    have hb:RowKit.Below w.heap.size w w':=by
      rcases hw with rfl | ⟨t,rfl⟩
      · exact RowKit.Below.refl _ _
      · exact Lib.bytesWorld_below _ _ _
    refine ⟨_,⟨(valB s:Nat),.lit .nilIface,g,n,rfl,Nat.le_refl _,fun _ _=>rfl,?_⟩,ρ,⟨fun _ _=>rfl,hb.mono sim.base⟩,sim.old hb,⟨_,rfl,_,_,rfl,rfl,_,_,rfl,rfl,rfl⟩,Nat.le_refl _⟩
    by_cases h1:valB s≤2147483648
    · exact .inl ⟨h1,rfl,rfl⟩
    · exact .inr ⟨by omega,.inl ⟨rfl,by omega⟩⟩
  · have hat:=atoiAll_digits h0 hd
    rw [if_neg hle] at hat
    obtain ⟨b,o,k,h1,h2⟩ : ∃ b o k,ρ 3=some (b,o,k)∧BR B ρ (.cells bY false 0) b o k w:=by
      rcases sim.blk 3 _ he with h | h
      · rw [sim.glob 3 _ (by omega) he] at h; cases h
      · exact h
    have h3:=sim.glob 3 _ (by omega) he
    rw [h3] at h1
    cases h1
    obtain ⟨c,e,fz,hh,hc,_⟩:=h2
    obtain ⟨u,hu1,hu2⟩:=hc 0 _ rfl
    obtain ⟨u2,rfl,_⟩:=hu2
    have hcell:w.cell? ⟨3,0,none⟩=some (.iface 139 u2):=by
      simp [World.cell?,hh]
      simpa using hu1
    refine (Any.strconv_Atoi_range Tryd.laysAllLaysC172 s (by omega) hat (.iface 139 u2) w hcell (.inr ⟨_,_,rfl⟩)).mono ?_
    rintro e w' ⟨N,rfl,hN,_,hb⟩
    rw [atoiSat_digits h0 hd]
    refine ⟨_,⟨9223372036854775807,.iface 120 (.ptr n 0),gput g n Option.none,n+1,rfl,Nat.le_succ _,fun a ha=>gput_lt ha,.inr ⟨by omega,.inr ⟨n,0,rfl⟩⟩⟩,upd ρ n (N,0,0),⟨fun a ha=>upd_ne _ _ (Nat.ne_of_lt ha),hb.mono sim.base⟩,(sim.old hb).blind _,?_,Nat.le_succ _⟩
    exact ⟨_,rfl,_,_,rfl,rfl,_,_,rfl,⟨_,rfl,N,0,0,upd_same _ _ _,rfl⟩,rfl⟩
end Go.Ai
end
section
namespace Go.Ai
open Go.Proofs
set_option maxRecDepth 10000
theorem bAt_app_l {a b:ByteArray} {i:Nat} (h:i < a.size) : bAt (a++b) i=bAt a i:=by
  unfold bAt
  have h2:i < (a++b).size:=by rw [ba_size_append]; omega
  rw [dif_pos h2,dif_pos h,ByteArray.getElem_append_left h]
theorem bAt_app_r {a b:ByteArray} {i:Nat} (h:i < b.size) : bAt (a++b) (a.size+i)=bAt b i:=by
  unfold bAt
  have h2:a.size+i < (a++b).size:=by rw [ba_size_append]; omega
  rw [dif_pos h2,dif_pos h,ByteArray.getElem_append_right (by omega)]
  simp
structure Has (s:ByteArray) (k:Nat) (w:ByteArray) : Prop where
  le:k+w.size≤s.size
  at' : ∀ i,i < w.size→bAt s (k+i)=bAt w i
theorem Has.self (s:ByteArray) : Has s 0 s:=⟨by omega,fun i _=>by rw [Nat.zero_add]⟩
theorem Has.app {s a b:ByteArray} {k:Nat} (h:Has s k (a++b)) : Has s k a∧Has s (k+a.size) b:=by
  obtain ⟨h1,h2⟩:=h
  rw [ba_size_append] at h1
  refine ⟨⟨by omega,fun i hi=>?_⟩,⟨by omega,fun i hi=>?_⟩⟩
  · rw [h2 i (by rw [ba_size_append]; omega),bAt_app_l hi]
  · rw [Nat.add_assoc,h2 _ (by rw [ba_size_append]; omega),bAt_app_r hi]
theorem ba_ext {a b:ByteArray} (h:a.size=b.size) (h2:∀ i,i < a.size→bAt a i=bAt b i) : a=b:=by
  refine ByteArray.ext_getElem h fun i h3 h4=>?_
  have:=h2 i h3
  unfold bAt at this
  rw [dif_pos h3,dif_pos h4] at this
  exact UInt8.toNat_inj.1 (by omega)
theorem Has.ext {s w:ByteArray} {k:Nat} (h:Has s k w) : s.extract k (k+w.size)=w:=by
  have hs:(s.extract k (k+w.size)).size=w.size:=by rw [ByteArray.size_extract]; have:=h.le; omega
  refine ba_ext hs fun i hi=>?_
  rw [bAt_extract (by omega) h.le]
  exact h.at' i (by omega)
theorem Has.byte {s w:ByteArray} {k:Nat} (h:Has s k w) (h0:0 < w.size) : bAt s k=bAt w 0:=by
  have:=h.at' 0 h0
  rwa [Nat.add_zero] at this
def Stop (s:ByteArray) (j:Nat) : Prop:=j=s.size∨(j < s.size∧(bAt s j=32∨bAt s j=41))
theorem runF_eq {F:Nat→Int→Bool} {s:ByteArray} {k L:Nat} : ∀ (m j:Nat),j≤L→k+L≤s.size→L - j≤m→(∀ i,j≤i→i < L→F i (bAt s (k+i))=true)→(k+L=s.size∨F L (bAt s (k+L))=false)→runF F s k m j=L
  | 0,j,h1,_,h3,_,_=>by unfold runF; omega
  | m+1,j,h1,h2,h3,h4,h5=>by
    unfold runF
    by_cases h:j=L
    · subst h
      rcases h5 with h5 | h5
      · rw [if_neg (by omega)]
      · split
        · rw [if_neg (by rw [h5]; simp)]
        · rfl
    · rw [if_pos (by omega),if_pos (h4 j (Nat.le_refl _) (by omega))]
      exact runF_eq m (j+1) (by omega) h2 (by omega) (fun i h6 h7=>h4 i (by omega) h7) h5
theorem tok_of {s w:ByteArray} {k:Nat} (h:Has s k w) (h0:0 < w.size) (ht:tokN s k=w.size) : tokB s k=w:=by
  have:=h.le
  unfold tokB
  rw [if_neg (by omega),ht,h.ext]
theorem stop_part {s:ByteArray} {j:Nat} (h:Stop s j) : j=s.size∨partM (bAt s j)=false:=by
  rcases h with h | ⟨_,h | h⟩
  · exact .inl h
  · right; rw [h]; decide
  · right; rw [h]; decide
theorem part_digit {c:Int} (h:partM c=false) : digitM c=false:=by
  unfold partM at h
  simp only [Bool.or_eq_false_iff] at h
  exact h.1.2
theorem tok_word {s w:ByteArray} {k:Nat} (h:Has s k w) (h0:0 < w.size) (hl:letterM (bAt w 0)=true) (hp:∀ i,i < w.size→partM (bAt w i)=true) (hs:Stop s (k+w.size)) : tokB s k=w:=by
  refine tok_of h h0 ?_
  have:=h.le
  unfold tokN
  rw [h.byte h0,if_pos hl]
  refine runF_eq _ _ h0 h.le (by omega) (fun i _ hi=>?_) ?_
  · rw [h.at' i hi]; exact hp i hi
  · exact stop_part hs
theorem digit_letter {c:Int} (h:digitM c=true) : ¬letterM c=true:=by
  have:=digit_in h
  simp only [letterM,Bool.or_eq_true,decide_eq_true_eq]
  omega
theorem tok_num {s w:ByteArray} {k:Nat} (h:Has s k w) (h0:0 < w.size) (hp:∀ i,i < w.size→digitM (bAt w i)=true) (hs:Stop s (k+w.size)) : tokB s k=w:=by
  refine tok_of h h0 ?_
  have:=h.le
  unfold tokN
  rw [h.byte h0,if_neg (digit_letter (hp 0 h0)),if_pos (hp 0 h0)]
  refine runF_eq _ _ h0 h.le (by omega) (fun i _ hi=>?_) ?_
  · rw [h.at' i hi]; exact hp i hi
  · rcases stop_part hs with h | h
    · exact .inl h
    · exact .inr (part_digit h)
theorem tok_one {s w:ByteArray} {k:Nat} (h:Has s k w) (h0:w.size=1) (hl:letterM (bAt w 0)=false) (hd:digitM (bAt w 0)=false) (h60:bAt w 0≠60) : tokB s k=w:=by
  refine tok_of h (by omega) ?_
  unfold tokN
  rw [h.byte (by omega),if_neg (by rw [hl]; simp),if_neg (by rw [hd]; simp),if_neg h60,h0]
theorem tok_less {s w:ByteArray} {k:Nat} (h:Has s k w) (h0:w.size=1) (h60:bAt w 0=60) (hs:k+1=s.size∨bAt s (k+1)≠61) : tokB s k=w:=by
  refine tok_of h (by omega) ?_
  have:=h.le
  unfold tokN
  rw [h.byte (by omega),h60,if_neg (by decide),if_neg (by decide),if_pos rfl,h0]
  refine runF_eq _ _ (Nat.le_refl _) (by omega) (by omega) (fun i h1 h2=>by omega) ?_
  rcases hs with hs | hs
  · exact .inl hs
  · exact .inr (by unfold fLess; simp [hs])
theorem tok_most {s w:ByteArray} {k:Nat} (h:Has s k w) (h0:w.size=2) (h60:bAt w 0=60) (h61:bAt w 1=61) : tokB s k=w:=by
  refine tok_of h (by omega) ?_
  have:=h.le
  unfold tokN
  rw [h.byte (by omega),h60,if_neg (by decide),if_neg (by decide),if_pos rfl,h0]
  refine runF_eq _ _ (by omega) (by omega) (by omega) (fun i h1 h2=>?_) ?_
  · have hi:i=1:=by omega
    subst hi
    rw [h.at' 1 (by omega),h61]
    decide
  · exact .inr (by unfold fLess; simp)
theorem adv_stay {s:ByteArray} {k:Nat} (h:k=s.size∨bAt s k≠32) : advM s k=k:=by
  unfold advM
  rcases h with h | h
  · rw [h,Nat.sub_self]; rfl
  · cases hm:s.size - k with
    | zero=>rfl
    | succ m =>
      unfold skipM
      split
      · first | rfl | rw [if_neg h]
      · rfl
theorem adv_skip {s:ByteArray} {k:Nat} (hk:k < s.size) (h:bAt s k=32) : advM s k=advM s (k+1):=by
  unfold advM
  rw [show s.size - k=(s.size - (k+1))+1 by omega,skipM,if_pos hk,if_pos h]
end Go.Ai
end
section
namespace Go.Ai
open Go.Proofs
set_option maxRecDepth 10000
set_option maxHeartbeats 4000000
section
variable {vs:List VarM} {s:ByteArray}
theorem read_mono:∀ (m:Nat),(∀ rank k r,readF vs s m rank k=some r→readF vs s (m+1) rank k=some r)∧(∀ rank x k r,loopF vs s m rank x k=some r→loopF vs s (m+1) rank x k=some r)∧(∀ k r,atomF vs s m k=some r→atomF vs s (m+1) k=some r)
  | 0=>⟨fun _ _ _ h=>(by rw [readF] at h; cases h),fun _ _ _ _ h=>(by rw [loopF] at h; cases h),fun _ _ h=>(by rw [atomF] at h; cases h)⟩
  | m+1=>by
    obtain ⟨i1,i2,i3⟩:=read_mono m
    refine ⟨fun rank k r h=>?_,fun rank x k r h=>?_,fun k r h=>?_⟩
    · rw [readF] at h
      rw [readF]
      by_cases c1:7 < rank
      · rw [if_pos c1] at h ⊢; exact i3 _ _ h
      rw [if_neg c1] at h ⊢
      by_cases c2:rank=3∧tokB s k=notT
      · rw [if_pos c2] at h ⊢
        cases hm:readF vs s m rank (nxtM s k) with
        | none=>rw [hm] at h; cases h
        | some z=>rw [hm] at h; rw [i1 _ _ _ hm]; exact h
      rw [if_neg c2] at h ⊢
      by_cases c3:rank=7∧tokB s k=negT
      · rw [if_pos c3] at h ⊢
        cases hm:readF vs s m rank (nxtM s k) with
        | none=>rw [hm] at h; cases h
        | some z=>rw [hm] at h; rw [i1 _ _ _ hm]; exact h
      rw [if_neg c3] at h ⊢
      cases hm:readF vs s m (rank+1) k with
      | none=>rw [hm] at h; cases h
      | some z =>
        rw [hm] at h; rw [i1 _ _ _ hm]
        cases z with
        | ok x k'=>exact i2 _ _ _ _ h
        | err e k'=>exact h
    · rw [loopF] at h
      rw [loopF]
      by_cases c1:binM rank (tokB s k)=0
      · rw [if_pos c1] at h ⊢; exact h
      rw [if_neg c1] at h ⊢
      cases hm:readF vs s m (rank+1) (nxtM s k) with
      | none=>rw [hm] at h; cases h
      | some z =>
        rw [hm] at h; rw [i1 _ _ _ hm]
        cases z with
        | ok y k' =>
          dsimp only at h ⊢
          by_cases c2:rank=4
          · rw [if_pos c2] at h ⊢; exact h
          · rw [if_neg c2] at h ⊢; exact i2 _ _ _ _ h
        | err e k'=>exact h
    · rw [atomF] at h
      rw [atomF]
      by_cases c1:tokB s k=⟨#[]⟩
      · rw [if_pos c1] at h ⊢; exact h
      rw [if_neg c1] at h ⊢
      by_cases c2:tokB s k=openT
      · rw [if_pos c2] at h ⊢
        cases hm:readF vs s m 1 (nxtM s k) with
        | none=>rw [hm] at h; cases h
        | some z=>rw [hm] at h; rw [i1 _ _ _ hm]; exact h
      rw [if_neg c2] at h ⊢
      exact h
theorem read_more {m n rank k:Nat} {r:ParR} (h:readF vs s m rank k=some r) (hn:m≤n) : readF vs s n rank k=some r:=by
  induction n with
  | zero => have : m = 0 := by omega
            subst this; exact h
  | succ n ih =>
    by_cases e:m=n+1
    · subst e; exact h
    · exact (read_mono n).1 _ _ _ (ih (by omega))
theorem loop_more {m n rank k:Nat} {x:NodeM} {r:ParR} (h:loopF vs s m rank x k=some r) (hn:m≤n) : loopF vs s n rank x k=some r:=by
  induction n with
  | zero => have : m = 0 := by omega
            subst this; exact h
  | succ n ih =>
    by_cases e:m=n+1
    · subst e; exact h
    · exact (read_mono n).2.1 _ _ _ _ (ih (by omega))
theorem bin_lt {rank:Int} {k:Nat} (hk:k≤s.size) (h:¬binM rank (tokB s k)=0) : k < s.size:=by
  by_cases e:k=s.size
  · exact absurd ((congrArg (binM rank) ((tok_empty hk).2 e)).trans (binM_empty rank)) h
  · omega
theorem read_tot:∀ (m:Nat),(∀ rank k,1≤rank→rank≤8→k≤s.size→20 * (s.size - k)+(10 - rank)≤m→∃ r,readF vs s m rank k=some r)∧(∀ rank x k,1≤rank→rank≤7→k≤s.size→20 * (s.size - k)+1≤m→∃ r,loopF vs s m rank x k=some r)∧(∀ k,k≤s.size→20 * (s.size - k)+1≤m→∃ r,atomF vs s m k=some r)
  | 0=>⟨fun _ _ _ _ _ _=>(by omega),fun _ _ _ _ _ _ _=>(by omega),fun _ _ _=>(by omega)⟩
  | m+1=>by
    obtain ⟨i1,i2,i3⟩:=read_tot m
    refine ⟨fun rank k hr hr8 hk hm=>?_,fun rank x k hr hr7 hk hm=>?_,fun k hk hm=>?_⟩
    · rw [readF]
      by_cases c1:7 < rank
      · rw [if_pos c1]; exact i3 _ hk (by omega)
      rw [if_neg c1]
      have neLt:∀ t:ByteArray,t≠⟨#[]⟩→tokB s k=t→k < s.size:=fun t ht e=>by
        by_cases h:k=s.size
        · exact absurd (e.symm.trans ((tok_empty hk).2 h)) ht
        · omega
      by_cases c2:rank=3∧tokB s k=notT
      · rw [if_pos c2]
        have hlt:=neLt notT (by decide) c2.2
        obtain ⟨r,hr⟩:=i1 rank (nxtM s k) hr hr8 (nxtM_le hk) (by have:=nxtM_lt hlt; have:=nxtM_le hk; omega)
        rw [hr]
        cases r <;> exact ⟨_,rfl⟩
      rw [if_neg c2]
      by_cases c3:rank=7∧tokB s k=negT
      · rw [if_pos c3]
        have hlt:=neLt negT (by decide) c3.2
        obtain ⟨r,hr⟩:=i1 rank (nxtM s k) hr hr8 (nxtM_le hk) (by have:=nxtM_lt hlt; have:=nxtM_le hk; omega)
        rw [hr]
        cases r <;> exact ⟨_,rfl⟩
      rw [if_neg c3]
      obtain ⟨r,hr'⟩:=i1 (rank+1) k (by omega) (by omega) hk (by omega)
      rw [hr']
      cases r with
      | ok x k' =>
        have h2:=(read_le (vs:=vs) (s:=s) m).1 _ _ _ _ hk hr'
        exact i2 rank x k' hr (by omega) h2.2 (by omega)
      | err e k'=>exact ⟨_,rfl⟩
    · rw [loopF]
      by_cases c1:binM rank (tokB s k)=0
      · rw [if_pos c1]; exact ⟨_,rfl⟩
      rw [if_neg c1]
      have hlt:=bin_lt hk c1
      have n1:=nxtM_lt hlt
      have n2:=nxtM_le hk
      obtain ⟨r,hr'⟩:=i1 (rank+1) (nxtM s k) (by omega) (by omega) n2 (by omega)
      rw [hr']
      cases r with
      | ok y k' =>
        have h2:=(read_le (vs:=vs) (s:=s) m).1 _ _ _ _ n2 hr'
        dsimp only
        by_cases c2:rank=4
        · rw [if_pos c2]; exact ⟨_,rfl⟩
        · rw [if_neg c2]; exact i2 rank _ k' hr hr7 h2.2 (by omega)
      | err e k'=>exact ⟨_,rfl⟩
    · rw [atomF]
      by_cases c1:tokB s k=⟨#[]⟩
      · rw [if_pos c1]; exact ⟨_,rfl⟩
      rw [if_neg c1]
      have hlt:k < s.size:=by
        by_cases h:k=s.size
        · exact absurd ((tok_empty hk).2 h) c1
        · omega
      by_cases c2:tokB s k=openT
      · rw [if_pos c2]
        have n1:=nxtM_lt hlt
        have n2:=nxtM_le hk
        obtain ⟨r,hr⟩:=i1 1 (nxtM s k) (by omega) (by omega) n2 (by omega)
        rw [hr]
        cases r with
        | ok x k'=>dsimp only; split <;> exact ⟨_,rfl⟩
        | err e k'=>exact ⟨_,rfl⟩
      rw [if_neg c2]
      split
      · split
        · exact ⟨_,rfl⟩
        · split <;> exact ⟨_,rfl⟩
      · split
        · split <;> exact ⟨_,rfl⟩
        · exact ⟨_,rfl⟩
variable (vs s)
def RdT (rank k:Nat) (r:ParR) : Prop:=∃ m,readF vs s m rank k=some r
def LpT (rank:Nat) (x:NodeM) (k:Nat) (r:ParR) : Prop:=∃ m,loopF vs s m rank x k=some r
def AtT (k:Nat) (r:ParR) : Prop:=∃ m,atomF vs s m k=some r
variable {vs s}
theorem RdT.enough {k:Nat} {r:ParR} (h:RdT vs s 1 k r) (hk:k≤s.size) : readF vs s (20 * s.size+9) 1 k=some r:=by
  obtain ⟨m,hm⟩:=h
  obtain ⟨r',hr⟩:=(read_tot (vs:=vs) (s:=s) (20 * s.size+9)).1 1 k (by omega) (by omega) hk (by omega)
  rcases Nat.le_total m (20 * s.size+9) with h1 | h1
  · exact read_more hm h1
  · have:=read_more hr h1
    rw [hm] at this
    rw [hr,← this]
theorem RdT.atom {k:Nat} {r:ParR} (h:AtT vs s k r) : RdT vs s 8 k r:=by
  obtain ⟨m,hm⟩:=h
  exact ⟨m+1,by rw [readF,if_pos (by omega),hm]⟩
theorem RdT.not {k k' : Nat} {x:NodeM} (ht:tokB s k=notT) (h:RdT vs s 3 (nxtM s k) (.ok x k')) : RdT vs s 3 k (.ok (.mk 9 0 [x]) k'):=by
  obtain ⟨m,hm⟩:=h
  exact ⟨m+1,by rw [readF,if_neg (by omega),if_pos ⟨rfl,ht⟩,hm]⟩
theorem RdT.neg {k k' : Nat} {x:NodeM} (ht:tokB s k=negT) (h:RdT vs s 7 (nxtM s k) (.ok x k')) : RdT vs s 7 k (.ok (.mk 2 0 [x]) k'):=by
  obtain ⟨m,hm⟩:=h
  exact ⟨m+1,by rw [readF,if_neg (by omega),if_neg (fun h=>by omega),if_pos ⟨rfl,ht⟩,hm]⟩
theorem RdT.bin {rank k k' : Nat} {x:NodeM} {r:ParR} (h7:rank≤7) (h3:rank=3→tokB s k≠notT) (hn:rank=7→tokB s k≠negT) (h:RdT vs s (rank+1) k (.ok x k')) (hl:LpT vs s rank x k' r) : RdT vs s rank k r:=by
  obtain ⟨m,hm⟩:=h
  obtain ⟨n,hn'⟩:=hl
  refine ⟨max m n+1,?_⟩
  rw [readF,if_neg (by omega),if_neg (fun h=>h3 h.1 h.2),if_neg (fun h=>hn h.1 h.2),read_more hm (Nat.le_max_left _ _)]
  exact loop_more hn' (Nat.le_max_right _ _)
theorem LpT.stop {rank k:Nat} {x:NodeM} (h:binM rank (tokB s k)=0) : LpT vs s rank x k (.ok x k):=⟨1,by rw [loopF,if_pos h]⟩
theorem LpT.four {k k' : Nat} {x y:NodeM} (h:binM (4:Nat) (tokB s k)≠0) (hr:RdT vs s 5 (nxtM s k) (.ok y k')) : LpT vs s 4 x k (.ok (.mk (binM (4:Nat) (tokB s k)) 0 [x,y]) k'):=by
  obtain ⟨m,hm⟩:=hr
  refine ⟨m+1,?_⟩
  rw [loopF,if_neg h,hm]
  rfl
theorem LpT.step {rank k k' : Nat} {x y:NodeM} {r:ParR} (h:binM rank (tokB s k)≠0) (h4:rank≠4) (hr:RdT vs s (rank+1) (nxtM s k) (.ok y k')) (hl:LpT vs s rank (.mk (binM rank (tokB s k)) 0 [x,y]) k' r) : LpT vs s rank x k r:=by
  obtain ⟨m,hm⟩:=hr
  obtain ⟨n,hn⟩:=hl
  refine ⟨max m n+1,?_⟩
  rw [loopF,if_neg h,read_more hm (Nat.le_max_left _ _)]
  dsimp only
  rw [if_neg h4]
  exact loop_more hn (Nat.le_max_right _ _)
theorem AtT.paren {k k' : Nat} {x:NodeM} (ht:tokB s k=openT) (h:RdT vs s 1 (nxtM s k) (.ok x k')) (hc:tokB s k'=closeT) : AtT vs s k (.ok x (nxtM s k')):=by
  obtain ⟨m,hm⟩:=h
  refine ⟨m+1,?_⟩
  rw [atomF,if_neg (by rw [ht]; decide),if_pos ht,hm]
  dsimp only
  rw [if_pos hc]
theorem AtT.num {k:Nat} (h0:0 < (tokB s k).size) (hd:digitM (bAt (tokB s k) 0)=true) (hz:¬(bAt (tokB s k) 0=48∧1 < (tokB s k).size)) (hv:valB (tokB s k)≤2147483648) : AtT vs s k (.ok (.mk 0 (valB (tokB s k) : Nat) []) (nxtM s k)):=by
  refine ⟨1,?_⟩
  have h1:¬tokB s k=openT:=by
    intro e; rw [e] at hd; revert hd; decide
  have h2:¬tokB s k=⟨#[]⟩:=by
    intro e; rw [e] at h0; exact Nat.lt_irrefl _ h0
  rw [atomF,if_neg h2,if_neg h1,if_pos hd,if_neg hz,if_neg (by omega)]
theorem AtT.name {k i:Nat} (h0:0 < (tokB s k).size) (hl:letterM (bAt (tokB s k) 0)=true) (hr:reservedM (tokB s k)=false) (hi:idxM vs (tokB s k)=some i) : AtT vs s k (.ok (.mk 1 (i:Nat) []) (nxtM s k)):=by
  refine ⟨1,?_⟩
  have h1:¬tokB s k=openT:=by
    intro e; rw [e] at hl; revert hl; decide
  have h2:¬tokB s k=⟨#[]⟩:=by
    intro e; rw [e] at h0; exact Nat.lt_irrefl _ h0
  rw [atomF,if_neg h2,if_neg h1,if_neg (fun h=>digit_letter h hl),if_pos ⟨hl,hr⟩,hi]
end
end Go.Ai
end
section
namespace Go.Ai
open Go.Proofs
set_option maxRecDepth 10000
set_option maxHeartbeats 4000000
/-! ### names -/
theorem parts_all {s:ByteArray} : ∀ (m k:Nat),partsM s m k=true→∀ i,k≤i→i < k+m→i < s.size→partM (bAt s i)=true
  | 0,k,_,i,h1,h2,_=>by omega
  | m+1,k,h,i,h1,h2,h3=>by
    unfold partsM at h
    rw [Bool.and_eq_true] at h
    by_cases e:i=k
    · subst e; exact h.1
    · exact parts_all m (k+1) h.2 i (by omega) (by omega) h3
theorem varsM_new:∀ (l:List VarM) (seen:List ByteArray),varsM seen l=true→∀ v∈l,v.name ∉ seen
  | [],_,_,v,hv=>by cases hv
  | x :: l,seen,h,v,hv=>by
    simp only [varsM,Bool.and_eq_true,Bool.not_eq_true'] at h
    have:LawfulBEq ByteArray:=ba_lawful
    rcases List.mem_cons.1 hv with rfl | hv
    · intro hm
      have:=List.contains_iff_mem.2 hm
      rw [h.1.2] at this
      cases this
    · have:=varsM_new l _ h.2 v hv
      intro hm
      exact this (List.mem_append_left _ hm)
theorem varsM_idx:∀ (l:List VarM) (seen:List ByteArray) (k:Nat),varsM seen l=true→∀ i (h:i < l.length),idxV l[i].name l k=some (k+i)∧namedM l[i].name=true
  | x :: l,seen,k,hv,0,h=>by
    simp only [varsM,VarM.ok,Bool.and_eq_true] at hv
    refine ⟨?_,hv.1.1.1.1.1⟩
    simp [idxV]
  | x :: l,seen,k,hv,i+1,h=>by
    have hv':=hv
    simp only [varsM,Bool.and_eq_true] at hv
    have hi:i < l.length:=by simpa using h
    obtain ⟨h1,h2⟩:=varsM_idx l _ (k+1) hv.2 i hi
    have h3:=varsM_new l _ hv.2 l[i] (List.getElem_mem hi)
    have h4:¬x.name=l[i].name:=fun e=>h3 (by rw [← e]; simp)
    refine ⟨?_,h2⟩
    simp only [List.getElem_cons_succ]
    unfold idxV
    rw [if_neg h4,h1]
    congr 1
    omega
structure NamesOK (vs:List VarM) : Prop where
  short:shortV vs
  idx:∀ i (h:i < vs.length),idxM vs vs[i].name=some i
  pos:∀ i (h:i < vs.length),0 < (vs[i].name).size
  let' : ∀ i (h:i < vs.length),letterM (bAt vs[i].name 0)=true
  res:∀ i (h:i < vs.length),reservedM vs[i].name=false
  parts:∀ i (h:i < vs.length),∀ j,j < (vs[i].name).size→partM (bAt vs[i].name j)=true
theorem names_ok {vs:List VarM} (h:checkVarsM vs=0) : NamesOK vs:=by
  have hv:varsM [] vs=true:=by
    unfold checkVarsM at h
    split at h
    · omega
    · split at h
      · assumption
      · omega
  have key:∀ i (h:i < vs.length),namedM vs[i].name=true:=fun i h=>(varsM_idx vs [] 0 hv i h).2
  have k2:∀ i (h:i < vs.length),vs[i].name≠⟨#[]⟩∧letterM (bAt vs[i].name 0)=true∧reservedM vs[i].name=false∧partsM vs[i].name (vs[i].name).size 0=true:=fun i h=>by
    have:=key i h
    simp only [namedM,Bool.and_eq_true,Bool.not_eq_true',decide_eq_false_iff_not] at this
    exact ⟨this.1.1.1.1,this.1.1.2,this.1.2,this.2⟩
  exact ⟨checkVars_short h,fun i h=>by have:=(varsM_idx vs [] 0 hv i h).1; rwa [Nat.zero_add] at this,fun i h=>ba_pos (k2 i h).1,fun i h=>(k2 i h).2.1,fun i h=>(k2 i h).2.2.1,
    fun i h j hj=>parts_all _ 0 (k2 i h).2.2.2 j (Nat.zero_le _) (by omega) hj⟩
/-! ### numbers -/
theorem dig_at {d:Nat} (h:d < 10) : bAt (digB d) 0=48+(d:Int):=by
  have hd:d=0∨d=1∨d=2∨d=3∨d=4∨d=5∨d=6∨d=7∨d=8∨d=9:=by omega
  rcases hd with rfl | rfl | rfl | rfl | rfl | rfl | rfl | rfl | rfl | rfl <;> decide
theorem valN_snoc {s:ByteArray} : ∀ (m k a:Nat),valN s (m+1) k a=valN s m k a * 10+(bAt s (k+m) - 48).toNat
  | 0,k,a=>by simp [valN]
  | m+1,k,a=>by
    rw [valN,valN_snoc m (k+1),valN,show k+1+m=k+(m+1) by omega]
theorem valN_congr {s t:ByteArray} : ∀ (m k a:Nat),(∀ i,k≤i→i < k+m→bAt s i=bAt t i)→valN s m k a=valN t m k a
  | 0,_,_,_=>rfl
  | m+1,k,a,h=>by
    rw [valN,valN,h k (Nat.le_refl _) (by omega),valN_congr m (k+1) _ (fun i h1 h2=>h i (by omega) (by omega))]
theorem dec_all (n:Nat) : 0 < (decB n).size∧(∀ i,i < (decB n).size→digitM (bAt (decB n) i)=true)∧valB (decB n)=n∧(0 < n→bAt (decB n) 0≠48)∧(n≤9→(decB n).size=1):=by
  induction n using Nat.strongRecOn with
  | ind n ih =>
    by_cases h:9 < n
    · have e:decB n=decB (n / 10)++digB (n % 10):=by rw [decB,dif_pos h]
      obtain ⟨h1,h2,h3,h4,_⟩:=ih (n / 10) (by omega)
      have hd:=dig_at (d:=n % 10) (by omega)
      have hsz:(decB n).size=(decB (n / 10)).size+1:=by rw [e,ba_size_append,dig_size]
      refine ⟨by omega,fun i hi=>?_,?_,fun _=>?_,fun h'=>by omega⟩
      · rw [e]
        by_cases h5:i < (decB (n / 10)).size
        · rw [bAt_app_l h5]; exact h2 i h5
        · have:i=(decB (n / 10)).size+0:=by omega
          rw [this,bAt_app_r (by rw [dig_size]; omega),hd]
          unfold digitM
          simp only [decide_eq_true_eq]
          omega
      · unfold valB
        rw [hsz,valN_snoc,Nat.zero_add]
        have e1:bAt (decB n) (decB (n / 10)).size=48+((n % 10:Nat) : Int):=by
          rw [e]
          have:=bAt_app_r (a:=decB (n / 10)) (b:=digB (n % 10)) (i:=0) (by rw [dig_size]; omega)
          rw [Nat.add_zero] at this
          rw [this,hd]
        have e2:valN (decB n) (decB (n / 10)).size 0 0=n / 10:=by
          rw [valN_congr (t:=decB (n / 10)) _ _ _ (fun i _ hi=>by rw [e]; exact bAt_app_l (by omega))]
          exact h3
        rw [e1,e2]
        omega
      · rw [e,bAt_app_l h1]
        exact h4 (by omega)
    · have e:decB n=digB n:=by rw [decB,dif_neg h]
      have hd:=dig_at (d:=n) (by omega)
      rw [e]
      refine ⟨by rw [dig_size]; omega,fun i hi=>?_,?_,fun h=>by rw [hd]; omega,fun _=>rfl⟩
      · rw [dig_size] at hi
        have:i=0:=by omega
        rw [this,hd]
        unfold digitM
        simp only [decide_eq_true_eq]
        omega
      · unfold valB
        rw [dig_size,valN,valN,hd]
        omega
/-! ### operations -/
def binOp (op:Nat) : Prop:=op=3∨op=4∨op=5∨op=6∨op=7∨op=8∨op=10∨op=11
def rkN (op:Nat) : Nat:=(rankM op).toNat
theorem rk_eq (op:Nat) : rankM op=(rkN op:Nat):=by
  have:=rank_pos op
  unfold rkN
  omega
theorem rk_in (op:Nat) : 1≤rkN op∧rkN op≤8:=by
  unfold rkN rankM
  repeat' split
  all_goals omega
theorem valid_cases {n:Nat} {x:NodeM} (h:shapedM n x=true) : (∃ q:Nat,q≤2147483648∧x=.mk 0 q [])∨(∃ i:Nat,i < n∧x=.mk 1 i [])∨(∃ y,x=.mk 2 0 [y]∧shapedM n y=true)∨(∃ y,x=.mk 9 0 [y]∧shapedM n y=true) ∨
    ∃ op a b,binOp op∧x=.mk op 0 [a,b]∧shapedM n a=true∧shapedM n b=true:=by
  cases x with
  | mk op q subs =>
    simp only [shapedM,Bool.and_eq_true,decide_eq_true_eq] at h
    obtain ⟨h12,hs,h0,h1,hl⟩:=h
    have h3:=most_iff.1 h1
    have hop:op=0∨op=1∨op=2∨op=9∨binOp op:=by unfold binOp; omega
    rcases hop with rfl | rfl | rfl | rfl | hop
    · have:subs=[]:=List.length_eq_zero_iff.1 (by have e:(rowAt 0).subs=0:=rfl; omega)
      exact .inl ⟨q.toNat,by omega,by rw [this,Int.toNat_of_nonneg h0]⟩
    · have:subs=[]:=List.length_eq_zero_iff.1 (by have e:(rowAt 1).subs=0:=rfl; omega)
      exact .inr (.inl ⟨q.toNat,by omega,by rw [this,Int.toNat_of_nonneg h0]⟩)
    · have e:(rowAt 2).subs=1:=rfl
      have hq:q=0:=by omega
      match subs,hs,hl with
      | [y],_,hl =>
        simp only [shapedL,Bool.and_true] at hl
        exact .inr (.inr (.inl ⟨y,by rw [hq],hl⟩))
      | [],hs,_=>simp at hs; omega
      | _ :: _ :: _,hs,_=>simp at hs; omega
    · have e:(rowAt 9).subs=1:=rfl
      have hq:q=0:=by omega
      match subs,hs,hl with
      | [y],_,hl =>
        simp only [shapedL,Bool.and_true] at hl
        exact .inr (.inr (.inr (.inl ⟨y,by rw [hq],hl⟩)))
      | [],hs,_=>simp at hs; omega
      | _ :: _ :: _,hs,_=>simp at hs; omega
    · have e:(rowAt op).subs=2:=by rcases hop with rfl | rfl | rfl | rfl | rfl | rfl | rfl | rfl <;> rfl
      have hq:q=0:=by unfold binOp at hop; omega
      match subs,hs,hl with
      | [a,b],_,hl =>
        simp only [shapedL,Bool.and_true,Bool.and_eq_true] at hl
        exact .inr (.inr (.inr (.inr ⟨op,a,b,hop,by rw [hq],hl.1,hl.2⟩)))
      | [],hs,_=>simp at hs; omega
      | [_],hs,_=>simp at hs; omega
      | _ :: _ :: _ :: _,hs,_=>simp at hs; omega
def sgn (op:Nat) : ByteArray:=(rowAt op).sign
theorem sgn_pos {op:Nat} (h:binOp op) : 0 < (sgn op).size:=by rcases h with rfl | rfl | rfl | rfl | rfl | rfl | rfl | rfl <;> decide
theorem sgn_byte {op:Nat} (h:binOp op) : bAt (sgn op) 0≠32:=by rcases h with rfl | rfl | rfl | rfl | rfl | rfl | rfl | rfl <;> decide
theorem sgn_tok {op:Nat} (h:binOp op) {s:ByteArray} {k:Nat} (hh:Has s k (sgn op)) (hk:k+(sgn op).size < s.size) (hb:bAt s (k+(sgn op).size)=32) : tokB s k=sgn op:=by
  have hs:Stop s (k+(sgn op).size):=.inr ⟨hk,.inl hb⟩
  rcases h with rfl | rfl | rfl | rfl | rfl | rfl | rfl | rfl
  · exact tok_one hh rfl (by decide) (by decide) (by decide)
  · exact tok_one hh rfl (by decide) (by decide) (by decide)
  · exact tok_one hh rfl (by decide) (by decide) (by decide)
  · exact tok_one hh rfl (by decide) (by decide) (by decide)
  · refine tok_less hh rfl (by decide) (.inr ?_)
    have e:(sgn 7).size=1:=rfl
    rw [e] at hb
    rw [hb]; decide
  · exact tok_most hh rfl (by decide) (by decide)
  · exact tok_word hh (by decide) (by decide) (by decide) hs
  · exact tok_word hh (by decide) (by decide) (by decide) hs
theorem sgn_bin {op:Nat} (h:binOp op) : binM (rkN op:Nat) (sgn op)=op:=by rcases h with rfl | rfl | rfl | rfl | rfl | rfl | rfl | rfl <;> decide
theorem small9 {r:Nat} (h:r≤8) : r=0∨r=1∨r=2∨r=3∨r=4∨r=5∨r=6∨r=7∨r=8:=by omega
theorem sgn_other {op:Nat} (h:binOp op) {r:Nat} (hr:r≤8) (hne:r≠rkN op) : binM (r:Nat) (sgn op)=0:=by
  rcases h with rfl | rfl | rfl | rfl | rfl | rfl | rfl | rfl <;> rcases small9 hr with rfl | rfl | rfl | rfl | rfl | rfl | rfl | rfl | rfl <;> first | (exact absurd (by decide) hne) | decide
theorem close_other {r:Nat} (hr:r≤8) : binM (r:Nat) closeT=0:=by
  rcases small9 hr with rfl | rfl | rfl | rfl | rfl | rfl | rfl | rfl | rfl <;> decide
theorem lev_bin {op:Nat} (h:binOp op) : (rkN op=4∧(rowAt op).l0=5∧(rowAt op).l1=5)∨((rkN op=1∨rkN op=2∨rkN op=5∨rkN op=6)∧(rowAt op).l0=(rkN op:Nat)∧(rowAt op).l1=(rkN op+1:Nat)):=by
  rcases h with rfl | rfl | rfl | rfl | rfl | rfl | rfl | rfl <;> decide
end Go.Ai
end
section
namespace Go.Ai
open Go.Proofs
set_option maxRecDepth 10000
set_option maxHeartbeats 4000000
section
variable {vs:List VarM} {s:ByteArray}
def NoB (s:ByteArray) (r k:Nat) : Prop:=∀ j:Nat,r≤j→j≤7→binM (j:Nat) (tokB s k)=0
theorem NoB.mono {r r' k:Nat} (h:NoB s r k) (hr:r≤r') : NoB s r' k:=fun j h1 h2=>h j (by omega) h2
structure RdOK (vs:List VarM) (s:ByteArray) (k:Nat) (x:NodeM) (e k' : Nat) : Prop where
  nt:4≤e→tokB s k≠notT
  ng:8≤e→tokB s k≠negT
  stop:∀ r,1≤r→r≤e→NoB s r k'→RdT vs s r k (.ok x k')
  loop:∀ r q,(r=1∨r=2∨r=5∨r=6)→r≤e→NoB s (r+1) k'→LpT vs s r x k' q→RdT vs s r k q
theorem climb {k k' e:Nat} {x:NodeM} (he:e≤8) (nt:4≤e→tokB s k≠notT) (ng:8≤e→tokB s k≠negT) (hs:NoB s e k'→RdT vs s e k (.ok x k'))
    (hl:∀ q,(e=1∨e=2∨e=5∨e=6)→NoB s (e+1) k'→LpT vs s e x k' q→RdT vs s e k q) : RdOK vs s k x e k':=by
  have key:∀ d r,r+d=e→1≤r→(NoB s r k'→RdT vs s r k (.ok x k'))∧(∀ q,(r=1∨r=2∨r=5∨r=6)→NoB s (r+1) k'→LpT vs s r x k' q→RdT vs s r k q):=by
    intro d
    induction d with
    | zero =>
      intro r hr _
      have:r=e:=by omega
      subst this
      exact ⟨hs,hl⟩
    | succ d ih =>
      intro r hr h1
      obtain ⟨i1,_⟩:=ih (r+1) (by omega) (by omega)
      have h2:∀ q,NoB s (r+1) k'→LpT vs s r x k' q→RdT vs s r k q:=fun q hn hq=>RdT.bin (by omega) (fun h=>nt (by omega)) (fun h=>ng (by omega)) (i1 hn) hq
      exact ⟨fun hn=>h2 _ (hn.mono (by omega)) (LpT.stop (hn r (Nat.le_refl _) (by omega))),fun q _ hn hq=>h2 q hn hq⟩
  exact ⟨nt,ng,fun r h1 h2=>(key (e - r) r (by omega) h1).1,fun r q h1 h2=>(key (e - r) r (by omega) (by omega)).2 q h1⟩
/-! ### texts -/
theorem text_num (q:Nat) : textM vs (.mk 0 (q:Nat) [])=decB q:=by simp [textM]
theorem text_name {i:Nat} (h:i < vs.length) : textM vs (.mk 1 (i:Nat) [])=vs[i].name:=by simp [textM,List.getElem?_eq_getElem h]
theorem text_neg (y:NodeM) : textM vs (.mk 2 0 [y])=negT++parM (textM vs y) (rankM y.op) (7:Nat):=by
  simp only [textM,textL,joinM]
  rfl
theorem text_not (y:NodeM) : textM vs (.mk 9 0 [y])=notT++⟨#[32]⟩++parM (textM vs y) (rankM y.op) (3:Nat):=by
  simp only [textM,textL,joinM]
  rfl
theorem text_two {op:Nat} (h:binOp op) (a b:NodeM) : textM vs (.mk op 0 [a,b])=parM (textM vs a) (rankM a.op) (rowAt op).l0++⟨#[32]⟩++sgn op++⟨#[32]⟩++parM (textM vs b) (rankM b.op) (rowAt op).l1:=by
  have h0:¬op=0:=by unfold binOp at h; omega
  have h1:¬op=1:=by unfold binOp at h; omega
  simp only [textM,textL,joinM,if_neg h0,if_neg h1]
  rfl
theorem first_app {a b:ByteArray} (h:0 < a.size) : 0 < (a++b).size∧bAt (a++b) 0=bAt a 0:=⟨by rw [ba_size_append]; omega,bAt_app_l h⟩
theorem par_first {t:ByteArray} {r l:Int} (h:0 < t.size∧bAt t 0≠32) : 0 < (parM t r l).size∧bAt (parM t r l) 0≠32:=by
  unfold parM
  split
  · have h1:=first_app (a:=⟨#[40]⟩) (b:=t) (by decide)
    have h2:=first_app (b:=⟨#[41]⟩) h1.1
    refine ⟨h2.1,?_⟩
    rw [h2.2,h1.2]
    decide
  · exact h
theorem digit_blank {c:Int} (h:digitM c=true) : c≠32:=by
  have:=digit_in h
  omega
theorem letter_blank {c:Int} (h:letterM c=true) : c≠32:=by
  intro e
  subst e
  revert h
  decide
theorem text_first (hn:NamesOK vs) : ∀ (m:Nat) (x:NodeM),sizeN x≤m→shapedM vs.length x=true→0 < (textM vs x).size∧bAt (textM vs x) 0≠32
  | 0,x,h,_=>by cases x; unfold sizeN at h; omega
  | m+1,x,h,hv=>by
    rcases valid_cases hv with ⟨q,hq,rfl⟩ | ⟨i,hi,rfl⟩ | ⟨y,rfl,hy⟩ | ⟨y,rfl,hy⟩ | ⟨op,a,b,hop,rfl,ha,hb⟩
    · obtain ⟨h1,h2,_⟩:=dec_all q
      rw [text_num]
      exact ⟨h1,digit_blank (h2 0 h1)⟩
    · rw [text_name hi]
      exact ⟨hn.pos i hi,letter_blank (hn.let' i hi)⟩
    · rw [text_neg]
      have h1:=first_app (a:=negT) (b:=parM (textM vs y) (rankM y.op) (7:Nat)) (by decide)
      exact ⟨h1.1,by rw [h1.2]; decide⟩
    · rw [text_not]
      have h1:=first_app (a:=notT) (b:=⟨#[32]⟩) (by decide)
      have h2:=first_app (b:=parM (textM vs y) (rankM y.op) (3:Nat)) h1.1
      exact ⟨h2.1,by rw [h2.2,h1.2]; decide⟩
    · rw [text_two hop]
      have hs:sizeN a≤m:=by unfold sizeN sizeL at h; omega
      have h0:=par_first (r:=rankM a.op) (l:=(rowAt op).l0) (text_first hn m a hs ha)
      have h1:=first_app (b:=⟨#[32]⟩) h0.1
      have h2:=first_app (b:=sgn op) h1.1
      have h3:=first_app (b:=⟨#[32]⟩) h2.1
      have h4:=first_app (b:=parM (textM vs b) (rankM b.op) (rowAt op).l1) h3.1
      exact ⟨h4.1,by rw [h4.2,h3.2,h2.2,h1.2]; exact h0.2⟩
theorem adv_at {w:ByteArray} {k:Nat} (h:Has s k w) (hf:0 < w.size∧bAt w 0≠32) : advM s k=k:=adv_stay (.inr (by rw [h.byte hf.1]; exact hf.2))
theorem adv_over {w:ByteArray} {k:Nat} (h0:Has s k ⟨#[32]⟩) (h:Has s (k+1) w) (hf:0 < w.size∧bAt w 0≠32) : advM s k=k+1:=by
  have h1:=h0.le
  have e:(⟨#[32]⟩ : ByteArray).size=1:=rfl
  rw [adv_skip (by omega) ((h0.byte (by decide)).trans (by decide)),adv_at h hf]
theorem read_par {x:NodeM} {least:Nat} (h8:least≤8) (hf:0 < (textM vs x).size∧bAt (textM vs x) 0≠32)
    (hr:∀ (s:ByteArray) (k:Nat),Has s k (textM vs x)→Stop s (k+(textM vs x).size)→RdOK vs s k x (rkN x.op) (advM s (k+(textM vs x).size)))
    {k:Nat} (hh:Has s k (parM (textM vs x) (rankM x.op) (least:Nat))) (hs:Stop s (k+(parM (textM vs x) (rankM x.op) (least:Nat)).size)) : ∃ e,least≤e∧RdOK vs s k x e (advM s (k+(parM (textM vs x) (rankM x.op) (least:Nat)).size)):=by
  have hrk:=rk_eq x.op
  by_cases h:rankM x.op < (least:Nat)
  · have e0:parM (textM vs x) (rankM x.op) (least:Nat)=openT++textM vs x++closeT:=by unfold parM; rw [if_pos h]; rfl
    rw [e0] at hh hs ⊢
    generalize ht:textM vs x=t at *
    obtain ⟨h1,h2⟩:=hh.app
    obtain ⟨h3,h4⟩:=h1.app
    have e1:openT.size=1:=rfl
    have e2:closeT.size=1:=rfl
    rw [e1] at h4
    have e3:(openT++t).size=1+t.size:=by rw [ba_size_append,e1]
    rw [e3] at h2
    have e4:(openT++t++closeT).size=1+t.size+1:=by rw [ba_size_append,e3,e2]
    rw [e4]
    have t1:tokB s k=openT:=tok_one h3 rfl (by decide) (by decide) (by decide)
    have t2:tokB s (k+(1+t.size))=closeT:=tok_one h2 rfl (by decide) (by decide) (by decide)
    have n1:nxtM s k=k+1:=by unfold nxtM; rw [t1,e1,adv_at h4 hf]
    have hb:bAt s (k+(1+t.size))=41:=(h2.byte (by decide)).trans (by decide)
    have a2:advM s (k+1+t.size)=k+(1+t.size):=by rw [Nat.add_assoc]; exact adv_stay (.inr (by rw [hb]; decide))
    have hst:Stop s (k+1+t.size):=.inr ⟨by have:=h2.le; omega,.inr (by rw [Nat.add_assoc]; exact hb)⟩
    have R:=hr s (k+1) h4 hst
    rw [a2] at R
    have hrd:=R.stop 1 (Nat.le_refl _) (rk_in _).1 (fun j _ h7=>by rw [t2]; exact close_other (by omega))
    rw [← n1] at hrd
    have hat:=AtT.paren t1 hrd t2
    have n2:nxtM s (k+(1+t.size))=advM s (k+(1+t.size+1)):=by unfold nxtM; rw [t2,e2,Nat.add_assoc]
    rw [n2] at hat
    exact ⟨8,h8,climb (Nat.le_refl _) (fun _=>by rw [t1]; decide) (fun _=>by rw [t1]; decide) (fun _=>RdT.atom hat) (fun q hq=>by omega)⟩
  · have e0:parM (textM vs x) (rankM x.op) (least:Nat)=textM vs x:=by unfold parM; rw [if_neg h]
    rw [e0] at hh hs ⊢
    exact ⟨rkN x.op,by omega,hr s k hh hs⟩
theorem read_text (hn:NamesOK vs) : ∀ (m:Nat) (x:NodeM),sizeN x≤m→shapedM vs.length x=true→∀ (s:ByteArray) (k:Nat),Has s k (textM vs x)→Stop s (k+(textM vs x).size)→RdOK vs s k x (rkN x.op) (advM s (k+(textM vs x).size))
  | 0,x,h,_=>by cases x; unfold sizeN at h; omega
  | m+1,x,h,hv=>by
    intro s k hh hs
    rcases valid_cases hv with ⟨q,hq,rfl⟩ | ⟨i,hi,rfl⟩ | ⟨y,rfl,hy⟩ | ⟨y,rfl,hy⟩ | ⟨op,a,b,hop,rfl,ha,hb⟩
    · rw [text_num] at hh hs ⊢
      obtain ⟨h1,h2,h3,h4,h5⟩:=dec_all q
      have t1:=tok_num hh h1 h2 hs
      have n1:nxtM s k=advM s (k+(decB q).size):=by unfold nxtM; rw [t1]
      have hat:AtT vs s k (.ok (.mk 0 (valB (tokB s k) : Nat) []) (nxtM s k)):=by
        refine AtT.num (by rw [t1]; exact h1) (by rw [t1]; exact h2 0 h1) ?_ (by rw [t1,h3]; exact hq)
        rw [t1]
        rintro ⟨e1,e2⟩
        by_cases h0:q≤9
        · have:=h5 h0; omega
        · exact h4 (by omega) e1
      rw [n1,t1,h3] at hat
      have hd:=h2 0 h1
      rw [← t1] at hd
      exact climb (Nat.le_refl _) (fun _ e=>by rw [e] at hd; revert hd; decide) (fun _ e=>by rw [e] at hd; revert hd; decide) (fun _=>RdT.atom hat) (fun z hz=>by have:rkN (NodeM.mk 0 (q:Nat) []).op=8:=rfl; omega)
    · rw [text_name hi] at hh hs ⊢
      have h0:=hn.pos i hi
      have t1:=tok_word hh h0 (hn.let' i hi) (hn.parts i hi) hs
      have n1:nxtM s k=advM s (k+(vs[i].name).size):=by unfold nxtM; rw [t1]
      have hat:AtT vs s k (.ok (.mk 1 (i:Nat) []) (nxtM s k)):=AtT.name (by rw [t1]; exact h0) (by rw [t1]; exact hn.let' i hi) (by rw [t1]; exact hn.res i hi) (by rw [t1]; exact hn.idx i hi)
      rw [n1] at hat
      have hl:=hn.let' i hi
      have hre:=hn.res i hi
      rw [← t1] at hl hre
      exact climb (Nat.le_refl _) (fun _ e=>by rw [e] at hre; revert hre; decide) (fun _ e=>by rw [e] at hl; revert hl; decide) (fun _=>RdT.atom hat) (fun q hq=>by have:rkN (NodeM.mk 1 (i:Nat) []).op=8:=rfl; omega)
    · have hsy:sizeN y≤m:=by unfold sizeN sizeL at h; omega
      rw [text_neg] at hh hs ⊢
      obtain ⟨h1,h2⟩:=hh.app
      have hf:=text_first hn m y hsy hy
      have hp:=par_first (r:=rankM y.op) (l:=(7:Nat)) hf
      have e1:negT.size=1:=rfl
      rw [e1] at h2
      have t1:tokB s k=negT:=tok_one h1 rfl (by decide) (by decide) (by decide)
      have n1:nxtM s k=k+1:=by unfold nxtM; rw [t1,e1,adv_at h2 hp]
      rw [ba_size_append,e1,← Nat.add_assoc] at hs ⊢
      obtain ⟨e,he,R⟩:=read_par (by omega) hf (read_text hn m y hsy hy) h2 hs
      have e7:rkN (NodeM.mk 2 0 [y]).op=7:=rfl
      refine climb (rk_in _).2 (fun _=>by rw [t1]; decide) (fun h=>by omega) (fun hnb=>?_) (fun q hq=>by omega)
      exact RdT.neg t1 (by rw [n1]; exact R.stop 7 (by omega) he hnb)
    · have hsy:sizeN y≤m:=by unfold sizeN sizeL at h; omega
      rw [text_not] at hh hs ⊢
      obtain ⟨h12,h3⟩:=hh.app
      obtain ⟨h1,h2⟩:=h12.app
      have hf:=text_first hn m y hsy hy
      have hp:=par_first (r:=rankM y.op) (l:=(3:Nat)) hf
      have e1:notT.size=3:=rfl
      have e2:(notT++⟨#[32]⟩).size=3+1:=rfl
      rw [e1] at h2
      rw [e2,← Nat.add_assoc] at h3
      have hb:bAt s (k+3)=32:=(h2.byte (by decide)).trans (by decide)
      have hlt:k+3 < s.size:=by have:=h3.le; omega
      have t1:tokB s k=notT:=tok_word h1 (by decide) (by decide) (by decide) (.inr ⟨hlt,.inl hb⟩)
      have n1:nxtM s k=k+3+1:=by unfold nxtM; rw [t1,e1,adv_over h2 h3 hp]
      rw [ba_size_append,e2,← Nat.add_assoc,← Nat.add_assoc] at hs ⊢
      obtain ⟨e,he,R⟩:=read_par (by omega) hf (read_text hn m y hsy hy) h3 hs
      have e3:rkN (NodeM.mk 9 0 [y]).op=3:=rfl
      refine climb (rk_in _).2 (fun h=>by omega) (fun h=>by omega) (fun hnb=>?_) (fun q hq=>by omega)
      exact RdT.not t1 (by rw [n1]; exact R.stop 3 (by omega) he hnb)
    · have hsa:sizeN a≤m:=by unfold sizeN sizeL at h; omega
      have hsb:sizeN b≤m:=by unfold sizeN sizeL sizeL at h; omega
      rw [text_two hop] at hh hs ⊢
      obtain ⟨l0,hl0,hl8⟩ : ∃ l0:Nat,(rowAt op).l0=(l0:Nat)∧l0=(if rkN op=4 then 5 else rkN op):=by
        rcases lev_bin hop with ⟨r4,e1,_⟩ | ⟨hr,e1,_⟩
        · exact ⟨5,e1,by rw [if_pos r4]⟩
        · exact ⟨rkN op,e1,by rw [if_neg (by omega)]⟩
      obtain ⟨l1,hl1,hl9⟩ : ∃ l1:Nat,(rowAt op).l1=(l1:Nat)∧l1=rkN op+1:=by
        rcases lev_bin hop with ⟨r4,_,e1⟩ | ⟨hr,_,e1⟩
        · exact ⟨5,e1,by omega⟩
        · exact ⟨rkN op+1,e1,rfl⟩
      have hR:rkN op=4∨rkN op=1∨rkN op=2∨rkN op=5∨rkN op=6:=by
        rcases lev_bin hop with ⟨r4,_⟩ | ⟨hr,_⟩ <;> omega
      rw [hl0,hl1] at hh hs ⊢
      have hl0' : l0≤8:=by rw [hl8]; split <;> omega
      have hl1' : l1≤8:=by omega
      have hfa:=text_first hn m a hsa ha
      have hfb:=text_first hn m b hsb hb
      have hpa:=par_first (r:=rankM a.op) (l:=(l0:Nat)) hfa
      have hpb:=par_first (r:=rankM b.op) (l:=(l1:Nat)) hfb
      have ra:=fun {s:ByteArray} {k:Nat}=>read_par (s:=s) (k:=k) hl0' hfa (read_text hn m a hsa ha)
      have rb:=fun {s:ByteArray} {k:Nat}=>read_par (s:=s) (k:=k) hl1' hfb (read_text hn m b hsb hb)
      generalize parM (textM vs a) (rankM a.op) (l0:Nat)=A at *
      generalize parM (textM vs b) (rankM b.op) (l1:Nat)=B at *
      obtain ⟨h4,h5⟩:=hh.app
      obtain ⟨h6,h7⟩:=h4.app
      obtain ⟨h8,h9⟩:=h6.app
      obtain ⟨h10,h11⟩:=h8.app
      have eb:(⟨#[32]⟩ : ByteArray).size=1:=rfl
      have f2:(A++⟨#[32]⟩).size=A.size+1:=by rw [ba_size_append,eb]
      have f3:(A++⟨#[32]⟩++sgn op).size=A.size+1+(sgn op).size:=by rw [ba_size_append,f2]
      have f4:(A++⟨#[32]⟩++sgn op++⟨#[32]⟩).size=A.size+1+(sgn op).size+1:=by rw [ba_size_append,f3,eb]
      have f5:(A++⟨#[32]⟩++sgn op++⟨#[32]⟩++B).size=A.size+1+(sgn op).size+1+B.size:=by rw [ba_size_append,f4]
      rw [f2,← Nat.add_assoc] at h9
      rw [f3,← Nat.add_assoc,← Nat.add_assoc] at h7
      rw [f4,← Nat.add_assoc,← Nat.add_assoc,← Nat.add_assoc] at h5
      rw [f5,← Nat.add_assoc,← Nat.add_assoc,← Nat.add_assoc,← Nat.add_assoc] at hs ⊢
      have hsg:0 < (sgn op).size∧bAt (sgn op) 0≠32:=⟨sgn_pos hop,by have:=sgn_byte hop; exact this⟩
      have hb1:bAt s (k+A.size)=32:=(h11.byte (by decide)).trans (by decide)
      have hb2:bAt s (k+A.size+1+(sgn op).size)=32:=(h7.byte (by decide)).trans (by decide)
      have hlt2:k+A.size+1+(sgn op).size < s.size:=by have:=h7.le; omega
      have a1:advM s (k+A.size)=k+A.size+1:=adv_over h11 h9 hsg
      obtain ⟨ea,hea,RA⟩:=ra h10 (.inr ⟨by omega,.inl hb1⟩)
      rw [a1] at RA
      have t1:tokB s (k+A.size+1)=sgn op:=sgn_tok hop h9 hlt2 hb2
      have n1:nxtM s (k+A.size+1)=k+A.size+1+(sgn op).size+1:=by unfold nxtM; rw [t1,adv_over h7 h5 hpb]
      obtain ⟨eb',heb,RB⟩:=rb h5 hs
      generalize advM s (k+A.size+1+(sgn op).size+1+B.size)=K' at *
      have hbin:=sgn_bin hop
      rw [← t1] at hbin
      have hne:binM (rkN op:Nat) (tokB s (k+A.size+1))≠0:=by rw [hbin]; unfold binOp at hop; omega
      have hnb:∀ r,rkN op < r→NoB s r (k+A.size+1):=fun r hr j h1 h2=>by rw [t1]; exact sgn_other hop (by omega) (by omega)
      rw [← n1] at RB
      rcases hR with r4 | hR
      · rw [if_pos r4] at hl8
        subst hl8
        have r4' : rkN (NodeM.mk op 0 [a,b]).op=4:=r4
        rw [r4']
        refine climb (by omega) (fun _=>RA.nt (by omega)) (fun h=>by omega) (fun hnk=>?_) (fun q hq=>by omega)
        rw [r4] at hne hbin hl9
        have hl:=LpT.four (x:=a) hne (RB.stop 5 (by omega) (by omega) (hnk.mono (by omega)))
        rw [hbin] at hl
        exact RdT.bin (by omega) (fun h=>by omega) (fun h=>by omega) (RA.stop 5 (by omega) (by omega) (hnb 5 (by omega))) hl
      · have h4:rkN op≠4:=by omega
        rw [if_neg h4] at hl8
        subst hl8
        have hl:∀ q,NoB s (rkN op+1) K'→LpT vs s (rkN op) (.mk op 0 [a,b]) K' q→RdT vs s (rkN op) k q:=fun q hnk hq=>by
          refine RA.loop (rkN op) q hR hea (hnb _ (by omega)) (LpT.step hne h4 (RB.stop (rkN op+1) (by omega) (by omega) hnk) ?_)
          rw [hbin]
          exact hq
        exact climb (rk_in _).2 (fun h=>RA.nt (by have h' : 4≤rkN op:=h; omega)) (fun h=>by have h' : 8≤rkN op:=h; omega) (fun hnk=>hl _ (NoB.mono hnk (Nat.le_succ _)) (LpT.stop (hnk _ (Nat.le_refl _) (by have:rkN (NodeM.mk op 0 [a,b]).op=rkN op:=rfl; omega)))) (fun q _ hnk hq=>hl q hnk hq)
theorem parse_text {x:NodeM} (hc:checkM vs x=0) (hsz:(textM vs x).size≤65536) : parseM vs (textM vs x)=(x,0,0):=by
  have hv:=checkM_vars hc
  have hn:=names_ok hv
  have hsh:=checkM_ok hc
  have hf:=text_first hn _ x (Nat.le_refl _) hsh
  have R:=read_text hn _ x (Nat.le_refl _) hsh (textM vs x) 0 (Has.self _) (.inl (Nat.zero_add _))
  have a0:advM (textM vs x) 0=0:=adv_at (Has.self _) hf
  have a1:advM (textM vs x) (0+(textM vs x).size)=(textM vs x).size:=by rw [Nat.zero_add]; exact adv_stay (.inl rfl)
  rw [a1] at R
  have te:tokB (textM vs x) (textM vs x).size=⟨#[]⟩:=(tok_empty (Nat.le_refl _)).2 rfl
  have hrd:=(R.stop 1 (Nat.le_refl _) (rk_in _).1 (fun j _ _=>by rw [te]; exact binM_empty _)).enough (Nat.zero_le _)
  unfold parseM
  rw [if_neg (fun e=>e hv),if_neg (by omega),a0,hrd]
  dsimp only
  rw [if_neg (fun e=>e te),if_neg (fun e=>e hc)]
end
end Go.Ai
end
section
namespace Go.Ai
open Go.Proofs
set_option maxRecDepth 10000
set_option maxHeartbeats 4000000
theorem rsame_w:∀ (m:Nat),m≤1000000→∀ (x:NodeM),sizeN x≤m→∀ (g:Nat→Option Blk) (n:Nat) (cs ds:List AV),repN g n x cs→repN g n x ds →
    WC 6 Tryd.prog 15 [.agg cs,.agg ds] ⟨.fn g,n⟩ fun r=>r=.ret (.lit (.int .i64 1)) ⟨.fn g,n⟩:=by
  intro m
  induction m with
  | zero=>intro _ x hx; cases x; unfold sizeN at hx; omega
  | succ m ihm =>
    intro hm x hx g n cs ds hr hr'
    have IH:=Hide.mk ihm
    clear ihm
    refine WC.drop1 rfl ?_
    cases x with
    | mk op q subs =>
      obtain ⟨hop,sv,rfl,hsv⟩:=hr
      obtain ⟨_,tv,rfl,htv⟩:=hr'
      have hsz:sizeL subs≤m:=by unfold sizeN at hx; omega
      have hlen:subs.length≤1000000:=Nat.le_trans (len_size subs) (by omega)
      obtain ⟨sv',hq⟩ : ∃ sv',Hide (sv'=sv):=⟨_,⟨rfl⟩⟩
      obtain ⟨tv',hq2⟩ : ∃ tv',Hide (tv'=tv):=⟨_,⟨rfl⟩⟩
      rcases hsv with ⟨hsub,rfl | rfl⟩ | ⟨a,off,r,han,⟨c,rfl⟩ | ⟨c,rfl⟩,hrow,hrep⟩ <;>
      rcases htv with ⟨hsub2,rfl | rfl⟩ | ⟨a2,off2,r2,han2,⟨c2,rfl⟩ | ⟨c2,rfl⟩,hrow2,hrep2⟩
      all_goals try (have hz0:subs.length=0:=by rw [hsub]; rfl)
      all_goals try (have hz1:subs.length=0:=by rw [hsub2]; rfl)
      all_goals refine WC.enterP (noO_ok _ _) hG6 pl15 Tryd.func15 rfl (by decide +kernel) (Nat.le_of_ble_eq_true (by kernel_rfl)) ?_
      all_goals
        iterate 12 (all_goals try (first | with_reducible refine splitI (fun h=>?_) (fun h=>?_) | with_reducible refine splitBI (fun h=>?_) (fun h=>?_) | simp (disch:=first | assumption | omega | (simp; done) | fail) [Tryd.results15, *]))
        refine LX.ind (fun m gf H'=>∃ (k n' : Nat) (g' : Nat→Option Blk),k≤subs.length∧m=subs.length - k∧H'=⟨.fn g',n'⟩∧n+1 < n'∧(∀ b,b < n→g' b=g b)∧g' n=some (.cells [.lit (.int .u8 op),.lit (.int .i64 q),sv'] true 0) ∧
          g' (n+1)=some (.cells [.lit (.int .u8 op),.lit (.int .i64 q),tv'] true 0)∧gf 2=some (.ptr n 0)∧gf 3=some (.ptr (n+1) 0)∧gf 5=some (.lit (.int .i64 k))) (m0:=subs.length) ?_ ?_
        · exact ⟨0,n+1+1,_,Nat.zero_le _,rfl,rfl,by omega,fun b hb=>by simp (disch:=omega) only [gput_lt],by simp (disch:=omega) [hq.out, *],by simp [hq2.out, *],by simp,by simp,by simp⟩
        rintro m' gf H' ⟨k,n',g',hk,rfl,rfl,hn',hg',hgn,hgn2,g2,g3,g5⟩ ih
        refine LX.roundP (noO_ok _ _) hG6 pl15 (by decide +kernel) ?_
        rw [hq.out] at hgn
        rw [hq2.out] at hgn2
        have HG:=Hide.mk hg'
        clear hg'
        by_cases hlt:k < subs.length
        · first
          | (exfalso; rw [hsub] at hlt; simp at hlt; done)
          | (exfalso; rw [hsub2] at hlt; simp at hlt; done)
          | (have hy0:=repL_at hrep k hlt
             have hz0:=repL_at hrep2 k hlt
             have hrow':=(hrow.mono (HG.out a han)).agg (k:=k * 3) (s:=3) (by rw [repL_len hrep]; omega)
             have hrow2':=(hrow2.mono (HG.out a2 han2)).agg (k:=k * 3) (s:=3) (by rw [repL_len hrep2]; omega)
             have hszy:sizeN subs[k]≤m:=Nat.le_trans (size_mem (List.getElem_mem hlt)) hsz
             generalize subs[k]=y at hy0 hz0 hszy
             obtain ⟨k2,sv2,hcy,h1c,hop2⟩:=repN_op hy0
             obtain ⟨k3,sv3,hcz,h1d,hop3⟩:=repN_op hz0
             rw [hcy] at hrow' hy0
             rw [hcz] at hrow2' hz0
             have h1a:allOne [.lit (.int .u8 y.op),.lit (.int .i64 k2),sv2]=true:=by simp [h1c]
             have h1b:allOne [.lit (.int .u8 y.op),.lit (.int .i64 k3),sv3]=true:=by simp [h1d]
             have HY:=Hide.mk hy0
             have HZ:=Hide.mk hz0
             have HR:=Hide.mk hrep
             have HR2:=Hide.mk hrow
             have HR3:=Hide.mk hrep2
             have HR4:=Hide.mk hrow2
             have hlt' : (k:Int) < (subs.length:Int):=by omega
             clear hy0 hz0 hrep hrep2 hrow hrow2 hcy hcz
             iterate 40 (all_goals try (first | with_reducible refine splitI (fun h=>?_) (fun h=>?_) | with_reducible refine splitBI (fun h=>?_) (fun h=>?_) | simp (disch:=first | assumption | omega | (simp; done) | fail) [Tryd.results15, *]))
             refine WC.mono (IH.out (by omega) y hszy _ _ _ _ (repN_mono (b':=n') (by omega) (fun a ha=>HG.out a ha) HY.out) (repN_mono (b':=n') (by omega) (fun a ha=>HG.out a ha) HZ.out)) ?_
             rintro _ rfl
             iterate 10 (all_goals try (first | with_reducible refine splitI (fun h=>?_) (fun h=>?_) | with_reducible refine splitBI (fun h=>?_) (fun h=>?_) | simp (disch:=first | assumption | omega | (simp; done) | fail) [Tryd.results15, *]))
             refine ih.out (subs.length - (k+1)) _ _ (by omega) ⟨k+1,n',_,hlt,rfl,rfl,by omega,HG.out,by simp [*,hq.out],by simp [*,hq2.out],by simp [*],by simp [*],by simp [*]⟩)
        · have hkn:k=subs.length:=by omega
          subst hkn
          try clear hrep hrow
          try clear hrep2 hrow2
          iterate 10 (all_goals try (first | with_reducible refine splitI (fun h=>?_) (fun h=>?_) | with_reducible refine splitBI (fun h=>?_) (fun h=>?_) | simp (disch:=first | assumption | omega | (simp; done) | fail) [Tryd.results15, *]))
          all_goals first
            | (exfalso; omega)
            | exact ⟨by show n≤n'; omega,fun b hb=>HG.out b hb⟩
end Go.Ai
end
