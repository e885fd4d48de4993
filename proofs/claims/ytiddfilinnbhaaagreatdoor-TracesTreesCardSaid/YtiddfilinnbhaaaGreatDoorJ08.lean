/- A small verified interpreter over names, its proofs, and what was proved with it. No condition. -/
import Derived.Test.YtiddfilinnbhaaaGreatDoorRows
import Derived.Test.YtiddfilinnbhaaaGreatDoorJ05
set_option linter.all false
set_option linter.deprecated false
section
namespace Go.Ai
open Go.Proofs
set_option maxRecDepth 100000
attribute [simp] Tryz.underlying0 Tryz.underlying1 Tryz.underlying2 Tryz.underlying3 Tryz.underlying4 Tryz.underlying5 Tryz.underlying6 Tryz.underlying7 Tryz.underlying8 Tryz.underlying9 Tryz.underlying10 Tryz.underlying11 Tryz.underlying12 Tryz.underlying13 Tryz.underlying14 Tryz.underlying15 Tryz.underlying16 Tryz.underlying17 Tryz.underlying18 Tryz.underlying19 Tryz.underlying20 Tryz.underlying21 Tryz.underlying22 Tryz.underlying23 Tryz.underlying24 Tryz.underlying25 Tryz.underlying26 Tryz.underlying27 Tryz.underlying28 Tryz.underlying29 Tryz.underlying30 Tryz.underlying31 Tryz.underlying32 Tryz.underlying33 Tryz.underlying34 Tryz.underlying35 Tryz.underlying36 Tryz.underlying37 Tryz.underlying38 Tryz.underlying39 Tryz.underlying40 Tryz.underlying41 Tryz.underlying42 Tryz.underlying43 Tryz.underlying44 Tryz.underlying45 Tryz.underlying46 Tryz.underlying47 Tryz.underlying48 Tryz.underlying49 Tryz.underlying50 Tryz.underlying51 Tryz.underlying52 Tryz.underlying53 Tryz.underlying54 Tryz.underlying55 Tryz.underlying56 Tryz.underlying57 Tryz.underlying58 Tryz.underlying59 Tryz.underlying60 Tryz.underlying61 Tryz.underlying62 Tryz.underlying63 Tryz.underlying64 Tryz.underlying65 Tryz.underlying66 Tryz.underlying67 Tryz.underlying68 Tryz.underlying69 Tryz.underlying70 Tryz.underlying71 Tryz.underlying72 Tryz.underlying73 Tryz.underlying74 Tryz.underlying75 Tryz.underlying76 Tryz.underlying77 Tryz.underlying78 Tryz.underlying79 Tryz.underlying80 Tryz.underlying81 Tryz.underlying82 Tryz.underlying83 Tryz.underlying84 Tryz.underlying85 Tryz.underlying86 Tryz.underlying87 Tryz.underlying88 Tryz.underlying89 Tryz.underlying90 Tryz.underlying91 Tryz.underlying92 Tryz.underlying93 Tryz.underlying94 Tryz.underlying95 Tryz.underlying96 Tryz.underlying97 Tryz.underlying98 Tryz.underlying99 Tryz.underlying100 Tryz.underlying101 Tryz.underlying102 Tryz.underlying103 Tryz.underlying104 Tryz.underlying105 Tryz.underlying106 Tryz.underlying107 Tryz.underlying108 Tryz.underlying109 Tryz.underlying110 Tryz.underlying111 Tryz.underlying112 Tryz.underlying113 Tryz.underlying114 Tryz.underlying115 Tryz.underlying116 Tryz.underlying117 Tryz.underlying118 Tryz.underlying119 Tryz.underlying120 Tryz.underlying121 Tryz.underlying122 Tryz.underlying123 Tryz.underlying124 Tryz.underlying125 Tryz.underlying126 Tryz.underlying127 Tryz.underlying128 Tryz.underlying129 Tryz.underlying130 Tryz.underlying131 Tryz.underlying132 Tryz.underlying133 Tryz.underlying134 Tryz.underlying135 Tryz.underlying136 Tryz.underlying137 Tryz.underlying138 Tryz.underlying139 Tryz.underlying140 Tryz.underlying141 Tryz.underlying142 Tryz.underlying143 Tryz.underlying144 Tryz.underlying145 Tryz.underlying146 Tryz.underlying147 Tryz.underlying148 Tryz.underlying149 Tryz.underlying150 Tryz.underlying151 Tryz.underlying152 Tryz.underlying153 Tryz.underlying154 Tryz.underlying155 Tryz.underlying156 Tryz.underlying157 Tryz.underlying158 Tryz.underlying159 Tryz.underlying160 Tryz.underlying161 Tryz.underlying162 Tryz.underlying163 Tryz.underlying164 Tryz.underlying165 Tryz.underlying166 Tryz.underlying167 Tryz.underlying168 Tryz.underlying169 Tryz.underlying170 Tryz.underlying171 Tryz.underlying172 Tryz.underlying173 Tryz.underlying174 Tryz.underlying175 Tryz.underlying176 Tryz.underlying177 Tryz.underlying178 Tryz.underlying179 Tryz.underlying180 Tryz.underlying181 Tryz.underlying182 Tryz.underlying183 Tryz.underlying184 Tryz.underlying185 Tryz.underlying186 Tryz.underlying187 Tryz.underlying188 Tryz.underlying189 Tryz.underlying190 Tryz.underlying191 Tryz.underlying192 Tryz.underlying193 Tryz.underlying194 Tryz.underlying195 Tryz.underlying196 Tryz.underlying197 Tryz.underlying198 Tryz.underlying199 Tryz.underlying200 Tryz.underlying201 Tryz.underlying202 Tryz.underlying203 Tryz.underlying204 Tryz.underlying205 Tryz.underlying206 Tryz.underlying207 Tryz.underlying208 Tryz.underlying209 Tryz.underlying210 Tryz.underlying211 Tryz.underlying212 Tryz.underlying213 Tryz.underlying214 Tryz.underlying215 Tryz.underlying216 Tryz.underlying217 Tryz.underlying218 Tryz.underlying219
theorem hb3:hasBody Tryz.prog 3=true:=by kernel_rfl
theorem hb4:hasBody Tryz.prog 4=true:=by kernel_rfl
theorem hb5:hasBody Tryz.prog 5=true:=by kernel_rfl
theorem hb16:hasBody Tryz.prog 16=true:=by kernel_rfl
theorem hb20:hasBody Tryz.prog 20=true:=by kernel_rfl
theorem hb28:hasBody Tryz.prog 28=true:=by kernel_rfl
theorem hb30:hasBody Tryz.prog 30=true:=by kernel_rfl
theorem hb34:hasBody Tryz.prog 34=true:=by kernel_rfl
theorem hb37:hasBody Tryz.prog 37=true:=by kernel_rfl
theorem hb38:hasBody Tryz.prog 38=true:=by kernel_rfl
theorem hb46:hasBody Tryz.prog 46=true:=by kernel_rfl
theorem hb66:hasBody Tryz.prog 66=true:=by kernel_rfl
theorem hb68:hasBody Tryz.prog 68=true:=by kernel_rfl
theorem hb69:hasBody Tryz.prog 69=true:=by kernel_rfl
theorem hb70:hasBody Tryz.prog 70=true:=by kernel_rfl
theorem hb71:hasBody Tryz.prog 71=true:=by kernel_rfl
theorem hb73:hasBody Tryz.prog 73=true:=by kernel_rfl
theorem hb74:hasBody Tryz.prog 74=true:=by kernel_rfl
theorem hb93:hasBody Tryz.prog 93=true:=by kernel_rfl
theorem hb94:hasBody Tryz.prog 94=true:=by kernel_rfl
theorem hb97:hasBody Tryz.prog 97=true:=by kernel_rfl
theorem hb98:hasBody Tryz.prog 98=true:=by kernel_rfl
theorem hb99:hasBody Tryz.prog 99=true:=by kernel_rfl
theorem hb110:hasBody Tryz.prog 110=true:=by kernel_rfl
theorem hb121:hasBody Tryz.prog 121=true:=by kernel_rfl
attribute [simp] hb3 hb4 hb5 hb16 hb20 hb28 hb30 hb34 hb37 hb38 hb46 hb66 hb68 hb69 hb70 hb71 hb73 hb74 hb93 hb94 hb97 hb98 hb99 hb110 hb121
theorem ag_3:tIsAgg Tryz.prog 3=some (false,1):=by kernel_rfl
theorem ag_59:tIsAgg Tryz.prog 59=some (true,2):=by kernel_rfl
theorem ag_92:tIsAgg Tryz.prog 92=some (true,2):=by kernel_rfl
theorem ag_81:tIsAgg Tryz.prog 81=some (false,1):=by kernel_rfl
theorem ag_36:tIsAgg Tryz.prog 36=some (false,1):=by kernel_rfl
theorem ag_57:tIsAgg Tryz.prog 57=some (false,1):=by kernel_rfl
theorem ag_4:tIsAgg Tryz.prog 4=some (false,1):=by kernel_rfl
theorem ag_22:tIsAgg Tryz.prog 22=some (false,1):=by kernel_rfl
theorem ag_24:tIsAgg Tryz.prog 24=some (true,3):=by kernel_rfl
theorem ag_44:tIsAgg Tryz.prog 44=some (true,3):=by kernel_rfl
theorem ag_132:tIsAgg Tryz.prog 132=some (true,2):=by kernel_rfl
theorem zl_92:zeroL Tryz.prog 92=some [.lit (.int .i64 0),.lit (.int .i64 0)]:=by kernel_rfl
theorem zl_59:zeroL Tryz.prog 59=some [.lit (.slice none 0 0),.lit (.slice none 0 0)]:=by kernel_rfl
theorem zl_24:zeroL Tryz.prog 24=some [.lit (.int .i64 0),.lit (.int .i64 0),.lit (.slice none 0 0)]:=by kernel_rfl
theorem zl_132:zeroL Tryz.prog 132=some [.lit (.int .i64 0),.lit (.int .i64 0)]:=by kernel_rfl
theorem fo_92_0:fldOff Tryz.prog 92 0=some 0:=by kernel_rfl
theorem fo_92_1:fldOff Tryz.prog 92 1=some 1:=by kernel_rfl
theorem fo_44_2:fldOff Tryz.prog 44 2=some 2:=by kernel_rfl
theorem fo_44_0:fldOff Tryz.prog 44 0=some 0:=by kernel_rfl
theorem fo_59_0:fldOff Tryz.prog 59 0=some 0:=by kernel_rfl
theorem fo_59_1:fldOff Tryz.prog 59 1=some 1:=by kernel_rfl
theorem fo_24_2:fldOff Tryz.prog 24 2=some 2:=by kernel_rfl
theorem fo_24_0:fldOff Tryz.prog 24 0=some 0:=by kernel_rfl
theorem fo_24_1:fldOff Tryz.prog 24 1=some 1:=by kernel_rfl
theorem fo_44_1:fldOff Tryz.prog 44 1=some 1:=by kernel_rfl
theorem fo_132_0:fldOff Tryz.prog 132 0=some 0:=by kernel_rfl
theorem fo_132_1:fldOff Tryz.prog 132 1=some 1:=by kernel_rfl
theorem es_22:elSz Tryz.prog 22=some (none,2):=by kernel_rfl
theorem es_57:elSz Tryz.prog 57=some (none,1):=by kernel_rfl
theorem es_81:elSz Tryz.prog 81=some (none,2):=by kernel_rfl
theorem es_36:elSz Tryz.prog 36=some (none,1):=by kernel_rfl
theorem es_93:elSz Tryz.prog 93=some (none,1):=by kernel_rfl
theorem es_163:elSz Tryz.prog 163=some (none,1):=by kernel_rfl
theorem es_128:elSz Tryz.prog 128=some (none,2):=by kernel_rfl
theorem bi_59:bldI Tryz.prog 59=some ([.lit (.slice none 0 0),.lit (.slice none 0 0)],[(0,1),(1,1)]):=by kernel_rfl
theorem bi_132:bldI Tryz.prog 132=some ([.lit (.int .i64 0),.lit (.int .i64 0)],[(0,1),(1,1)]):=by kernel_rfl
theorem bi_24:bldI Tryz.prog 24=some ([.lit (.int .i64 0),.lit (.int .i64 0),.lit (.slice none 0 0)],[(0,1),(1,1),(2,1)]):=by kernel_rfl
theorem bs_57:bsI Tryz.prog 57=some ([.lit (.int .i64 0)],1):=by kernel_rfl
theorem bs_128:bsI Tryz.prog 128=some ([.lit (.int .i64 0),.lit (.int .i64 0)],2):=by kernel_rfl
theorem bs_22:bsI Tryz.prog 22=some ([.lit (.slice none 0 0),.lit (.slice none 0 0)],2):=by kernel_rfl
theorem ap_57_57:apI Tryz.prog 57 57=some (1,8):=by kernel_rfl
theorem ap_128_128:apI Tryz.prog 128 128=some (2,16):=by kernel_rfl
theorem ap_22_22:apI Tryz.prog 22 22=some (2,48):=by kernel_rfl
attribute [simp] ag_3 ag_59 ag_92 ag_81 ag_36 ag_57 ag_4 ag_22 ag_24 ag_44 ag_132 zl_92 zl_59 zl_24 zl_132 fo_92_0 fo_92_1 fo_44_2 fo_44_0 fo_59_0 fo_59_1 fo_24_2 fo_24_0 fo_24_1 fo_44_1 fo_132_0 fo_132_1 es_22 es_57 es_81 es_36 es_93 es_163 es_128 bi_59 bi_132 bi_24 bs_57 bs_128 bs_22 ap_57_57 ap_128_128 ap_22_22
theorem gsize:Tryz.prog.globals.size=3:=by kernel_rfl
end Go.Ai
end
section
namespace Go.Ai
def pl9:List (Nat×List It):=[(19,[.run 0,.run 1,.run 2,.run 3,.run 4,.run 5,.run 6,.run 7,.run 8,.run 9,.run 10,.run 11,.run 12,.run 13])]
theorem pl9_at_19:planAt pl9 19=[.run 0,.run 1,.run 2,.run 3,.run 4,.run 5,.run 6,.run 7,.run 8,.run 9,.run 10,.run 11,.run 12,.run 13]:=(rfl)
attribute [simp] pl9_at_19
def pl34:List (Nat×List It):=[(18,[.run 0,.run 1,.run 2,.run 3,.run 4,.run 5,.mk 6,.run 7,.mk 8,.gate [5,3,1] [6],.run 9]),(28,[.run 0,.run 1,.run 2,.run 3,.run 4,.run 5,.run 6,.mk 7,.gate [6,1] [],.run 8,.run 9,.run 10]),(29,[.run 0,.run 1,.run 2,.run 3,.run 4,.run 5,.run 6,.run 7,.run 8,.run 9,.run 10,.run 11,.run 12,.run 13,.run 14,.run 15,.run 16,.run 17,.run 18,.mk 19,.gate [18,15,10,8,3,1] [],.run 20,.run 21,.run 22]),(32,[.run 0,.run 1,.run 2,.run 3,.run 5,.run 6,.run 4,.gate [6,1] [],.run 7,.run 8,.mk 9,.gate [1] [],.run 10,.run 11,.run 12])]
theorem pl34_at_18:planAt pl34 18=[.run 0,.run 1,.run 2,.run 3,.run 4,.run 5,.mk 6,.run 7,.mk 8,.gate [5,3,1] [6],.run 9]:=(rfl)
attribute [simp] pl34_at_18
theorem pl34_at_28:planAt pl34 28=[.run 0,.run 1,.run 2,.run 3,.run 4,.run 5,.run 6,.mk 7,.gate [6,1] [],.run 8,.run 9,.run 10]:=(rfl)
attribute [simp] pl34_at_28
theorem pl34_at_29:planAt pl34 29=[.run 0,.run 1,.run 2,.run 3,.run 4,.run 5,.run 6,.run 7,.run 8,.run 9,.run 10,.run 11,.run 12,.run 13,.run 14,.run 15,.run 16,.run 17,.run 18,.mk 19,.gate [18,15,10,8,3,1] [],.run 20,.run 21,.run 22]:=(rfl)
attribute [simp] pl34_at_29
theorem pl34_at_32:planAt pl34 32=[.run 0,.run 1,.run 2,.run 3,.run 5,.run 6,.run 4,.gate [6,1] [],.run 7,.run 8,.mk 9,.gate [1] [],.run 10,.run 11,.run 12]:=(rfl)
attribute [simp] pl34_at_32
def pl37:List (Nat×List It):=[(8,[.run 0,.run 1,.run 2,.run 3,.run 4,.run 5,.run 6,.run 7,.run 8]),(10,[.run 0,.run 1,.run 2,.run 3,.run 4,.run 5,.run 6,.run 7,.run 8])]
theorem pl37_at_8:planAt pl37 8=[.run 0,.run 1,.run 2,.run 3,.run 4,.run 5,.run 6,.run 7,.run 8]:=(rfl)
attribute [simp] pl37_at_8
theorem pl37_at_10:planAt pl37 10=[.run 0,.run 1,.run 2,.run 3,.run 4,.run 5,.run 6,.run 7,.run 8]:=(rfl)
attribute [simp] pl37_at_10
def pl38:List (Nat×List It):=[(8,[.run 0,.run 1,.run 2,.run 3,.run 4,.run 5,.run 6,.run 7,.run 8]),(23,[.run 0,.run 1,.run 2,.run 3,.run 4,.run 5,.run 6,.run 7,.run 8,.run 9,.run 10])]
theorem pl38_at_8:planAt pl38 8=[.run 0,.run 1,.run 2,.run 3,.run 4,.run 5,.run 6,.run 7,.run 8]:=(rfl)
attribute [simp] pl38_at_8
theorem pl38_at_23:planAt pl38 23=[.run 0,.run 1,.run 2,.run 3,.run 4,.run 5,.run 6,.run 7,.run 8,.run 9,.run 10]:=(rfl)
attribute [simp] pl38_at_23
def pl68:List (Nat×List It):=[(12,[.run 0,.run 1,.run 2,.run 3,.run 4,.run 5,.run 6,.run 7,.run 8,.run 9])]
theorem pl68_at_12:planAt pl68 12=[.run 0,.run 1,.run 2,.run 3,.run 4,.run 5,.run 6,.run 7,.run 8,.run 9]:=(rfl)
attribute [simp] pl68_at_12
def pl69:List (Nat×List It):=[(3,[.run 0,.run 1,.run 2,.run 3,.run 4,.run 5,.run 6,.run 7,.run 8,.run 9,.run 10,.run 11,.run 12,.run 13,.run 14,.run 15])]
theorem pl69_at_3:planAt pl69 3=[.run 0,.run 1,.run 2,.run 3,.run 4,.run 5,.run 6,.run 7,.run 8,.run 9,.run 10,.run 11,.run 12,.run 13,.run 14,.run 15]:=(rfl)
attribute [simp] pl69_at_3
end Go.Ai
end
section
namespace Go.Ai
open Go.Proofs
attribute [simp] gsize
theorem hG:3=Tryz.prog.globals.size:=gsize.symm
end Go.Ai
end
section
namespace Go.Ai
open Go.Proofs
set_option maxRecDepth 10000
set_option maxHeartbeats 40000000
def inW (w:List Int) (q:Int) : Bool:=w.all fun i=>decide (0≤i∧i < q)
end Go.Ai
end
section
namespace Go.Ai
open Go.Proofs
set_option maxRecDepth 10000
set_option maxHeartbeats 40000000
def RowsT (g:Nat→Option Blk) (n:Nat) (ts:List (List Int×List Int)) (cs:List AV) : Prop :=
 cs.length=ts.length * 2∧∀ (k:Nat) (h:k < ts.length),∃ s1 s2,cs[k * 2]?=some s1∧cs[k * 2+1]?=some s2∧RepW g n ts[k].1 s1∧RepW g n ts[k].2 s2
theorem RowsT.ext {g g' : Nat→Option Blk} {b b' : Nat} {ts:List (List Int×List Int)} {cs:List AV} (h:RowsT g b ts cs) (hb:b≤b') (hg:∀ a x,a < b→g a=some x→g' a=some x) : RowsT g' b' ts cs :=
 ⟨h.1,fun k hk=>let ⟨s1,s2,h1,h2,h3,h4⟩:=h.2 k hk; ⟨s1,s2,h1,h2,SliceV.ext hb hg h3,SliceV.ext hb hg h4⟩⟩
def LogR (g:Nat→Option Blk) (n:Nat) (ts:List (List Int×List Int)) (sv:AV) : Prop:=∃ cs,SliceV g n sv ts.length cs∧RowsT g n ts cs
theorem LogR.mono {g g' : Nat→Option Blk} {n n' : Nat} {ts:List (List Int×List Int)} {sv:AV} (h:LogR g n ts sv) (hn:n≤n') (hg:∀ a,a < n→g' a=g a) : LogR g' n' ts sv :=
 let ⟨cs,h1,h2⟩:=h; ⟨cs,h1.mono hn hg,h2.ext hn fun a x ha hx=>(hg a ha).trans hx⟩
theorem drop2 {cs:List AV} {k:Nat} {s1 s2:AV} (h1:cs[k]?=some s1) (h2:cs[k+1]?=some s2) : (cs.drop k).take 2=[s1,s2]:=by
 obtain ⟨a1,b1⟩:=List.getElem?_eq_some_iff.1 h1
 obtain ⟨a2,b2⟩:=List.getElem?_eq_some_iff.1 h2
 rw [List.drop_eq_getElem_cons a1,List.drop_eq_getElem_cons a2,b1,b2]
 rfl
structure AtT (g:Nat→Option Blk) (n:Nat) (sv:AV) (k:Nat) (t:List Int×List Int) (a off:Nat) (s1 s2:AV) : Prop where
 an:a < n
 ia:∀ {H:Mem} {ev:Ev} {o:Oper} {ty:TypeId},iaS Tryz.prog H ev o ty (some (none,2)) (some sv) (some (.lit (.int .i64 (k:Int))))=.val (.ptr a (off+k * 2)) H
 agg:loadB (some (true,2)) (g a) (off+k * 2)=some (.agg [s1,s2])
 c0:loadB (some (false,1)) (g a) (off+k * 2)=some s1
 c1:loadB (some (false,1)) (g a) (off+k * 2+1)=some s2
 r1:RepW g n t.1 s1
 r2:RepW g n t.2 s2
theorem LogR.at {g:Nat→Option Blk} {n:Nat} {ts:List (List Int×List Int)} {sv:AV} (h:LogR g n ts sv) {k:Nat} (hk:k < ts.length) : ∃ a off s1 s2,AtT g n sv k ts[k] a off s1 s2:=by
 obtain ⟨cs,h1,h2⟩:=h
 obtain ⟨s1,s2,e1,e2,r1,r2⟩:=h2.2 k hk
 obtain ⟨a,off,ha,hrow,hia⟩:=SliceV.ia (P:=Tryz.prog) h1 hk 2
 have hl:=h2.1
 refine ⟨a,off,s1,s2,ha,hia,?_,?_,?_,r1,r2⟩
 ·rw [hrow.agg (k:=k * 2) (s:=2) (by omega),drop2 e1 e2]
 ·have:=hrow.one (k:=k * 2) (s:=1) (by omega)
  rwa [(List.getElem?_eq_some_iff.1 e1).2] at this
 ·have:=hrow.one (k:=k * 2+1) (s:=1) (by omega)
  rw [(List.getElem?_eq_some_iff.1 e2).2] at this
  rw [Nat.add_assoc]; exact this
end Go.Ai
end
section
namespace Go.Ai
open Go.Proofs
set_option maxRecDepth 10000
set_option maxHeartbeats 40000000
def okR (O:Int) : Bool→List Int→Bool
 | _,[]=>true
 | p,o :: r=>!(decide (o < -1) || (decide (O≤o) || (p && decide (¬o = -1)))) && okR O (decide (o = -1)) r
def validB (I O:Int) (t:List Int×List Int) : Bool:=decide (t.2.length=t.1.length) && inW t.1 I && okR O false t.2
end Go.Ai
end
section
namespace Go.Ai
open Go.Proofs
set_option maxRecDepth 10000
set_option maxHeartbeats 40000000
structure SmallL (ts:List (List Int×List Int)) : Prop where
 len:ts.length≤40
 w1:∀ t∈ts,t.1.length≤300
 w2:∀ t∈ts,t.2.length≤300
end Go.Ai
end
section
namespace Go.Ai
open Go.Proofs
set_option maxRecDepth 10000
set_option maxHeartbeats 40000000
theorem RepW.at {g:Nat→Option Blk} {n:Nat} {w:List Int} {q1:AV} (h:RepW g n w q1) {k:Nat} (hk:k < w.length) : ∃ a off,a < n∧(∀ {H:Mem} {ev:Ev} {o:Oper} {t:TypeId},iaS Tryz.prog H ev o t (some (none,1)) (some q1) (some (.lit (.int .i64 (k:Int))))=.val (.ptr a (off+k)) H)∧loadB (some (false,1)) (g a) (off+k)=some (.lit (.int .i64 w[k])):=by
 obtain ⟨a2,off,ha2,hrow,hia⟩:=SliceV.ia (P:=Tryz.prog) h hk 1
 simp only [Nat.mul_one] at hia
 have hcell:=hrow.one (k:=k) (s:=1) (by rw [wdC_len]; exact hk)
 rw [(List.getElem?_eq_some_iff.1 (wdC_at w k hk)).2] at hcell
 exact ⟨a2,off,ha2,hia,hcell⟩
end Go.Ai
end
