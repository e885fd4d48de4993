/- A small verified interpreter over names, its proofs, and what was proved with it. No condition. -/
import Derived.Test.YtpimmmnkcgnjjaaGreatRows
import Derived.Test.YtpimmmnkcgnjjaaGreatC05
import Derived.Test.YtpimmmnkcgnjjaaGreatC06
set_option linter.all false
set_option linter.deprecated false
section
namespace Go.Ai
open Go.Proofs
set_option maxRecDepth 100000
attribute [simp] Tryz.underlying0 Tryz.underlying1 Tryz.underlying2 Tryz.underlying3 Tryz.underlying4 Tryz.underlying5 Tryz.underlying6 Tryz.underlying7 Tryz.underlying8 Tryz.underlying9 Tryz.underlying10 Tryz.underlying11 Tryz.underlying12 Tryz.underlying13 Tryz.underlying14 Tryz.underlying15 Tryz.underlying16 Tryz.underlying17 Tryz.underlying18 Tryz.underlying19 Tryz.underlying20 Tryz.underlying21 Tryz.underlying22 Tryz.underlying23 Tryz.underlying24 Tryz.underlying25 Tryz.underlying26 Tryz.underlying27 Tryz.underlying28 Tryz.underlying29 Tryz.underlying30 Tryz.underlying31 Tryz.underlying32 Tryz.underlying33 Tryz.underlying34 Tryz.underlying35 Tryz.underlying36 Tryz.underlying37 Tryz.underlying38 Tryz.underlying39 Tryz.underlying40 Tryz.underlying41 Tryz.underlying42 Tryz.underlying43 Tryz.underlying44 Tryz.underlying45 Tryz.underlying46 Tryz.underlying47 Tryz.underlying48 Tryz.underlying49 Tryz.underlying50 Tryz.underlying51 Tryz.underlying52 Tryz.underlying53 Tryz.underlying54 Tryz.underlying55 Tryz.underlying56 Tryz.underlying57 Tryz.underlying58 Tryz.underlying59 Tryz.underlying60 Tryz.underlying61 Tryz.underlying62 Tryz.underlying63 Tryz.underlying64 Tryz.underlying65 Tryz.underlying66 Tryz.underlying67 Tryz.underlying68 Tryz.underlying69 Tryz.underlying70 Tryz.underlying71 Tryz.underlying72 Tryz.underlying73 Tryz.underlying74 Tryz.underlying75 Tryz.underlying76 Tryz.underlying77 Tryz.underlying78 Tryz.underlying79 Tryz.underlying80 Tryz.underlying81 Tryz.underlying82 Tryz.underlying83 Tryz.underlying84 Tryz.underlying85 Tryz.underlying86 Tryz.underlying87 Tryz.underlying88 Tryz.underlying89 Tryz.underlying90 Tryz.underlying91 Tryz.underlying92 Tryz.underlying93 Tryz.underlying94 Tryz.underlying95 Tryz.underlying96 Tryz.underlying97 Tryz.underlying98 Tryz.underlying99 Tryz.underlying100 Tryz.underlying101 Tryz.underlying102 Tryz.underlying103 Tryz.underlying104 Tryz.underlying105 Tryz.underlying106 Tryz.underlying107 Tryz.underlying108 Tryz.underlying109 Tryz.underlying110 Tryz.underlying111 Tryz.underlying112 Tryz.underlying113 Tryz.underlying114 Tryz.underlying115 Tryz.underlying116 Tryz.underlying117 Tryz.underlying118 Tryz.underlying119 Tryz.underlying120 Tryz.underlying121 Tryz.underlying122 Tryz.underlying123 Tryz.underlying124 Tryz.underlying125 Tryz.underlying126 Tryz.underlying127 Tryz.underlying128 Tryz.underlying129 Tryz.underlying130 Tryz.underlying131 Tryz.underlying132 Tryz.underlying133 Tryz.underlying134 Tryz.underlying135 Tryz.underlying136 Tryz.underlying137 Tryz.underlying138 Tryz.underlying139 Tryz.underlying140 Tryz.underlying141 Tryz.underlying142 Tryz.underlying143 Tryz.underlying144 Tryz.underlying145 Tryz.underlying146 Tryz.underlying147 Tryz.underlying148 Tryz.underlying149 Tryz.underlying150 Tryz.underlying151 Tryz.underlying152 Tryz.underlying153 Tryz.underlying154 Tryz.underlying155 Tryz.underlying156 Tryz.underlying157 Tryz.underlying158 Tryz.underlying159 Tryz.underlying160 Tryz.underlying161 Tryz.underlying162 Tryz.underlying163 Tryz.underlying164 Tryz.underlying165 Tryz.underlying166 Tryz.underlying167 Tryz.underlying168 Tryz.underlying169 Tryz.underlying170 Tryz.underlying171 Tryz.underlying172 Tryz.underlying173 Tryz.underlying174 Tryz.underlying175 Tryz.underlying176 Tryz.underlying177 Tryz.underlying178 Tryz.underlying179 Tryz.underlying180 Tryz.underlying181 Tryz.underlying182 Tryz.underlying183 Tryz.underlying184 Tryz.underlying185 Tryz.underlying186 Tryz.underlying187 Tryz.underlying188 Tryz.underlying189 Tryz.underlying190 Tryz.underlying191 Tryz.underlying192 Tryz.underlying193 Tryz.underlying194 Tryz.underlying195 Tryz.underlying196 Tryz.underlying197 Tryz.underlying198 Tryz.underlying199 Tryz.underlying200 Tryz.underlying201 Tryz.underlying202 Tryz.underlying203 Tryz.underlying204 Tryz.underlying205 Tryz.underlying206 Tryz.underlying207 Tryz.underlying208 Tryz.underlying209 Tryz.underlying210 Tryz.underlying211 Tryz.underlying212 Tryz.underlying213 Tryz.underlying214 Tryz.underlying215 Tryz.underlying216 Tryz.underlying217 Tryz.underlying218 Tryz.underlying219 Tryz.underlying220 Tryz.underlying221 Tryz.underlying222 Tryz.underlying223 Tryz.underlying224
theorem hb3:hasBody Tryz.prog 3=true:=by kernel_rfl
theorem hb13:hasBody Tryz.prog 13=true:=by kernel_rfl
theorem hb14:hasBody Tryz.prog 14=true:=by kernel_rfl
theorem hb15:hasBody Tryz.prog 15=true:=by kernel_rfl
theorem hb20:hasBody Tryz.prog 20=true:=by kernel_rfl
theorem hb22:hasBody Tryz.prog 22=true:=by kernel_rfl
theorem hb27:hasBody Tryz.prog 27=true:=by kernel_rfl
theorem hb29:hasBody Tryz.prog 29=true:=by kernel_rfl
theorem hb30:hasBody Tryz.prog 30=true:=by kernel_rfl
theorem hb31:hasBody Tryz.prog 31=true:=by kernel_rfl
theorem hb36:hasBody Tryz.prog 36=true:=by kernel_rfl
theorem hb37:hasBody Tryz.prog 37=true:=by kernel_rfl
theorem hb38:hasBody Tryz.prog 38=true:=by kernel_rfl
theorem hb39:hasBody Tryz.prog 39=true:=by kernel_rfl
theorem hb40:hasBody Tryz.prog 40=true:=by kernel_rfl
theorem hb41:hasBody Tryz.prog 41=true:=by kernel_rfl
theorem hb52:hasBody Tryz.prog 52=true:=by kernel_rfl
theorem hb55:hasBody Tryz.prog 55=true:=by kernel_rfl
theorem hb56:hasBody Tryz.prog 56=true:=by kernel_rfl
theorem hb57:hasBody Tryz.prog 57=true:=by kernel_rfl
theorem hb58:hasBody Tryz.prog 58=true:=by kernel_rfl
theorem hb70:hasBody Tryz.prog 70=true:=by kernel_rfl
theorem hb77:hasBody Tryz.prog 77=true:=by kernel_rfl
theorem hb78:hasBody Tryz.prog 78=true:=by kernel_rfl
theorem hb80:hasBody Tryz.prog 80=true:=by kernel_rfl
theorem hb88:hasBody Tryz.prog 88=true:=by kernel_rfl
theorem hb89:hasBody Tryz.prog 89=true:=by kernel_rfl
theorem hb90:hasBody Tryz.prog 90=true:=by kernel_rfl
theorem hb91:hasBody Tryz.prog 91=true:=by kernel_rfl
theorem hb124:hasBody Tryz.prog 124=true:=by kernel_rfl
theorem hb125:hasBody Tryz.prog 125=true:=by kernel_rfl
theorem hb143:hasBody Tryz.prog 143=true:=by kernel_rfl
attribute [simp] hb3 hb13 hb14 hb15 hb20 hb22 hb27 hb29 hb30 hb31 hb36 hb37 hb38 hb39 hb40 hb41 hb52 hb55 hb56 hb57 hb58 hb70 hb77 hb78 hb80 hb88 hb89 hb90 hb91 hb124 hb125 hb143
theorem ag_3:tIsAgg Tryz.prog 3=some (false,1):=by kernel_rfl
theorem ag_84:tIsAgg Tryz.prog 84=some (true,2):=by kernel_rfl
theorem ag_65:tIsAgg Tryz.prog 65=some (false,1):=by kernel_rfl
theorem ag_97:tIsAgg Tryz.prog 97=some (true,2):=by kernel_rfl
theorem ag_22:tIsAgg Tryz.prog 22=some (false,1):=by kernel_rfl
theorem ag_98:tIsAgg Tryz.prog 98=some (false,1):=by kernel_rfl
theorem ag_23:tIsAgg Tryz.prog 23=some (false,1):=by kernel_rfl
theorem ag_49:tIsAgg Tryz.prog 49=some (true,3):=by kernel_rfl
theorem ag_25:tIsAgg Tryz.prog 25=some (true,3):=by kernel_rfl
theorem ag_27:tIsAgg Tryz.prog 27=some (true,7):=by kernel_rfl
theorem ag_4:tIsAgg Tryz.prog 4=some (false,1):=by kernel_rfl
theorem ag_5:tIsAgg Tryz.prog 5=some (false,1):=by kernel_rfl
theorem zl_97:zeroL Tryz.prog 97=some [.lit (.int .i64 0),.lit (.int .i64 0)]:=by kernel_rfl
theorem zl_27:zeroL Tryz.prog 27=some [.lit (.int .i64 0),.lit (.int .i64 0),.lit (.slice none 0 0),.lit (.slice none 0 0),.lit (.int .i64 0),.lit (.int .i64 0),.lit (.slice none 0 0)]:=by kernel_rfl
theorem zl_49:zeroL Tryz.prog 49=some [.lit (.int .i64 0),.lit (.int .i64 0),.lit (.slice none 0 0)]:=by kernel_rfl
theorem fo_27_0:fldOff Tryz.prog 27 0=some 0:=by kernel_rfl
theorem fo_27_2:fldOff Tryz.prog 27 2=some 2:=by kernel_rfl
theorem fo_97_0:fldOff Tryz.prog 97 0=some 0:=by kernel_rfl
theorem fo_97_1:fldOff Tryz.prog 97 1=some 1:=by kernel_rfl
theorem fo_25_2:fldOff Tryz.prog 25 2=some 2:=by kernel_rfl
theorem fo_27_4:fldOff Tryz.prog 27 4=some 4:=by kernel_rfl
theorem fo_25_1:fldOff Tryz.prog 25 1=some 1:=by kernel_rfl
theorem fo_25_0:fldOff Tryz.prog 25 0=some 0:=by kernel_rfl
theorem fo_27_3:fldOff Tryz.prog 27 3=some 3:=by kernel_rfl
theorem fo_27_1:fldOff Tryz.prog 27 1=some 1:=by kernel_rfl
theorem es_22:elSz Tryz.prog 22=some (none,1):=by kernel_rfl
theorem es_98:elSz Tryz.prog 98=some (none,2):=by kernel_rfl
theorem es_65:elSz Tryz.prog 65=some (none,1):=by kernel_rfl
theorem es_23:elSz Tryz.prog 23=some (none,1):=by kernel_rfl
theorem es_160:elSz Tryz.prog 160=some (none,1):=by kernel_rfl
theorem es_42:elSz Tryz.prog 42=some (none,1):=by kernel_rfl
theorem is_102:isSet Tryz.prog 102=true:=by kernel_rfl
theorem bi_49:bldI Tryz.prog 49=some ([.lit (.int .i64 0),.lit (.int .i64 0),.lit (.slice none 0 0)],[(0,1),(1,1),(2,1)]):=by kernel_rfl
theorem bi_54:bldI Tryz.prog 54=some ([.lit (.int .i64 0),.lit (.int .i64 0),.lit (.slice none 0 0)],[(0,1),(1,1),(2,1)]):=by kernel_rfl
theorem bi_84:bldI Tryz.prog 84=some ([.lit (.slice none 0 0),.lit (.slice none 0 0)],[(0,1),(1,1)]):=by kernel_rfl
theorem bi_27:bldI Tryz.prog 27=some ([.lit (.int .i64 0),.lit (.int .i64 0),.lit (.slice none 0 0),.lit (.slice none 0 0),.lit (.int .i64 0),.lit (.int .i64 0),.lit (.slice none 0 0)],[(0,1),(1,1),(2,1),(3,1),(4,3)]):=by kernel_rfl
theorem bs_65:bsI Tryz.prog 65=some ([.lit (.int .i64 0)],1):=by kernel_rfl
theorem ap_65_65:apI Tryz.prog 65 65=some (1,8):=by kernel_rfl
attribute [simp] ag_3 ag_84 ag_65 ag_97 ag_22 ag_98 ag_23 ag_49 ag_25 ag_27 ag_4 ag_5 zl_97 zl_27 zl_49 fo_27_0 fo_27_2 fo_97_0 fo_97_1 fo_25_2 fo_27_4 fo_25_1 fo_25_0 fo_27_3 fo_27_1 es_22 es_98 es_65 es_23 es_160 es_42 is_102 bi_49 bi_54 bi_84 bi_27 bs_65 ap_65_65
theorem gsize:Tryz.prog.globals.size=0:=by kernel_rfl
end Go.Ai
end
section
namespace Go.Ai
def pl15:List (Nat×List It):=[(9,[.run 0,.run 1,.run 2,.run 3,.run 4,.run 5,.run 6,.run 7,.run 8,.run 9,.run 10,.run 11,.run 12,.run 13,.run 14,.run 15,.run 16,.run 17,.run 18,.run 19,.run 20,.run 21,.run 22,.run 23,.run 24,.run 25,.run 26,.run 27,.run 28,.run 29,.run 30,.run 31]),(17,[.run 0,.run 1,.run 4,.run 5,.run 2,.run 3,.gate [5] [],.run 6,.run 7,.run 8])]
theorem pl15_at_9:planAt pl15 9=[.run 0,.run 1,.run 2,.run 3,.run 4,.run 5,.run 6,.run 7,.run 8,.run 9,.run 10,.run 11,.run 12,.run 13,.run 14,.run 15,.run 16,.run 17,.run 18,.run 19,.run 20,.run 21,.run 22,.run 23,.run 24,.run 25,.run 26,.run 27,.run 28,.run 29,.run 30,.run 31]:=(rfl)
attribute [simp] pl15_at_9
theorem pl15_at_17:planAt pl15 17=[.run 0,.run 1,.run 4,.run 5,.run 2,.run 3,.gate [5] [],.run 6,.run 7,.run 8]:=(rfl)
attribute [simp] pl15_at_17
def pl22:List (Nat×List It):=[(12,[.run 0,.run 1,.run 3,.run 4,.run 2,.gate [4] [],.run 5,.run 6,.run 7])]
def pl30:List (Nat×List It):=[(6,[.run 0,.run 1,.run 2,.gate [0] [],.run 3,.run 4])]
def pl31:List (Nat×List It):=[(9,[.run 0,.run 1,.run 2,.run 3,.run 4,.run 5,.run 6,.mk 7,.run 8,.mk 9,.gate [6,5,3,1] [7],.run 10]),(15,[.run 0,.run 1,.run 2,.run 3,.run 4,.mk 5,.run 6,.gate [4,1] [],.run 7]),(19,[.run 0,.run 1,.run 2,.run 3,.run 4,.run 5,.run 6,.run 7,.run 8,.run 9,.mk 10,.gate [6,4,1] [],.run 11,.gate [6,4,1] [],.run 12,.run 13,.gate [4,1] [],.run 14])]
def pl38:List (Nat×List It):=[(4,[.run 0,.run 1,.run 2,.run 3,.run 4,.run 5,.run 6,.run 7,.run 8,.run 9,.run 10,.run 11,.run 12,.run 13,.run 14,.run 15,.run 16,.run 17,.run 18,.run 19,.run 20,.run 21,.run 22,.run 23,.run 24,.run 25,.run 26,.run 27,.run 28,.run 29,.run 30,.run 31,.run 32,.run 33]),(9,[.run 0,.run 1,.run 2,.run 3,.gate [1] [],.run 4,.mk 5,.gate [1] [],.run 6,.run 7,.run 8,.run 9])]
def pl39:List (Nat×List It):=[(12,[.run 0,.run 1,.run 2,.run 3,.gate [1] [],.run 4,.mk 5,.gate [1] [],.run 6,.run 7,.run 8,.run 9])]
def pl40:List (Nat×List It):=[(16,[.run 0,.run 1,.run 2,.run 3,.run 4,.run 5,.run 6,.run 7]),(17,[.run 0,.run 1,.run 2,.run 3,.run 4,.run 5,.run 6,.run 7,.run 8,.run 9,.run 10,.run 11])]
def pl41:List (Nat×List It):=[(13,[.run 0,.run 1,.run 2,.run 3,.run 4,.run 5,.run 6,.run 7,.run 8,.run 9]),(16,[.run 0,.run 1,.run 2,.run 3,.run 4,.run 5,.run 6,.run 7,.run 8,.run 9])]
def pl58:List (Nat×List It):=[(8,[.run 0,.run 1,.run 2,.run 3,.run 4,.run 5,.run 6,.run 7,.run 8]),(23,[.run 0,.run 1,.run 2,.run 3,.run 4,.run 5,.run 6,.run 7,.run 8,.run 9,.run 10])]
theorem pl58_at_8:planAt pl58 8=[.run 0,.run 1,.run 2,.run 3,.run 4,.run 5,.run 6,.run 7,.run 8]:=(rfl)
attribute [simp] pl58_at_8
theorem pl58_at_23:planAt pl58 23=[.run 0,.run 1,.run 2,.run 3,.run 4,.run 5,.run 6,.run 7,.run 8,.run 9,.run 10]:=(rfl)
attribute [simp] pl58_at_23
def pl80:List (Nat×List It):=[(8,[.run 0,.run 1,.run 2,.run 3,.run 4,.run 5,.run 6,.run 7,.run 8]),(10,[.run 0,.run 1,.run 2,.run 3,.run 4,.run 5,.run 6,.run 7,.run 8])]
theorem pl80_at_8:planAt pl80 8=[.run 0,.run 1,.run 2,.run 3,.run 4,.run 5,.run 6,.run 7,.run 8]:=(rfl)
attribute [simp] pl80_at_8
theorem pl80_at_10:planAt pl80 10=[.run 0,.run 1,.run 2,.run 3,.run 4,.run 5,.run 6,.run 7,.run 8]:=(rfl)
attribute [simp] pl80_at_10
def pl90:List (Nat×List It):=[(1,[.run 0,.run 1,.run 2,.run 3,.run 4,.run 5,.run 6,.run 7,.run 8,.run 9,.run 10,.run 11,.run 12,.run 15,.run 16,.run 13,.run 14,.gate [16] [],.run 17,.run 18,.run 19,.run 20])]
theorem pl90_at_1:planAt pl90 1=[.run 0,.run 1,.run 2,.run 3,.run 4,.run 5,.run 6,.run 7,.run 8,.run 9,.run 10,.run 11,.run 12,.run 15,.run 16,.run 13,.run 14,.gate [16] [],.run 17,.run 18,.run 19,.run 20]:=(rfl)
attribute [simp] pl90_at_1
end Go.Ai
end
section
namespace Go.Ai
open Go.Proofs
attribute [simp] gsize
theorem hG:0=Tryz.prog.globals.size:=gsize.symm
end Go.Ai
end
section
namespace Go.Ai
open Go.Proofs
set_option maxRecDepth 10000
set_option maxHeartbeats 40000000
theorem long_w (l:List (List Int)) (hl:l.length≤1000000) (hw:∀ w∈l,w.length≤1000000) (g:Nat→Option Blk) (n:Nat) (sv:AV) (svs:List AV) (hsv:SliceV g n sv l.length svs) (hr:RowsW g n l svs) :
  WC 0 Tryz.prog 78 [sv] ⟨.fn g,n⟩ fun r=>r=.ret (.lit (.int .i64 (longM l:Nat))) ⟨.fn g,n⟩:=by
 have hlen:=@lenV Tryz.prog _ _ _ _ _ hsv
 have HS:=Hide.mk hsv
 have HR:=Hide.mk hr
 have HW:=Hide.mk hw
 clear hsv hr hw
 refine WC.enterP (noO_ok _ _) hG [] Tryz.func78 rfl (by decide +kernel) (Nat.le_of_ble_eq_true (by kernel_rfl)) ?_
 iterate 6 (all_goals try (first | with_reducible refine splitI (fun h=>?_) (fun h=>?_) | with_reducible refine splitBI (fun h=>?_) (fun h=>?_) | simp (config:={ maxSteps:=1000000 }) (disch:=first | assumption | omega | (simp; done) | fail) [Tryz.results78, *]))
 refine LX.ind (fun m gf H'=>∃ (k:Nat),k≤l.length∧m=l.length - k∧H'=⟨.fn g,n⟩∧gf 3=some (.lit (.int .i64 (longM (l.take k) : Nat)))∧gf 6=some sv∧gf 7=some (.lit (.int .i64 l.length))∧gf 8=some (.lit (.int .i64 k))) (m0:=l.length) ?_ ?_
 ·exact ⟨0,Nat.zero_le _,rfl,rfl,by simp [longM],by simp,by simp,by simp⟩
 rintro m gf H' ⟨k,hk,rfl,rfl,w3,w6,w7,w8⟩ ih
 refine LX.roundP (noO_ok _ _) hG [] (by decide +kernel) ?_
 by_cases hlt:k < l.length
 ·have hltI:(k:Int) < (l.length:Int):=by omega
  obtain ⟨w1,hw1,hrep⟩:=HR.out.2 k hlt
  obtain ⟨a2,off,ha2,hrow,hia⟩:=HS.out.ia (P:=Tryz.prog) hlt 1
  simp only [Nat.mul_one] at hia
  have hkl:k < svs.length:=(List.getElem?_eq_some_iff.1 hw1).1
  have hcell:=hrow.one (k:=k) (s:=1) hkl
  rw [(List.getElem?_eq_some_iff.1 hw1).2] at hcell
  have hlen1:=@lenV Tryz.prog _ _ _ _ _ hrep
  have htk:l.take (k+1)=l.take k++[l[k]]:=by rw [List.take_succ,List.getElem?_eq_getElem hlt]; rfl
  have hml:longM (l.take (k+1))=max (longM (l.take k)) l[k].length:=by rw [htk,longM_snoc]
  have hwl:=HW.out _ (List.getElem_mem hlt)
  have hmx:longM (l.take k)≤1000000:=longM_le fun w hw=>HW.out w (List.mem_of_mem_take hw)
  have HML:=Hide.mk hml
  clear hml htk hrow hrep hw1 ha2
  generalize l[k]=w at *
  have hdrop:∀ mm:Nat,mm=longM (l.take (k+1))→mm=longM (l.take (k+1)):=fun _ h=>h
  clear hdrop
  generalize hq:longM (l.take k)=q at *
  by_cases hm:q < w.length
  ·have hmI:(q:Int) < (w.length:Int):=by omega
   iterate 6 (all_goals try (first | with_reducible refine splitI (fun h=>?_) (fun h=>?_) | with_reducible refine splitBI (fun h=>?_) (fun h=>?_) | simp (config:={ maxSteps:=1000000 }) (disch:=first | assumption | omega | (simp; done) | fail) [Tryz.results78, *]))
   refine ih.out (l.length - (k+1)) _ _ (by omega) ⟨k+1,by omega,rfl,rfl,?_,by simp [*],by simp [*],by simp⟩
   rw [HML.out,Nat.max_eq_right (by omega)]; simp
  ·have hmI:¬(q:Int) < (w.length:Int):=by omega
   iterate 6 (all_goals try (first | with_reducible refine splitI (fun h=>?_) (fun h=>?_) | with_reducible refine splitBI (fun h=>?_) (fun h=>?_) | simp (config:={ maxSteps:=1000000 }) (disch:=first | assumption | omega | (simp; done) | fail) [Tryz.results78, *]))
   refine ih.out (l.length - (k+1)) _ _ (by omega) ⟨k+1,by omega,rfl,rfl,?_,by simp [*],by simp [*],by simp⟩
   rw [HML.out,Nat.max_eq_left (by omega)]; simp
 ·have hltI:¬(k:Int) < (l.length:Int):=by omega
  have hk2:k=l.length:=by omega
  rw [hk2,List.take_length] at w3
  clear hk2
  iterate 6 (all_goals try (first | with_reducible refine splitI (fun h=>?_) (fun h=>?_) | with_reducible refine splitBI (fun h=>?_) (fun h=>?_) | simp (config:={ maxSteps:=1000000 }) (disch:=first | assumption | omega | (simp; done) | fail) [Tryz.results78, *]))
end Go.Ai
end
section
namespace Go.Ai
open Go.Proofs
set_option maxRecDepth 10000
set_option maxHeartbeats 40000000
theorem rlong_w (l:List (List Int)) (hl:l.length≤1000000) (hw:∀ w∈l,w.length≤1000000) (g:Nat→Option Blk) (n:Nat) (sv:AV) (svs:List AV) (hsv:SliceV g n sv l.length svs) (hr:RowsW g n l svs) :
  WC 0 Tryz.prog 55 [sv] ⟨.fn g,n⟩ fun r=>r=.ret (.lit (.int .i64 (longM l:Nat))) ⟨.fn g,n⟩:=by
 have hlen:=@lenV Tryz.prog _ _ _ _ _ hsv
 have HS:=Hide.mk hsv
 have HR:=Hide.mk hr
 have HW:=Hide.mk hw
 clear hsv hr hw
 refine WC.enterP (noO_ok _ _) hG [] Tryz.func55 rfl (by decide +kernel) (Nat.le_of_ble_eq_true (by kernel_rfl)) ?_
 iterate 6 (all_goals try (first | with_reducible refine splitI (fun h=>?_) (fun h=>?_) | with_reducible refine splitBI (fun h=>?_) (fun h=>?_) | simp (config:={ maxSteps:=1000000 }) (disch:=first | assumption | omega | (simp; done) | fail) [Tryz.results55, *]))
 refine LX.ind (fun m gf H'=>∃ (k:Nat),k≤l.length∧m=l.length - k∧H'=⟨.fn g,n⟩∧gf 3=some (.lit (.int .i64 (longM (l.take k) : Nat)))∧gf 0=some sv∧gf 4=some (.lit (.int .i64 k))) (m0:=l.length) ?_ ?_
 ·exact ⟨0,Nat.zero_le _,rfl,rfl,by simp [longM],by simp,by simp⟩
 rintro m gf H' ⟨k,hk,rfl,rfl,w3,w6,w8⟩ ih
 refine LX.roundP (noO_ok _ _) hG [] (by decide +kernel) ?_
 by_cases hlt:k < l.length
 ·have hltI:(k:Int) < (l.length:Int):=by omega
  obtain ⟨w1,hw1,hrep⟩:=HR.out.2 k hlt
  obtain ⟨a2,off,ha2,hrow,hia⟩:=HS.out.ia (P:=Tryz.prog) hlt 1
  simp only [Nat.mul_one] at hia
  have hkl:k < svs.length:=(List.getElem?_eq_some_iff.1 hw1).1
  have hcell:=hrow.one (k:=k) (s:=1) hkl
  rw [(List.getElem?_eq_some_iff.1 hw1).2] at hcell
  have hlen1:=@lenV Tryz.prog _ _ _ _ _ hrep
  have htk:l.take (k+1)=l.take k++[l[k]]:=by rw [List.take_succ,List.getElem?_eq_getElem hlt]; rfl
  have hml:longM (l.take (k+1))=max (longM (l.take k)) l[k].length:=by rw [htk,longM_snoc]
  have hwl:=HW.out _ (List.getElem_mem hlt)
  have hmx:longM (l.take k)≤1000000:=longM_le fun w hw=>HW.out w (List.mem_of_mem_take hw)
  have HML:=Hide.mk hml
  clear hml htk hrow hrep hw1 ha2
  generalize l[k]=w at *
  have hdrop:∀ mm:Nat,mm=longM (l.take (k+1))→mm=longM (l.take (k+1)):=fun _ h=>h
  clear hdrop
  generalize hq:longM (l.take k)=q at *
  by_cases hm:q < w.length
  ·have hmI:(q:Int) < (w.length:Int):=by omega
   iterate 6 (all_goals try (first | with_reducible refine splitI (fun h=>?_) (fun h=>?_) | with_reducible refine splitBI (fun h=>?_) (fun h=>?_) | simp (config:={ maxSteps:=1000000 }) (disch:=first | assumption | omega | (simp; done) | fail) [Tryz.results55, *]))
   refine ih.out (l.length - (k+1)) _ _ (by omega) ⟨k+1,by omega,rfl,rfl,?_,by simp [*],by simp⟩
   rw [HML.out,Nat.max_eq_right (by omega)]; simp
  ·have hmI:¬(q:Int) < (w.length:Int):=by omega
   iterate 6 (all_goals try (first | with_reducible refine splitI (fun h=>?_) (fun h=>?_) | with_reducible refine splitBI (fun h=>?_) (fun h=>?_) | simp (config:={ maxSteps:=1000000 }) (disch:=first | assumption | omega | (simp; done) | fail) [Tryz.results55, *]))
   refine ih.out (l.length - (k+1)) _ _ (by omega) ⟨k+1,by omega,rfl,rfl,?_,by simp [*],by simp⟩
   rw [HML.out,Nat.max_eq_left (by omega)]; simp
 ·have hltI:¬(k:Int) < (l.length:Int):=by omega
  have hk2:k=l.length:=by omega
  rw [hk2,List.take_length] at w3
  clear hk2
  iterate 6 (all_goals try (first | with_reducible refine splitI (fun h=>?_) (fun h=>?_) | with_reducible refine splitBI (fun h=>?_) (fun h=>?_) | simp (config:={ maxSteps:=1000000 }) (disch:=first | assumption | omega | (simp; done) | fail) [Tryz.results55, *]))
theorem rinputs_w (w:List Int) (hwl:w.length≤1000000) (q:Int) (g:Nat→Option Blk) (n:Nat) (sv:AV) (hsv:RepW g n w sv) :
  WC 0 Tryz.prog 56 [sv,.lit (.int .i64 q)] ⟨.fn g,n⟩ fun r=>r=.ret (.lit (.bool (w.all fun i=>decide (0≤i∧i < q)))) ⟨.fn g,n⟩:=by
 have hlen:=@lenV Tryz.prog _ _ _ _ _ hsv
 have HS:=Hide.mk hsv
 clear hsv
 obtain ⟨ret,hret⟩ : ∃ b,b=w.all fun i=>decide (0≤i∧i < q):=⟨_,rfl⟩
 rw [← hret]
 have HRET:=Hide.mk hret
 clear hret
 refine WC.enterP (noO_ok _ _) hG [] Tryz.func56 rfl (by decide +kernel) (Nat.le_of_ble_eq_true (by kernel_rfl)) ?_
 iterate 6 (all_goals try (first | with_reducible refine splitI (fun h=>?_) (fun h=>?_) | with_reducible refine splitBI (fun h=>?_) (fun h=>?_) | simp (config:={ maxSteps:=1000000 }) (disch:=first | assumption | omega | (simp; done) | fail) [Tryz.results56, *]))
 refine LX.ind (fun m gf H'=>∃ (k:Nat),k≤w.length∧m=w.length - k∧H'=⟨.fn g,n⟩∧(∀ i∈w.take k,0≤i∧i < q)∧gf 0=some sv∧gf 1=some (.lit (.int .i64 q))∧gf 5=some (.lit (.int .i64 k))) (m0:=w.length) ?_ ?_
 ·exact ⟨0,Nat.zero_le _,rfl,rfl,by simp,by simp,by simp,by simp⟩
 rintro m gf H' ⟨k,hk,rfl,rfl,hpre,w0,w1,w5⟩ ih
 have HPRE:=Hide.mk hpre
 clear hpre
 refine LX.roundP (noO_ok _ _) hG [] (by decide +kernel) ?_
 by_cases hlt:k < w.length
 ·have hltI:(k:Int) < (w.length:Int):=by omega
  obtain ⟨a2,off,ha2,hrow,hia⟩:=SliceV.ia (P:=Tryz.prog) HS.out hlt 1
  simp only [Nat.mul_one] at hia
  have hcell:=hrow.one (k:=k) (s:=1) (by rw [wdC_len]; exact hlt)
  have hval:(wdC w)[k]'(by rw [wdC_len]; exact hlt)=.lit (.int .i64 w[k]):=(List.getElem?_eq_some_iff.1 (wdC_at w k hlt)).2
  rw [hval] at hcell
  have htk:w.take (k+1)=w.take k++[w[k]]:=by rw [List.take_succ,List.getElem?_eq_getElem hlt]; rfl
  have HT:=Hide.mk htk
  have HM:=Hide.mk (List.getElem_mem hlt)
  clear htk hrow hval ha2
  generalize w[k]=x at *
  have bad:¬(0≤x∧x < q)→ret=false:=fun h=>by
   rw [HRET.out,List.all_eq_false]
   exact ⟨x,HM.out,by simpa using h⟩
  have HB:=Hide.mk bad
  clear bad
  by_cases t1:x < 0
  ·iterate 6 (all_goals try (first | with_reducible refine splitI (fun h=>?_) (fun h=>?_) | with_reducible refine splitBI (fun h=>?_) (fun h=>?_) | simp (config:={ maxSteps:=1000000 }) (disch:=first | assumption | omega | (simp; done) | fail) [Tryz.results56, *]))
   exact HB.out (by omega)
  by_cases t2:q≤x
  ·iterate 6 (all_goals try (first | with_reducible refine splitI (fun h=>?_) (fun h=>?_) | with_reducible refine splitBI (fun h=>?_) (fun h=>?_) | simp (config:={ maxSteps:=1000000 }) (disch:=first | assumption | omega | (simp; done) | fail) [Tryz.results56, *]))
   exact HB.out (by omega)
  ·iterate 6 (all_goals try (first | with_reducible refine splitI (fun h=>?_) (fun h=>?_) | with_reducible refine splitBI (fun h=>?_) (fun h=>?_) | simp (config:={ maxSteps:=1000000 }) (disch:=first | assumption | omega | (simp; done) | fail) [Tryz.results56, *]))
   refine ih.out (w.length - (k+1)) _ _ (by omega) ⟨k+1,by omega,rfl,rfl,fun i hi=>?_,by simp [*],by simp [*],by simp⟩
   rw [HT.out] at hi
   rcases List.mem_append.1 hi with h | h
   ·exact HPRE.out i h
   ·rw [List.mem_singleton.1 h]; omega
 ·have hltI:¬(k:Int) < (w.length:Int):=by omega
  have hk2:k=w.length:=by omega
  have hr:ret=true:=by
   rw [HRET.out,List.all_eq_true]
   intro i hi
   have:=HPRE.out i (by rw [hk2,List.take_length]; exact hi)
   simpa using this
  clear hk2
  iterate 6 (all_goals try (first | with_reducible refine splitI (fun h=>?_) (fun h=>?_) | with_reducible refine splitBI (fun h=>?_) (fun h=>?_) | simp (config:={ maxSteps:=1000000 }) (disch:=first | assumption | omega | (simp; done) | fail) [Tryz.results56, *]))
theorem rcmp_w (a b:List Int) (hal:a.length≤1000000) (hbl:b.length≤1000000) (g:Nat→Option Blk) (n:Nat) (sa sb:AV) (ha:RepW g n a sa) (hb:RepW g n b sb) :
  WC 0 Tryz.prog 80 [sa,sb] ⟨.fn g,n⟩ fun r=>∃ z:Int,r=.ret (.lit (.int .i64 z)) ⟨.fn g,n⟩∧decide (z=0)=decide (a=b):=by
 have hla:=@lenV Tryz.prog _ _ _ _ _ ha
 have hlb:=@lenV Tryz.prog _ _ _ _ _ hb
 have HA:=Hide.mk ha
 have HB:=Hide.mk hb
 clear ha hb
 obtain ⟨ret,hret⟩ : ∃ c,c=decide (a=b):=⟨_,rfl⟩
 rw [← hret]
 have HRET:=Hide.mk hret
 clear hret
 by_cases t1:a.length < b.length
 ·have t1I:(a.length:Int) < (b.length:Int):=by omega
  have hr:ret=false:=by
   rw [HRET.out]; exact decide_eq_false fun h=>by rw [h] at t1; omega
  refine WC.enterP (noO_ok _ _) hG pl80 Tryz.func80 rfl (by decide +kernel) (Nat.le_of_ble_eq_true (by kernel_rfl)) ?_
  iterate 6 (all_goals try (first | with_reducible refine splitI (fun h=>?_) (fun h=>?_) | with_reducible refine splitBI (fun h=>?_) (fun h=>?_) | simp (config:={ maxSteps:=1000000 }) (disch:=first | assumption | omega | (simp; done) | fail) [Tryz.results80, *]))
 by_cases t2:b.length < a.length
 ·have t2I:(b.length:Int) < (a.length:Int):=by omega
  have t1I:¬(a.length:Int) < (b.length:Int):=by omega
  have hr:ret=false:=by
   rw [HRET.out]; exact decide_eq_false fun h=>by rw [h] at t2; omega
  refine WC.enterP (noO_ok _ _) hG pl80 Tryz.func80 rfl (by decide +kernel) (Nat.le_of_ble_eq_true (by kernel_rfl)) ?_
  iterate 6 (all_goals try (first | with_reducible refine splitI (fun h=>?_) (fun h=>?_) | with_reducible refine splitBI (fun h=>?_) (fun h=>?_) | simp (config:={ maxSteps:=1000000 }) (disch:=first | assumption | omega | (simp; done) | fail) [Tryz.results80, *]))
 have hL:b.length=a.length:=by omega
 have HL:=Hide.mk hL
 rw [hL] at hlb
 clear t1 t2 hL hbl
 refine WC.enterP (noO_ok _ _) hG pl80 Tryz.func80 rfl (by decide +kernel) (Nat.le_of_ble_eq_true (by kernel_rfl)) ?_
 iterate 6 (all_goals try (first | with_reducible refine splitI (fun h=>?_) (fun h=>?_) | with_reducible refine splitBI (fun h=>?_) (fun h=>?_) | simp (config:={ maxSteps:=1000000 }) (disch:=first | assumption | omega | (simp; done) | fail) [Tryz.results80, *]))
 refine LX.ind (fun m gf H'=>∃ (k:Nat),k≤a.length∧m=a.length - k∧H'=⟨.fn g,n⟩∧Hide (a.take k=b.take k)∧gf 0=some sa∧gf 1=some sb∧gf 5=some (.lit (.int .i64 k))) (m0:=a.length) ?_ ?_
 ·exact ⟨0,Nat.zero_le _,rfl,rfl,⟨by simp⟩,by simp,by simp,by simp⟩
 rintro m gf H' ⟨k,hk,rfl,rfl,HPRE,w0,w1,w5⟩ ih
 refine LX.roundP (noO_ok _ _) hG pl80 (by decide +kernel) ?_
 by_cases hlt:k < a.length
 ·have hltI:(k:Int) < (a.length:Int):=by omega
  have hltb:k < b.length:=by rw [HL.out]; exact hlt
  obtain ⟨a2,off,ha2,hrow,hia⟩:=SliceV.ia (P:=Tryz.prog) HA.out hlt 1
  obtain ⟨b2,ofb,hb2,hrob,hib⟩:=SliceV.ia (P:=Tryz.prog) HB.out hltb 1
  simp only [Nat.mul_one] at hia hib
  have hca:=hrow.one (k:=k) (s:=1) (by rw [wdC_len]; exact hlt)
  have hcb:=hrob.one (k:=k) (s:=1) (by rw [wdC_len]; exact hltb)
  rw [(List.getElem?_eq_some_iff.1 (wdC_at a k hlt)).2] at hca
  rw [(List.getElem?_eq_some_iff.1 (wdC_at b k hltb)).2] at hcb
  have hta:a.take (k+1)=a.take k++[a[k]]:=by rw [List.take_succ,List.getElem?_eq_getElem hlt]; rfl
  have htb:b.take (k+1)=b.take k++[b[k]]:=by rw [List.take_succ,List.getElem?_eq_getElem hltb]; rfl
  have hneq:a=b→a[k]=b[k]:=fun h=>by subst h; rfl
  have HTA:=Hide.mk hta
  have HTB:=Hide.mk htb
  have HN:=Hide.mk hneq
  clear hta htb hneq hrow hrob ha2 hb2
  generalize a[k]=u at *
  generalize b[k]=v at *
  clear hltb
  have hbad:u≠v→ret=false:=fun h=>by rw [HRET.out]; exact decide_eq_false fun e=>h (HN.out e)
  have HBAD:=Hide.mk hbad
  clear hbad
  by_cases t1:u < v
  ·have hr:=HBAD.out (by omega)
   iterate 6 (all_goals try (first | with_reducible refine splitI (fun h=>?_) (fun h=>?_) | with_reducible refine splitBI (fun h=>?_) (fun h=>?_) | simp (config:={ maxSteps:=1000000 }) (disch:=first | assumption | omega | (simp; done) | fail) [Tryz.results80, *]))
  by_cases t2:v < u
  ·have hr:=HBAD.out (by omega)
   iterate 6 (all_goals try (first | with_reducible refine splitI (fun h=>?_) (fun h=>?_) | with_reducible refine splitBI (fun h=>?_) (fun h=>?_) | simp (config:={ maxSteps:=1000000 }) (disch:=first | assumption | omega | (simp; done) | fail) [Tryz.results80, *]))
  ·have HUV:=Hide.mk (show u=v by omega)
   iterate 6 (all_goals try (first | with_reducible refine splitI (fun h=>?_) (fun h=>?_) | with_reducible refine splitBI (fun h=>?_) (fun h=>?_) | simp (config:={ maxSteps:=1000000 }) (disch:=first | assumption | omega | (simp; done) | fail) [Tryz.results80, *]))
   refine ih.out (a.length - (k+1)) _ _ (by omega) ⟨k+1,by omega,rfl,rfl,⟨?_⟩,by simp [*],by simp [*],by simp⟩
   rw [HTA.out,HTB.out,HPRE.out,HUV.out]
 ·have hltI:¬(k:Int) < (a.length:Int):=by omega
  have hk2:k=a.length:=by omega
  have hr:ret=true:=by
   rw [HRET.out]
   have h1:=HPRE.out
   rw [hk2,List.take_length,← HL.out,List.take_length] at h1
   exact decide_eq_true h1
  clear hk2
  iterate 6 (all_goals try (first | with_reducible refine splitI (fun h=>?_) (fun h=>?_) | with_reducible refine splitBI (fun h=>?_) (fun h=>?_) | simp (config:={ maxSteps:=1000000 }) (disch:=first | assumption | omega | (simp; done) | fail) [Tryz.results80, *]))
theorem rsame_w (a b:List Int) (hal:a.length≤1000000) (hbl:b.length≤1000000) (g:Nat→Option Blk) (n:Nat) (sa sb:AV) (ha:RepW g n a sa) (hb:RepW g n b sb) :
  WC 0 Tryz.prog 29 [sa,sb] ⟨.fn g,n⟩ fun r=>r=.ret (.lit (.bool (decide (a=b)))) ⟨.fn g,n⟩:=by
 have HC:=Hide.mk (rcmp_w a b hal hbl g n sa sb ha hb)
 clear ha hb
 obtain ⟨ret,hret⟩ : ∃ c,c=decide (a=b):=⟨_,rfl⟩
 rw [← hret] at HC ⊢
 clear hret
 refine WC.enterP (noO_ok _ _) hG [] Tryz.func29 rfl (by decide +kernel) (Nat.le_of_ble_eq_true (by kernel_rfl)) ?_
 iterate 6 (all_goals try (first | with_reducible refine splitI (fun h=>?_) (fun h=>?_) | with_reducible refine splitBI (fun h=>?_) (fun h=>?_) | simp (config:={ maxSteps:=1000000 }) (disch:=first | assumption | omega | (simp; done) | fail) [Tryz.results29, *]))
 refine WC.mono HC.out ?_
 rintro _ ⟨z,rfl,hz⟩
 cases ret with
 | true =>
  have hz1:z=0:=of_decide_eq_true hz
  clear hz
  subst hz1
  iterate 6 (all_goals try (first | with_reducible refine splitI (fun h=>?_) (fun h=>?_) | with_reducible refine splitBI (fun h=>?_) (fun h=>?_) | simp (config:={ maxSteps:=1000000 }) (disch:=first | assumption | omega | (simp; done) | fail) [Tryz.results29, *]))
 | false =>
  have hz1:¬z=0:=of_decide_eq_false hz
  clear hz
  iterate 6 (all_goals try (first | with_reducible refine splitI (fun h=>?_) (fun h=>?_) | with_reducible refine splitBI (fun h=>?_) (fun h=>?_) | simp (config:={ maxSteps:=1000000 }) (disch:=first | assumption | omega | (simp; done) | fail) [Tryz.results29, *]))
end Go.Ai
end
section
namespace Go.Ai
open Go.Proofs
set_option maxRecDepth 10000
set_option maxHeartbeats 40000000
theorem rfind_w (l:List (List Int)) (hl:l.length≤1000000) (hw:∀ w∈l,w.length≤1000000) (x:List Int) (hx:x.length≤1000000) (g:Nat→Option Blk) (n:Nat) (sv sx:AV) (svs:List AV) (hsv:SliceV g n sv l.length svs) (hr:RowsW g n l svs) (hsx:RepW g n x sx) :
  WC 0 Tryz.prog 57 [sv,sx] ⟨.fn g,n⟩ fun r=>∃ z:Int,r=.ret (.lit (.int .i64 z)) ⟨.fn g,n⟩∧decide (0≤z)=decide (x∈l):=by
 have hlen:=@lenV Tryz.prog _ _ _ _ _ hsv
 have HS:=Hide.mk hsv
 have HR:=Hide.mk hr
 have HW:=Hide.mk hw
 have HX:=Hide.mk hsx
 clear hsv hr hw hsx
 obtain ⟨ret,hret⟩ : ∃ c,c=decide (x∈l):=⟨_,rfl⟩
 rw [← hret]
 have HRET:=Hide.mk hret
 clear hret
 refine WC.enterP (noO_ok _ _) hG [] Tryz.func57 rfl (by decide +kernel) (Nat.le_of_ble_eq_true (by kernel_rfl)) ?_
 iterate 6 (all_goals try (first | with_reducible refine splitI (fun h=>?_) (fun h=>?_) | with_reducible refine splitBI (fun h=>?_) (fun h=>?_) | simp (config:={ maxSteps:=1000000 }) (disch:=first | assumption | omega | (simp; done) | fail) [Tryz.results57, *]))
 refine LX.ind (fun m gf H'=>∃ (k:Nat),k≤l.length∧m=l.length - k∧H'=⟨.fn g,n⟩∧Hide (∀ w∈l.take k,w≠x)∧gf 0=some sv∧gf 1=some sx∧gf 5=some (.lit (.int .i64 k))) (m0:=l.length) ?_ ?_
 ·exact ⟨0,Nat.zero_le _,rfl,rfl,⟨by simp⟩,by simp,by simp,by simp⟩
 rintro m gf H' ⟨k,hk,rfl,rfl,HPRE,w0,w1,w5⟩ ih
 refine LX.roundP (noO_ok _ _) hG [] (by decide +kernel) ?_
 by_cases hlt:k < l.length
 ·have hltI:(k:Int) < (l.length:Int):=by omega
  obtain ⟨q1,hw1,hrep⟩:=HR.out.2 k hlt
  obtain ⟨a2,off,ha2,hrow,hia⟩:=HS.out.ia (P:=Tryz.prog) hlt 1
  simp only [Nat.mul_one] at hia
  have hkl:k < svs.length:=(List.getElem?_eq_some_iff.1 hw1).1
  have hcell:=hrow.one (k:=k) (s:=1) hkl
  rw [(List.getElem?_eq_some_iff.1 hw1).2] at hcell
  have htk:l.take (k+1)=l.take k++[l[k]]:=by rw [List.take_succ,List.getElem?_eq_getElem hlt]; rfl
  have hS:=rsame_w l[k] x (HW.out _ (List.getElem_mem hlt)) hx g n q1 sx hrep HX.out
  have HSM:=Hide.mk hS
  have HT:=Hide.mk htk
  have HM:=Hide.mk (List.getElem_mem hlt)
  clear htk hrow hrep hw1 ha2 hS
  generalize l[k]=w at *
  iterate 6 (all_goals try (first | with_reducible refine splitI (fun h=>?_) (fun h=>?_) | with_reducible refine splitBI (fun h=>?_) (fun h=>?_) | simp (config:={ maxSteps:=1000000 }) (disch:=first | assumption | omega | (simp; done) | fail) [Tryz.results57, *]))
  refine WC.mono HSM.out ?_
  rintro _ rfl
  by_cases he:w=x
  ·have hr:ret=true:=by rw [HRET.out]; exact decide_eq_true (he ▸ HM.out)
   have hd:decide (w=x)=true:=decide_eq_true he
   rw [hd]
   clear he
   iterate 6 (all_goals try (first | with_reducible refine splitI (fun h=>?_) (fun h=>?_) | with_reducible refine splitBI (fun h=>?_) (fun h=>?_) | simp (config:={ maxSteps:=1000000 }) (disch:=first | assumption | omega | (simp; done) | fail) [Tryz.results57, *]))
  ·have hd:decide (w=x)=false:=decide_eq_false he
   rw [hd]
   have HE:=Hide.mk he
   clear he
   iterate 6 (all_goals try (first | with_reducible refine splitI (fun h=>?_) (fun h=>?_) | with_reducible refine splitBI (fun h=>?_) (fun h=>?_) | simp (config:={ maxSteps:=1000000 }) (disch:=first | assumption | omega | (simp; done) | fail) [Tryz.results57, *]))
   refine ih.out (l.length - (k+1)) _ _ (by omega) ⟨k+1,by omega,rfl,rfl,⟨fun v hv=>?_⟩,by simp [*],by simp [*],by simp⟩
   rw [HT.out] at hv
   rcases List.mem_append.1 hv with h | h
   ·exact HPRE.out v h
   ·rw [List.mem_singleton.1 h]; exact HE.out
 ·have hltI:¬(k:Int) < (l.length:Int):=by omega
  have hk2:k=l.length:=by omega
  have hr:ret=false:=by
   rw [HRET.out]
   have h1:=HPRE.out
   rw [hk2,List.take_length] at h1
   exact decide_eq_false fun h=>h1 x h rfl
  clear hk2
  iterate 6 (all_goals try (first | with_reducible refine splitI (fun h=>?_) (fun h=>?_) | with_reducible refine splitBI (fun h=>?_) (fun h=>?_) | simp (config:={ maxSteps:=1000000 }) (disch:=first | assumption | omega | (simp; done) | fail) [Tryz.results57, *]))
theorem wC1_w (x q:Int) (p:Nat) (g:Nat→Option Blk) (n:Nat) (hp:g p=some (.cells [.lit (.int .i64 q)] true 0)) (hpn:p < n) :
  WC 0 Tryz.prog 125 [.lit (.int .i64 x),.ptr p 0] ⟨.fn g,n⟩ fun r=>r=.ret (.lit (.bool (decide (¬(0≤x∧x < q))))) ⟨.fn g,n⟩:=by
 by_cases t1:x < 0
 ·have hd:decide (¬(0≤x∧x < q))=true:=decide_eq_true (by omega)
  rw [hd]
  refine WC.enterP (noO_ok _ _) hG [] Tryz.func125 rfl (by decide +kernel) (Nat.le_of_ble_eq_true (by kernel_rfl)) ?_
  iterate 6 (all_goals try (first | with_reducible refine splitI (fun h=>?_) (fun h=>?_) | with_reducible refine splitBI (fun h=>?_) (fun h=>?_) | simp (config:={ maxSteps:=1000000 }) (disch:=first | assumption | omega | (simp; done) | fail) [Tryz.results125, *]))
 by_cases t2:q≤x
 ·have hd:decide (¬(0≤x∧x < q))=true:=decide_eq_true (by omega)
  rw [hd]
  refine WC.enterP (noO_ok _ _) hG [] Tryz.func125 rfl (by decide +kernel) (Nat.le_of_ble_eq_true (by kernel_rfl)) ?_
  iterate 6 (all_goals try (first | with_reducible refine splitI (fun h=>?_) (fun h=>?_) | with_reducible refine splitBI (fun h=>?_) (fun h=>?_) | simp (config:={ maxSteps:=1000000 }) (disch:=first | assumption | omega | (simp; done) | fail) [Tryz.results125, *]))
 ·have hd:decide (¬(0≤x∧x < q))=false:=decide_eq_false (by omega)
  rw [hd]
  refine WC.enterP (noO_ok _ _) hG [] Tryz.func125 rfl (by decide +kernel) (Nat.le_of_ble_eq_true (by kernel_rfl)) ?_
  iterate 6 (all_goals try (first | with_reducible refine splitI (fun h=>?_) (fun h=>?_) | with_reducible refine splitBI (fun h=>?_) (fun h=>?_) | simp (config:={ maxSteps:=1000000 }) (disch:=first | assumption | omega | (simp; done) | fail) [Tryz.results125, *]))
theorem iFunc_w (w:List Int) (hwl:w.length≤1000000) (q:Int) (sv:AV) (p:Nat) (g:Nat→Option Blk) (n:Nat) (hp:g p=some (.cells [.lit (.int .i64 q)] true 0)) (hpn:p < n) (hsv:RepW g n w sv) :
  WC 0 Tryz.prog 143 [sv,.func (.func 125) [] [.ptr p 0]] ⟨.fn g,n⟩ fun r=>∃ z:Int,r=.ret (.lit (.int .i64 z)) ⟨.fn g,n⟩∧decide (0≤z) = !(w.all fun i=>decide (0≤i∧i < q)):=by
 have hlen:=@lenV Tryz.prog _ _ _ _ _ hsv
 have HS:=Hide.mk hsv
 have HP:=Hide.mk hp
 clear hsv hp
 obtain ⟨ret,hret⟩ : ∃ b,b = !(w.all fun i=>decide (0≤i∧i < q)):=⟨_,rfl⟩
 rw [← hret]
 have HRET:=Hide.mk hret
 clear hret
 refine WC.enterP (noO_ok _ _) hG [] Tryz.func143 rfl (by decide +kernel) (Nat.le_of_ble_eq_true (by kernel_rfl)) ?_
 iterate 6 (all_goals try (first | with_reducible refine splitI (fun h=>?_) (fun h=>?_) | with_reducible refine splitBI (fun h=>?_) (fun h=>?_) | simp (config:={ maxSteps:=1000000 }) (disch:=first | assumption | omega | (simp; done) | fail) [Tryz.results143, *]))
 refine LX.ind (fun m gf H'=>∃ (k:Nat),k≤w.length∧m=w.length - k∧H'=⟨.fn g,n⟩∧Hide (∀ i∈w.take k,0≤i∧i < q) ∧
  gf 0=some sv∧gf 1=some (.func (.func 125) [] [.ptr p 0])∧gf 7=some (.lit (.int .i64 w.length))∧gf 8=some (.lit (.int .i64 k))) (m0:=w.length) ?_ ?_
 ·exact ⟨0,Nat.zero_le _,rfl,rfl,⟨by simp⟩,by simp,by simp,by simp,by simp⟩
 rintro m gf H' ⟨k,hk,rfl,rfl,HPRE,w0,w1,w7,w8⟩ ih
 refine LX.roundP (noO_ok _ _) hG [] (by decide +kernel) ?_
 by_cases hlt:k < w.length
 ·have hltI:(k:Int) < (w.length:Int):=by omega
  obtain ⟨a2,off,ha2,hrow,hia⟩:=SliceV.ia (P:=Tryz.prog) HS.out hlt 1
  simp only [Nat.mul_one] at hia
  have hcell:=hrow.one (k:=k) (s:=1) (by rw [wdC_len]; exact hlt)
  rw [(List.getElem?_eq_some_iff.1 (wdC_at w k hlt)).2] at hcell
  have htk:w.take (k+1)=w.take k++[w[k]]:=by rw [List.take_succ,List.getElem?_eq_getElem hlt]; rfl
  have HT:=Hide.mk htk
  have HM:=Hide.mk (List.getElem_mem hlt)
  clear htk hrow ha2
  generalize w[k]=x at *
  have HC:=Hide.mk (wC1_w x q p g n HP.out hpn)
  iterate 6 (all_goals try (first | with_reducible refine splitI (fun h=>?_) (fun h=>?_) | with_reducible refine splitBI (fun h=>?_) (fun h=>?_) | simp (config:={ maxSteps:=1000000 }) (disch:=first | assumption | omega | (simp; done) | fail) [Tryz.results143, *]))
  refine WC.mono HC.out ?_
  rintro _ rfl
  by_cases hb:0≤x∧x < q
  ·have hd:decide (¬(0≤x∧x < q))=false:=decide_eq_false (by omega)
   rw [hd]
   have HB:=Hide.mk hb
   clear hb
   iterate 6 (all_goals try (first | with_reducible refine splitI (fun h=>?_) (fun h=>?_) | with_reducible refine splitBI (fun h=>?_) (fun h=>?_) | simp (config:={ maxSteps:=1000000 }) (disch:=first | assumption | omega | (simp; done) | fail) [Tryz.results143, *]))
   refine ih.out (w.length - (k+1)) _ _ (by omega) ⟨k+1,by omega,rfl,rfl,⟨fun i hi=>?_⟩,by simp [*],by simp [*],by simp [*],by simp⟩
   rw [HT.out] at hi
   rcases List.mem_append.1 hi with h | h
   ·exact HPRE.out i h
   ·rw [List.mem_singleton.1 h]; exact HB.out
  ·have hd:decide (¬(0≤x∧x < q))=true:=decide_eq_true hb
   rw [hd]
   have hr:ret=true:=by
    rw [HRET.out,Bool.not_eq_true',List.all_eq_false]
    exact ⟨x,HM.out,by simpa using hb⟩
   clear hb
   iterate 6 (all_goals try (first | with_reducible refine splitI (fun h=>?_) (fun h=>?_) | with_reducible refine splitBI (fun h=>?_) (fun h=>?_) | simp (config:={ maxSteps:=1000000 }) (disch:=first | assumption | omega | (simp; done) | fail) [Tryz.results143, *]))
 ·have hltI:¬(k:Int) < (w.length:Int):=by omega
  have hk2:k=w.length:=by omega
  have hr:ret=false:=by
   rw [HRET.out,Bool.not_eq_false',List.all_eq_true]
   intro i hi
   have:=HPRE.out i (by rw [hk2,List.take_length]; exact hi)
   simpa using this
  clear hk2
  iterate 6 (all_goals try (first | with_reducible refine splitI (fun h=>?_) (fun h=>?_) | with_reducible refine splitBI (fun h=>?_) (fun h=>?_) | simp (config:={ maxSteps:=1000000 }) (disch:=first | assumption | omega | (simp; done) | fail) [Tryz.results143, *]))
theorem cFunc_w (w:List Int) (hwl:w.length≤1000000) (q:Int) (sv:AV) (p:Nat) (g:Nat→Option Blk) (n:Nat) (hp:g p=some (.cells [.lit (.int .i64 q)] true 0)) (hpn:p < n) (hsv:RepW g n w sv) :
  WC 0 Tryz.prog 124 [sv,.func (.func 125) [] [.ptr p 0]] ⟨.fn g,n⟩ fun r=>r=.ret (.lit (.bool (!(w.all fun i=>decide (0≤i∧i < q))))) ⟨.fn g,n⟩:=by
 have HI:=Hide.mk (iFunc_w w hwl q sv p g n hp hpn hsv)
 clear hp hsv
 generalize (!(w.all fun i=>decide (0≤i∧i < q)))=bb at *
 refine WC.enterP (noO_ok _ _) hG [] Tryz.func124 rfl (by decide +kernel) (Nat.le_of_ble_eq_true (by kernel_rfl)) ?_
 iterate 6 (all_goals try (first | with_reducible refine splitI (fun h=>?_) (fun h=>?_) | with_reducible refine splitBI (fun h=>?_) (fun h=>?_) | simp (config:={ maxSteps:=1000000 }) (disch:=first | assumption | omega | (simp; done) | fail) [Tryz.results124, *]))
 refine WC.mono HI.out ?_
 rintro _ ⟨z,rfl,hz⟩
 cases bb with
 | true =>
  have hz1:0≤z:=of_decide_eq_true hz
  clear hz
  iterate 6 (all_goals try (first | with_reducible refine splitI (fun h=>?_) (fun h=>?_) | with_reducible refine splitBI (fun h=>?_) (fun h=>?_) | simp (config:={ maxSteps:=1000000 }) (disch:=first | assumption | omega | (simp; done) | fail) [Tryz.results124, *]))
 | false =>
  have hz1:¬0≤z:=of_decide_eq_false hz
  clear hz
  iterate 6 (all_goals try (first | with_reducible refine splitI (fun h=>?_) (fun h=>?_) | with_reducible refine splitBI (fun h=>?_) (fun h=>?_) | simp (config:={ maxSteps:=1000000 }) (disch:=first | assumption | omega | (simp; done) | fail) [Tryz.results124, *]))
end Go.Ai
end
section
namespace Go.Ai
open Go.Proofs
set_option maxRecDepth 10000
set_option maxHeartbeats 40000000
def inW (w:List Int) (q:Int) : Bool:=w.all fun i=>decide (0≤i∧i < q)
def wErr (w:List Int) (q:Int) : Int:=if q > 16∨w.length > 256 then 3 else if q < 1∨inW w q=false then 1 else 0
theorem wCheck_w (w:List Int) (hwl:w.length≤1000000) (q:Int) (g:Nat→Option Blk) (n:Nat) (sv:AV) (hsv:RepW g n w sv) :
  WC 0 Tryz.prog 77 [sv,.lit (.int .i64 q)] ⟨.fn g,n⟩ fun r=>r=.ret (.lit (.int .i64 (wErr w q))) ⟨.fn g,n⟩:=by
 refine WC.drop1 rfl ?_
 have hlen:=@lenV Tryz.prog _ _ _ _ _ hsv
 have HS:=Hide.mk hsv
 clear hsv
 by_cases t1:q > 16
 ·have he:wErr w q=3:=by unfold wErr; rw [if_pos (.inl t1)]
  rw [he]
  refine WC.enterP (noO_ok _ _) hG [] Tryz.func77 rfl (by decide +kernel) (Nat.le_of_ble_eq_true (by kernel_rfl)) ?_
  iterate 6 (all_goals try (first | with_reducible refine splitI (fun h=>?_) (fun h=>?_) | with_reducible refine splitBI (fun h=>?_) (fun h=>?_) | simp (config:={ maxSteps:=1000000 }) (disch:=first | assumption | omega | (simp; done) | fail) [Tryz.results77, *]))
  all_goals exact ⟨Nat.le_succ n,fun b hb=>gput_lt hb⟩
 by_cases t2:w.length > 256
 ·have he:wErr w q=3:=by unfold wErr; rw [if_pos (.inr t2)]
  rw [he]
  have t2I:256 < (w.length:Int):=by omega
  refine WC.enterP (noO_ok _ _) hG [] Tryz.func77 rfl (by decide +kernel) (Nat.le_of_ble_eq_true (by kernel_rfl)) ?_
  iterate 6 (all_goals try (first | with_reducible refine splitI (fun h=>?_) (fun h=>?_) | with_reducible refine splitBI (fun h=>?_) (fun h=>?_) | simp (config:={ maxSteps:=1000000 }) (disch:=first | assumption | omega | (simp; done) | fail) [Tryz.results77, *]))
  all_goals exact ⟨Nat.le_succ n,fun b hb=>gput_lt hb⟩
 have t2I:¬256 < (w.length:Int):=by omega
 by_cases t3:q < 1
 ·have he:wErr w q=1:=by unfold wErr; rw [if_neg (by omega),if_pos (.inl t3)]
  rw [he]
  refine WC.enterP (noO_ok _ _) hG [] Tryz.func77 rfl (by decide +kernel) (Nat.le_of_ble_eq_true (by kernel_rfl)) ?_
  iterate 6 (all_goals try (first | with_reducible refine splitI (fun h=>?_) (fun h=>?_) | with_reducible refine splitBI (fun h=>?_) (fun h=>?_) | simp (config:={ maxSteps:=1000000 }) (disch:=first | assumption | omega | (simp; done) | fail) [Tryz.results77, *]))
  all_goals exact ⟨Nat.le_succ n,fun b hb=>gput_lt hb⟩
 have HC:=Hide.mk (cFunc_w w hwl q sv n (gput g n (some (.cells [.lit (.int .i64 q)] true 0))) (n+1) gput_eq (by omega) (HS.out.mono (by omega) fun a ha=>gput_lt ha))
 have he:wErr w q=if inW w q=false then 1 else 0:=by
  unfold wErr; rw [if_neg (by omega)]
  by_cases h:inW w q=false
  ·rw [if_pos (.inr h),if_pos h]
  ·rw [if_neg (fun h2=>h2.elim t3 h),if_neg h]
 rw [he]
 clear he
 have hin:(w.all fun i=>decide (0≤i∧i < q))=inW w q:=rfl
 rw [hin] at HC
 clear hin
 generalize inW w q=bb at *
 refine WC.enterP (noO_ok _ _) hG [] Tryz.func77 rfl (by decide +kernel) (Nat.le_of_ble_eq_true (by kernel_rfl)) ?_
 iterate 6 (all_goals try (first | with_reducible refine splitI (fun h=>?_) (fun h=>?_) | with_reducible refine splitBI (fun h=>?_) (fun h=>?_) | simp (config:={ maxSteps:=1000000 }) (disch:=first | assumption | omega | (simp; done) | fail) [Tryz.results77, *]))
 refine WC.mono HC.out ?_
 rintro _ rfl
 cases bb
 all_goals
  iterate 6 (all_goals try (first | with_reducible refine splitI (fun h=>?_) (fun h=>?_) | with_reducible refine splitBI (fun h=>?_) (fun h=>?_) | simp (config:={ maxSteps:=1000000 }) (disch:=first | assumption | omega | (simp; done) | fail) [Tryz.results77, *]))
  all_goals exact ⟨Nat.le_succ n,fun b hb=>gput_lt hb⟩
def kb (i:Int) : AV:=.lit (.int .u8 (i+1))
def kCells (w:List Int) (k:Nat) : List AV:=(w.take k).map kb++List.replicate (w.length - k) (.lit (.int .u8 0))
theorem kCells_len (w:List Int) (k:Nat) (h:k≤w.length) : (kCells w k).length=w.length:=by
 unfold kCells; rw [List.length_append,List.length_map,List.length_take,List.length_replicate]; omega
theorem kCells_set (w:List Int) (k:Nat) (h:k < w.length) : (kCells w k).set k (kb w[k])=kCells w (k+1):=by
 unfold kCells
 have e1:((w.take k).map kb).length=k:=by rw [List.length_map,List.length_take]; omega
 rw [List.set_append_right _ _ (by omega),e1,Nat.sub_self,show w.length - k=(w.length - (k+1))+1 by omega,List.replicate_succ,List.set_cons_zero,List.take_succ,List.getElem?_eq_getElem h]
 simp only [Option.toList_some,List.map_append,List.map_cons,List.map_nil,List.append_assoc,List.cons_append,List.nil_append]
theorem kCells_all (w:List Int) : kCells w w.length=w.map kb:=by
 unfold kCells; rw [List.take_length,Nat.sub_self]; simp
def keyB (w:List Int) : List UInt8:=w.map fun i=>UInt8.ofNat (i+1).toNat
theorem bytes_key:∀ (w:List Int),bytesOf (w.map kb)=some (keyB w)
 | []=>rfl
 | i :: w=>by
  show bytesOf (.lit (.int .u8 (i+1)) :: w.map kb)=_
  rw [bytesOf_u8,bytes_key w,consB_some]; rfl
def keyS (w:List Int) : ByteArray:=⟨(keyB w).toArray⟩
theorem wrap_u8i {a:Int} (h1:0≤a) (h2:a≤255) : IntKind.u8.wrap a=a:=by
 have:=wrap_u8 (m:=a.toNat) (by omega)
 rwa [show (Int.ofNat a.toNat)=a by simp; omega] at this
theorem mk42:mkI Tryz.prog 42=some (.lit (.int .u8 0)):=by kernel_rfl
attribute [simp] mk42
theorem key_w (w:List Int) (hwl:w.length≤300) (hin:∀ i∈w,0≤i∧i < 16) (g:Nat→Option Blk) (n:Nat) (sv:AV) (hsv:RepW g n w sv) :
  WC 0 Tryz.prog 52 [sv] ⟨.fn g,n⟩ fun r=>r=.ret (.lit (.string (keyS w))) ⟨.fn g,n⟩:=by
 refine WC.drop1 rfl ?_
 have hlen:=@lenV Tryz.prog _ _ _ _ _ hsv
 have HS:=Hide.mk hsv
 have HIN:=Hide.mk hin
 clear hsv hin
 refine WC.enterP (noO_ok _ _) hG [] Tryz.func52 rfl (by decide +kernel) (Nat.le_of_ble_eq_true (by kernel_rfl)) ?_
 iterate 6 (all_goals try (first | with_reducible refine splitI (fun h=>?_) (fun h=>?_) | with_reducible refine splitBI (fun h=>?_) (fun h=>?_) | simp (config:={ maxSteps:=1000000 }) (disch:=first | assumption | omega | (simp; done) | fail) [Tryz.results52, *]))
 refine LX.ind (fun m gf H'=>∃ (k:Nat) (gL:Nat→Option Blk) (L:List AV),k≤w.length∧m=w.length - k∧H'=⟨.fn gL,n+1⟩∧Hide (∀ b,b < n→gL b=g b)∧gL n=some (.cells L true 0)∧Hide (L=kCells w k) ∧
  gf 3=some (.sl n 0 w.length w.length)∧gf 9=some sv∧gf 10=some (.lit (.int .i64 w.length))∧gf 11=some (.lit (.int .i64 k))) (m0:=w.length) ?_ ?_
 ·refine ⟨0,_,_,Nat.zero_le _,rfl,rfl,⟨fun b hb=>gput_lt hb⟩,gput_eq,⟨?_⟩,by simp,by simp,by simp,by simp⟩
  simp [kCells]
 rintro m gf H' ⟨k,gL,L,hk,rfl,rfl,HG,hgn,HL,w3,w9,w10,w11⟩ ih
 have hLl:L.length=w.length:=by rw [HL.out]; exact kCells_len w k hk
 refine LX.roundP (noO_ok _ _) hG [] (by decide +kernel) ?_
 by_cases hlt:k < w.length
 ·have hltI:(k:Int) < (w.length:Int):=by omega
  obtain ⟨a2,off,ha2,hrow,hia⟩:=SliceV.ia (P:=Tryz.prog) HS.out hlt 1
  simp only [Nat.mul_one] at hia
  have hcell:=(hrow.mono (HG.out a2 ha2)).one (k:=k) (s:=1) (by rw [wdC_len]; exact hlt)
  rw [(List.getElem?_eq_some_iff.1 (wdC_at w k hlt)).2] at hcell
  have hb:=HIN.out _ (List.getElem_mem hlt)
  have hset:=kCells_set w k hlt
  rw [← HL.out] at hset
  have HSET:=Hide.mk hset
  clear hset hrow
  generalize w[k]=x at *
  have hw8:IntKind.u8.wrap (x+1)=x+1:=wrap_u8i (by omega) (by omega)
  have hkL:k < L.length:=by omega
  iterate 6 (all_goals try (first | with_reducible refine splitI (fun h=>?_) (fun h=>?_) | with_reducible refine splitBI (fun h=>?_) (fun h=>?_) | simp (config:={ maxSteps:=1000000 }) (disch:=first | assumption | omega | (simp; done) | fail) [Tryz.results52, *]))
  refine ih.out (w.length - (k+1)) _ _ (by omega) ⟨k+1,_,L.set k (kb x),by omega,rfl,rfl,⟨fun b hb=>(gput_lt hb).trans (HG.out b hb)⟩,gput_eq,⟨HSET.out⟩,by simp [*],by simp [*],by simp [*],by simp⟩
 ·have hltI:¬(k:Int) < (w.length:Int):=by omega
  have hk2:k=w.length:=by omega
  have hby:bytesOf (List.take w.length L)=some (keyB w):=by rw [List.take_of_length_le (by omega),HL.out,hk2,kCells_all]; exact bytes_key w
  clear hk2
  iterate 6 (all_goals try (first | with_reducible refine splitI (fun h=>?_) (fun h=>?_) | with_reducible refine splitBI (fun h=>?_) (fun h=>?_) | simp (config:={ maxSteps:=1000000 }) (disch:=first | assumption | omega | (simp; done) | fail) [Tryz.results52, *]))
  exact ⟨_,⟨rfl,rfl⟩,Nat.le_succ n,fun b hb=>HG.out b hb⟩
end Go.Ai
end
section
namespace Go.Ai
open Go.Proofs
set_option maxRecDepth 10000
set_option maxHeartbeats 40000000
theorem inSet_zip (s:ByteArray) (l:List ByteArray) (i:Nat) : inSet s (l.zipIdx i)=l.contains s:=by
 haveI:=ba_lawful
 induction l generalizing i with
 | nil=>rfl
 | cons b l ih =>
  have:=ih (i+1)
  unfold inSet at this ⊢
  rw [List.zipIdx_cons,List.any_cons,this,List.contains_cons]
  by_cases h:b=s
  ·subst h; simp
  ·have h2:¬(s=b):=fun e=>h e.symm
   simp [h,h2]
theorem wErr_ok {w:List Int} {q:Int} (h:wErr w q=0) : w.length≤256∧∀ i∈w,0≤i∧i < 16:=by
 unfold wErr at h
 split at h
 ·cases h
 ·rename_i h1
  split at h
  ·cases h
  ·rename_i h2
   have h3:inW w q=true:=by
    cases hb:inW w q with
    | true=>rfl
    | false=>exact absurd (.inr hb) h2
   refine ⟨by omega,fun i hi=>?_⟩
   have h4:=List.all_eq_true.1 h3 i hi
   have h5:0≤i∧i < q:=by simpa using h4
   omega
theorem Row.takes {g:Nat→Option Blk} {a off:Nat} {cs:List AV} (h:Row g a off cs) (m:Nat) : Row g a off (cs.take m):=by
 obtain ⟨l,own,z,h1,h2,h3⟩:=h
 refine ⟨l,own,z,h1,?_,?_⟩
 ·rw [List.length_take]; omega
 ·rw [List.length_take]
  have:(List.take cs.length (List.drop off l)).take m=cs.take m:=by rw [h3]
  rw [List.take_take] at this
  simpa [Nat.min_comm] using this
def keysW (l:List (List Int)) : List ByteArray:=l.map keyS
def accOK (q:Int) (S:List (List Int)) (k:Nat) (w:List Int) : Bool :=
 decide (k=0↔w.length=0) && decide (wErr w q=0) && !((keysW (S.take k)).contains (keyS w)) && (decide (k=0) || (keysW (S.take k)).contains (keyS (w.take (w.length - 1))))
def accB (q:Int) (S:List (List Int)) : Bool:=((List.range S.length).all fun j=>accOK q S j (S.getD j [])) && decide (0 < S.length)
def CapV (sv:AV) : Prop:=∀ a o n c,sv=.sl a o n c→n≤c
theorem wdC_take (w:List Int) (m:Nat) : wdC (w.take m)=(wdC w).take m:=by simp [wdC,List.map_take]
theorem keys_snoc (l:List (List Int)) (w:List Int) {k:Nat} (h:l.length=k) : sset ((keysW (l++[w])).zipIdx)=sset ((keysW l).zipIdx++[(keyS w,k)]):=by
 unfold keysW
 rw [List.map_append,List.zipIdx_append,List.length_map,h]; simp
theorem access_w (q c1 c4 c5:Int) (c3 c6:AV) (h3:oneC c3=true) (h6:oneC c6=true) (S:List (List Int)) (hl:S.length≤1000000) (hw:∀ w∈S,w.length≤1000000) (g:Nat→Option Blk) (n:Nat) (sv:AV) (svs:List AV) (hsv:SliceV g n sv S.length svs) (hr:RowsW g n S svs) (hcap:∀ q∈svs,CapV q) :
  WC 0 Tryz.prog 88 [.agg [.lit (.int .i64 q),.lit (.int .i64 c1),sv,c3,.lit (.int .i64 c4),.lit (.int .i64 c5),c6]] ⟨.fn g,n⟩ fun r=>r=.ret (.lit (.bool (accB q S))) ⟨.fn g,n⟩:=by
 refine WC.drop1 rfl ?_
 have hlen:=@lenV Tryz.prog _ _ _ _ _ hsv
 have h1s:=hsv.one
 have hone:allOne [.lit (.int .i64 q),.lit (.int .i64 c1),sv,c3,.lit (.int .i64 c4),.lit (.int .i64 c5),c6]=true:=by simp [h1s,h3,h6]
 have HS:=Hide.mk hsv
 have HR:=Hide.mk hr
 have HW:=Hide.mk hw
 have HCAP:=Hide.mk hcap
 clear hsv hr hw hcap
 obtain ⟨ret,hret⟩ : ∃ b,b=accB q S:=⟨_,rfl⟩
 rw [← hret]
 have HRET:=Hide.mk hret
 clear hret
 refine WC.enterP (noO_ok _ _) hG [] Tryz.func88 rfl (by decide +kernel) (Nat.le_of_ble_eq_true (by kernel_rfl)) ?_
 iterate 8 (all_goals try (first | with_reducible refine splitI (fun h=>?_) (fun h=>?_) | with_reducible refine splitBI (fun h=>?_) (fun h=>?_) | simp (config:={ maxSteps:=1000000 }) (disch:=first | assumption | omega | (simp; done) | fail) [Tryz.results88, *]))
 refine LX.ind (fun m gf H'=>∃ (k:Nat) (gL:Nat→Option Blk),k≤S.length∧m=S.length - k∧H'=⟨.fn gL,n+1+1⟩∧Hide (∀ b,b < n→gL b=g b)∧gL n=some (.cells [.lit (.int .i64 q),.lit (.int .i64 c1),sv,c3,.lit (.int .i64 c4),.lit (.int .i64 c5),c6] true 0)∧gL (n+1)=some (.map (sset ((keysW (S.take k)).zipIdx)) k) ∧
  Hide (∀ j,j < k→accOK q S j (S.getD j [])=true)∧gf 1=some (.ptr n 0)∧gf 3=some (.map (n+1))∧gf 8=some sv∧gf 9=some (.lit (.int .i64 S.length))∧gf 10=some (.lit (.int .i64 k))) (m0:=S.length) ?_ ?_
 ·refine ⟨0,_,Nat.zero_le _,rfl,rfl,⟨fun b hb=>(gput_lt (by omega)).trans (gput_lt hb)⟩,(gput_lt (by omega)).trans gput_eq,gput_eq,⟨fun j hj=>by omega⟩,by simp,by simp,by simp,by simp,by simp⟩
 rintro m gf H' ⟨k,gL,hk,rfl,rfl,HG,hgn,hgm,HPRE,w1,w3,w8,w9,w10⟩ ih
 refine LX.roundP (noO_ok _ _) hG [] (by decide +kernel) ?_
 by_cases hlt:k < S.length
 ·have hltI:(k:Int) < (S.length:Int):=by omega
  obtain ⟨q1,hw1,hrep⟩:=HR.out.2 k hlt
  obtain ⟨a2,off,ha2,hrow,hia⟩:=HS.out.ia (P:=Tryz.prog) hlt 1
  simp only [Nat.mul_one] at hia
  have hkl:k < svs.length:=(List.getElem?_eq_some_iff.1 hw1).1
  have hcell:=(hrow.mono (HG.out a2 ha2)).one (k:=k) (s:=1) hkl
  rw [(List.getElem?_eq_some_iff.1 hw1).2] at hcell
  have hrep' : RepW gL (n+1+1) S[k] q1:=SliceV.mono (by omega) (fun a ha=>HG.out a ha) hrep
  have hlw:=@lenV Tryz.prog _ _ _ _ _ hrep
  have hgd:S.getD k []=S[k]:=by rw [List.getD_eq_getElem?_getD,List.getElem?_eq_getElem hlt]; rfl
  have htk:S.take (k+1)=S.take k++[S[k]]:=by rw [List.take_succ,List.getElem?_eq_getElem hlt]; rfl
  have hbad:accOK q S k S[k]=false→ret=false:=fun h=>by
   rw [HRET.out]
   unfold accB
   rw [Bool.and_eq_false_iff]
   left
   rw [List.all_eq_false]
   exact ⟨k,by simp [hlt],by rw [hgd,h]; simp⟩
  have hnext:accOK q S k S[k]=true→∀ j,j < k+1→accOK q S j (S.getD j [])=true:=fun h j hj=>by
   by_cases e:j=k
   ·subst e; rw [hgd]; exact h
   ·exact HPRE.out j (by omega)
  have hwl:=HW.out _ (List.getElem_mem hlt)
  have hcq:CapV q1:=HCAP.out q1 (List.mem_of_getElem? hw1)
  have HCQ:=Hide.mk hcq
  clear hcq
  have HREP:=Hide.mk hrep'
  have HT:=Hide.mk htk
  have HB:=Hide.mk hbad
  have HN:=Hide.mk hnext
  clear htk hrow hrep hrep' hw1 ha2 hbad hnext hgd
  generalize S[k]=w at *
  have hks:=Hide.mk (inSet_zip (keyS w) (keysW (S.take k)) 0)
  have HC:=Hide.mk (wCheck_w w hwl q gL (n+1+1) q1 HREP.out)
  have hbad1:¬(k=0↔w.length=0)→ret=false:=fun h=>HB.out (by unfold accOK; rw [decide_eq_false h,Bool.false_and,Bool.false_and,Bool.false_and])
  have HB1:=Hide.mk hbad1
  clear hbad1
  have hbad2:¬wErr w q=0→ret=false:=fun h=>HB.out (by unfold accOK; rw [decide_eq_false h,Bool.and_false,Bool.false_and,Bool.false_and])
  have HB2:=Hide.mk hbad2
  clear hbad2
  by_cases hk0:k=0
  ·subst hk0
   have hia0:∀ {H:Mem} {ev:Ev} {o:Oper} {t:TypeId},iaS Tryz.prog H ev o t (some (none,1)) (some sv) (some (.lit (.int .i64 0)))=.val (.ptr a2 off) H:=fun {H ev o t}=>hia
   have hcell0:loadB (some (false,1)) (gL a2) off=some q1:=hcell
   have hlt0:(0:Int) < (S.length:Int):=by omega
   clear hia hcell
   by_cases hw0:w.length=0
   ·have hwI:(w.length:Int)=0:=by omega
    iterate 8 (all_goals try (first | with_reducible refine splitI (fun h=>?_) (fun h=>?_) | with_reducible refine splitBI (fun h=>?_) (fun h=>?_) | simp (config:={ maxSteps:=1000000 }) (disch:=first | assumption | omega | (simp; done) | fail) [Tryz.results88, *]))
    refine WC.mono HC.out ?_
    rintro _ rfl
    by_cases he:wErr w q=0
    ·obtain ⟨hw256,hwin⟩:=wErr_ok he
     have HKEY:=Hide.mk (key_w w (by omega) hwin gL (n+1+1) q1 HREP.out)
     clear hwin
     have HEND:Hide (accOK q S 0 w=true):=⟨by
      unfold accOK
      rw [decide_eq_true (by omega:0=0↔w.length=0),decide_eq_true he,decide_eq_true rfl]; simp [keysW]⟩
     rw [he]
     have hgm0:gL (n+1)=some (Blk.map (sset []) 0):=hgm
     have hin0:inSet (keyS w) []=false:=rfl
     clear hgm
     iterate 8 (all_goals try (first | with_reducible refine splitI (fun h=>?_) (fun h=>?_) | with_reducible refine splitBI (fun h=>?_) (fun h=>?_) | simp (config:={ maxSteps:=1000000 }) (disch:=first | assumption | omega | (simp; done) | fail) [Tryz.results88, *]))
     refine WC.mono HKEY.out ?_
     rintro _ rfl
     iterate 8 (all_goals try (first | with_reducible refine splitI (fun h=>?_) (fun h=>?_) | with_reducible refine splitBI (fun h=>?_) (fun h=>?_) | simp (config:={ maxSteps:=1000000 }) (disch:=first | assumption | omega | (simp; done) | fail) [Tryz.results88, *]))
     refine WC.mono HKEY.out ?_
     rintro _ rfl
     iterate 8 (all_goals try (first | with_reducible refine splitI (fun h=>?_) (fun h=>?_) | with_reducible refine splitBI (fun h=>?_) (fun h=>?_) | simp (config:={ maxSteps:=1000000 }) (disch:=first | assumption | omega | (simp; done) | fail) [Tryz.results88, *]))
     refine ih.out (S.length - (0+1)) _ _ (by omega) ⟨0+1,_,by omega,rfl,rfl,⟨fun b hb=>(gput_lt (by omega)).trans (HG.out b hb)⟩,(gput_lt (by omega)).trans hgn,?_,⟨HN.out HEND.out⟩,by simp [*],by simp [*],by simp [*],by simp [*],by simp⟩
     rw [HT.out,keys_snoc (k:=0) _ _ (by simp)]
     simp [keysW]
    ·have hr:=HB2.out he
     iterate 8 (all_goals try (first | with_reducible refine splitI (fun h=>?_) (fun h=>?_) | with_reducible refine splitBI (fun h=>?_) (fun h=>?_) | simp (config:={ maxSteps:=1000000 }) (disch:=first | assumption | omega | (simp; done) | fail) [Tryz.results88, *]))
     exact ⟨by show n≤n+1+1; omega,fun b hb=>HG.out b hb⟩
   ·have hwI:¬(w.length:Int)=0:=by omega
    have hr:=HB1.out (fun h=>hw0 (h.1 rfl))
    iterate 8 (all_goals try (first | with_reducible refine splitI (fun h=>?_) (fun h=>?_) | with_reducible refine splitBI (fun h=>?_) (fun h=>?_) | simp (config:={ maxSteps:=1000000 }) (disch:=first | assumption | omega | (simp; done) | fail) [Tryz.results88, *]))
    exact ⟨by show n≤n+1+1; omega,fun b hb=>HG.out b hb⟩
  ·by_cases hw0:w.length=0
   ·have hkI:¬(k:Int)=0:=by omega
    have hwI:(w.length:Int)=0:=by omega
    have hr:=HB1.out (fun h=>hk0 (h.2 hw0))
    iterate 8 (all_goals try (first | with_reducible refine splitI (fun h=>?_) (fun h=>?_) | with_reducible refine splitBI (fun h=>?_) (fun h=>?_) | simp (config:={ maxSteps:=1000000 }) (disch:=first | assumption | omega | (simp; done) | fail) [Tryz.results88, *]))
    exact ⟨by show n≤n+1+1; omega,fun b hb=>HG.out b hb⟩
   ·have hkI:¬(k:Int)=0:=by omega
    have hkP:0 < (k:Int):=by omega
    have hwI:¬(w.length:Int)=0:=by omega
    have hwP:0 < w.length:=by omega
    iterate 8 (all_goals try (first | with_reducible refine splitI (fun h=>?_) (fun h=>?_) | with_reducible refine splitBI (fun h=>?_) (fun h=>?_) | simp (config:={ maxSteps:=1000000 }) (disch:=first | assumption | omega | (simp; done) | fail) [Tryz.results88, *]))
    refine WC.mono HC.out ?_
    rintro _ rfl
    by_cases he:wErr w q=0
    ·obtain ⟨hw256,hwin⟩:=wErr_ok he
     have HKEY:=Hide.mk (key_w w (by omega) hwin gL (n+1+1) q1 HREP.out)
     have HWIN:=Hide.mk hwin
     clear hwin
     rw [he]
     iterate 8 (all_goals try (first | with_reducible refine splitI (fun h=>?_) (fun h=>?_) | with_reducible refine splitBI (fun h=>?_) (fun h=>?_) | simp (config:={ maxSteps:=1000000 }) (disch:=first | assumption | omega | (simp; done) | fail) [Tryz.results88, *]))
     refine WC.mono HKEY.out ?_
     rintro _ rfl
     by_cases hc3:(keysW (S.take k)).contains (keyS w)=true
     ·have hin:=hks.out.trans hc3
      have hr:ret=false:=HB.out (by unfold accOK; rw [hc3,Bool.not_true,Bool.and_false,Bool.false_and])
      clear hc3
      iterate 8 (all_goals try (first | with_reducible refine splitI (fun h=>?_) (fun h=>?_) | with_reducible refine splitBI (fun h=>?_) (fun h=>?_) | simp (config:={ maxSteps:=1000000 }) (disch:=first | assumption | omega | (simp; done) | fail) [Tryz.results88, *]))
      exact ⟨by show n≤n+1+1; omega,fun b hb=>HG.out b hb⟩
     have hc3' : (keysW (S.take k)).contains (keyS w)=false:=by simpa using hc3
     have hin:=hks.out.trans hc3'
     have HC3:=Hide.mk hc3'
     clear hc3 hc3'
     obtain ⟨m,hm⟩ : ∃ m,w.length=m+1:=⟨w.length - 1,by omega⟩
     have hkN:0 < k:=by omega
     have HK2:=Hide.mk (show ∀ (a off:Nat) (sv' : AV),a < n+1+1→((∃ c,sv'=.sl a off m c)∨∃ c,sv'=.slq a off m c)→Row gL a off (wdC w)→WC 0 Tryz.prog 52 [sv'] ⟨.fn gL,n+1+1⟩ fun r=>r=.ret (.lit (.string (keyS (w.take m)))) ⟨.fn gL,n+1+1⟩ from
      fun a off sv' ha hs hr=>key_w (w.take m) (by rw [List.length_take]; omega) (fun i hi=>HWIN.out i (List.mem_of_mem_take hi)) gL (n+1+1) sv' (.inr ⟨a,off,ha,by rw [List.length_take,Nat.min_eq_left (by omega)]; exact hs,by rw [wdC_take]; exact hr.takes m⟩))
     have hks2:=Hide.mk (inSet_zip (keyS (w.take m)) (keysW (S.take k)) 0)
     have HLW:=Hide.mk @hlw
     have HE:=Hide.mk he
     clear hlw he
     rcases HREP.out with ⟨h1,_⟩ | ⟨a,off,han,⟨c,hq⟩ | ⟨c,hq⟩,hrow⟩
     ·omega
     ·subst hq
      have hcc:=HCQ.out _ _ _ _ rfl
      have hcc2:m≤c:=by omega
      have hcc3:0 < c:=by omega
      have hkm:=HKEY.out
      rw [hm] at hkm
      have HKM:=Hide.mk hkm
      clear hkm
      have HK3:=Hide.mk (HK2.out a off (.sl a off m c) han (.inl ⟨c,rfl⟩) hrow)
      clear hrow
      iterate 8 (all_goals try (first | with_reducible refine splitI (fun h=>?_) (fun h=>?_) | with_reducible refine splitBI (fun h=>?_) (fun h=>?_) | simp (config:={ maxSteps:=1000000 }) (disch:=first | assumption | omega | (simp; done) | fail) [Tryz.results88, *]))
      refine WC.mono HK3.out ?_
      rintro _ rfl
      by_cases hc4:(keysW (S.take k)).contains (keyS (w.take m))=true
      ·have hin2:=hks2.out.trans hc4
       clear hc4
       iterate 8 (all_goals try (first | with_reducible refine splitI (fun h=>?_) (fun h=>?_) | with_reducible refine splitBI (fun h=>?_) (fun h=>?_) | simp (config:={ maxSteps:=1000000 }) (disch:=first | assumption | omega | (simp; done) | fail) [Tryz.results88, *]))
       refine WC.mono HKM.out ?_
       rintro _ rfl
       have HEND:Hide (accOK q S k w=true):=⟨by
        unfold accOK
        rw [decide_eq_true (by omega:k=0↔w.length=0),decide_eq_true HE.out,HC3.out,decide_eq_false hk0,show w.length - 1=m by omega,(hks2.out.symm.trans hin2)]; rfl⟩
       iterate 8 (all_goals try (first | with_reducible refine splitI (fun h=>?_) (fun h=>?_) | with_reducible refine splitBI (fun h=>?_) (fun h=>?_) | simp (config:={ maxSteps:=1000000 }) (disch:=first | assumption | omega | (simp; done) | fail) [Tryz.results88, *]))
       refine ih.out (S.length - (k+1)) _ _ (by omega) ⟨k+1,_,by omega,rfl,rfl,⟨fun b hb=>(gput_lt (by omega)).trans (HG.out b hb)⟩,(gput_lt (by omega)).trans hgn,?_,⟨HN.out HEND.out⟩,by simp [*],by simp [*],by simp [*],by simp [*],by simp⟩
       rw [HT.out,keys_snoc (k:=k) _ _ (by rw [List.length_take]; omega)]
       simp [Nat.min_eq_left hk]
      ·have hc4' : (keysW (S.take k)).contains (keyS (w.take m))=false:=by simpa using hc4
       have hin2:=hks2.out.trans hc4'
       have hr:ret=false:=HB.out (by unfold accOK; rw [show w.length - 1=m by omega,hc4',Bool.or_false,decide_eq_false hk0,Bool.and_false])
       clear hc4 hc4'
       iterate 8 (all_goals try (first | with_reducible refine splitI (fun h=>?_) (fun h=>?_) | with_reducible refine splitBI (fun h=>?_) (fun h=>?_) | simp (config:={ maxSteps:=1000000 }) (disch:=first | assumption | omega | (simp; done) | fail) [Tryz.results88, *]))
       exact ⟨by show n≤n+1+1; omega,fun b hb=>HG.out b hb⟩
     ·subst hq
      have hkm:=HKEY.out
      rw [hm] at hkm
      have HKM:=Hide.mk hkm
      clear hkm
      have HK3:=Hide.mk (HK2.out a off (.slq a off m c) han (.inr ⟨c,rfl⟩) hrow)
      clear hrow
      iterate 8 (all_goals try (first | with_reducible refine splitI (fun h=>?_) (fun h=>?_) | with_reducible refine splitBI (fun h=>?_) (fun h=>?_) | simp (config:={ maxSteps:=1000000 }) (disch:=first | assumption | omega | (simp; done) | fail) [Tryz.results88, *]))
      refine WC.mono HK3.out ?_
      rintro _ rfl
      by_cases hc4:(keysW (S.take k)).contains (keyS (w.take m))=true
      ·have hin2:=hks2.out.trans hc4
       clear hc4
       iterate 8 (all_goals try (first | with_reducible refine splitI (fun h=>?_) (fun h=>?_) | with_reducible refine splitBI (fun h=>?_) (fun h=>?_) | simp (config:={ maxSteps:=1000000 }) (disch:=first | assumption | omega | (simp; done) | fail) [Tryz.results88, *]))
       refine WC.mono HKM.out ?_
       rintro _ rfl
       have HEND:Hide (accOK q S k w=true):=⟨by
        unfold accOK
        rw [decide_eq_true (by omega:k=0↔w.length=0),decide_eq_true HE.out,HC3.out,decide_eq_false hk0,show w.length - 1=m by omega,(hks2.out.symm.trans hin2)]; rfl⟩
       iterate 8 (all_goals try (first | with_reducible refine splitI (fun h=>?_) (fun h=>?_) | with_reducible refine splitBI (fun h=>?_) (fun h=>?_) | simp (config:={ maxSteps:=1000000 }) (disch:=first | assumption | omega | (simp; done) | fail) [Tryz.results88, *]))
       refine ih.out (S.length - (k+1)) _ _ (by omega) ⟨k+1,_,by omega,rfl,rfl,⟨fun b hb=>(gput_lt (by omega)).trans (HG.out b hb)⟩,(gput_lt (by omega)).trans hgn,?_,⟨HN.out HEND.out⟩,by simp [*],by simp [*],by simp [*],by simp [*],by simp⟩
       rw [HT.out,keys_snoc (k:=k) _ _ (by rw [List.length_take]; omega)]
       simp [Nat.min_eq_left hk]
      ·have hc4' : (keysW (S.take k)).contains (keyS (w.take m))=false:=by simpa using hc4
       have hin2:=hks2.out.trans hc4'
       have hr:ret=false:=HB.out (by unfold accOK; rw [show w.length - 1=m by omega,hc4',Bool.or_false,decide_eq_false hk0,Bool.and_false])
       clear hc4 hc4'
       iterate 8 (all_goals try (first | with_reducible refine splitI (fun h=>?_) (fun h=>?_) | with_reducible refine splitBI (fun h=>?_) (fun h=>?_) | simp (config:={ maxSteps:=1000000 }) (disch:=first | assumption | omega | (simp; done) | fail) [Tryz.results88, *]))
       exact ⟨by show n≤n+1+1; omega,fun b hb=>HG.out b hb⟩
    ·have hr:=HB2.out he
     iterate 8 (all_goals try (first | with_reducible refine splitI (fun h=>?_) (fun h=>?_) | with_reducible refine splitBI (fun h=>?_) (fun h=>?_) | simp (config:={ maxSteps:=1000000 }) (disch:=first | assumption | omega | (simp; done) | fail) [Tryz.results88, *]))
     exact ⟨by show n≤n+1+1; omega,fun b hb=>HG.out b hb⟩
 ·have hltI:¬(k:Int) < (S.length:Int):=by omega
  have hk2:k=S.length:=by omega
  have hall:((List.range S.length).all fun j=>accOK q S j (S.getD j []))=true:=by
   rw [List.all_eq_true]
   intro j hj
   exact HPRE.out j (by rw [hk2]; simpa using hj)
  have hfin:ret=decide (0 < S.length):=by rw [HRET.out]; unfold accB; rw [hall,Bool.true_and]
  clear hgm hall
  iterate 8 (all_goals try (first | with_reducible refine splitI (fun h=>?_) (fun h=>?_) | with_reducible refine splitBI (fun h=>?_) (fun h=>?_) | simp (config:={ maxSteps:=1000000 }) (disch:=first | assumption | omega | (simp; done) | fail) [Tryz.results88, *]))
  all_goals first | exact fun b hb=>HG.out b hb | exact ⟨by show n≤n+1+1; omega,fun b hb=>HG.out b hb⟩ | (show n≤n+1+1; omega)
end Go.Ai
end
section
namespace Go.Ai
open Go.Proofs
set_option maxRecDepth 10000
set_option maxHeartbeats 40000000
def sufOK (q:Int) (S:List (List Int)) (k:Nat) (w:List Int) : Bool :=
 decide (w.length≠0) && decide (wErr w q=0) && !((keysW (S.take k)).contains (keyS w)) && (decide (q≤(k:Int)) || decide (w=[(k:Int)]))
def sufB (q:Int) (S:List (List Int)) : Bool:=((List.range S.length).all fun j=>sufOK q S j (S.getD j [])) && decide (q≤(S.length:Int))
theorem suffixes_w (q c1 c4 c5:Int) (c2 c6:AV) (h2:oneC c2=true) (h6:oneC c6=true) (S:List (List Int)) (hl:S.length≤1000000) (hw:∀ w∈S,w.length≤1000000) (g:Nat→Option Blk) (n:Nat) (sv:AV) (svs:List AV) (hsv:SliceV g n sv S.length svs) (hr:RowsW g n S svs) :
  WC 0 Tryz.prog 89 [.agg [.lit (.int .i64 q),.lit (.int .i64 c1),c2,sv,.lit (.int .i64 c4),.lit (.int .i64 c5),c6]] ⟨.fn g,n⟩ fun r=>r=.ret (.lit (.bool (sufB q S))) ⟨.fn g,n⟩:=by
 refine WC.drop1 rfl ?_
 have hlen:=@lenV Tryz.prog _ _ _ _ _ hsv
 have h1s:=hsv.one
 have hone:allOne [.lit (.int .i64 q),.lit (.int .i64 c1),c2,sv,.lit (.int .i64 c4),.lit (.int .i64 c5),c6]=true:=by simp [h1s,h2,h6]
 have HS:=Hide.mk hsv
 have HR:=Hide.mk hr
 have HW:=Hide.mk hw
 clear hsv hr hw
 obtain ⟨ret,hret⟩ : ∃ b,b=sufB q S:=⟨_,rfl⟩
 rw [← hret]
 have HRET:=Hide.mk hret
 clear hret
 refine WC.enterP (noO_ok _ _) hG [] Tryz.func89 rfl (by decide +kernel) (Nat.le_of_ble_eq_true (by kernel_rfl)) ?_
 iterate 8 (all_goals try (first | with_reducible refine splitI (fun h=>?_) (fun h=>?_) | with_reducible refine splitBI (fun h=>?_) (fun h=>?_) | simp (config:={ maxSteps:=1000000 }) (disch:=first | assumption | omega | (simp; done) | fail) [Tryz.results89, *]))
 refine LX.ind (fun m gf H'=>∃ (k:Nat) (gL:Nat→Option Blk),k≤S.length∧m=S.length - k∧H'=⟨.fn gL,n+1+1⟩∧Hide (∀ b,b < n→gL b=g b)∧gL n=some (.cells [.lit (.int .i64 q),.lit (.int .i64 c1),c2,sv,.lit (.int .i64 c4),.lit (.int .i64 c5),c6] true 0)∧gL (n+1)=some (.map (sset ((keysW (S.take k)).zipIdx)) k) ∧
  Hide (∀ j,j < k→sufOK q S j (S.getD j [])=true)∧gf 1=some (.ptr n 0)∧gf 3=some (.map (n+1))∧gf 8=some sv∧gf 9=some (.lit (.int .i64 S.length))∧gf 10=some (.lit (.int .i64 k))) (m0:=S.length) ?_ ?_
 ·refine ⟨0,_,Nat.zero_le _,rfl,rfl,⟨fun b hb=>(gput_lt (by omega)).trans (gput_lt hb)⟩,(gput_lt (by omega)).trans gput_eq,gput_eq,⟨fun j hj=>by omega⟩,by simp,by simp,by simp,by simp,by simp⟩
 rintro m gf H' ⟨k,gL,hk,rfl,rfl,HG,hgn,hgm,HPRE,w1,w3,w8,w9,w10⟩ ih
 refine LX.roundP (noO_ok _ _) hG [] (by decide +kernel) ?_
 by_cases hlt:k < S.length
 ·have hltI:(k:Int) < (S.length:Int):=by omega
  obtain ⟨q1,hw1,hrep⟩:=HR.out.2 k hlt
  obtain ⟨a2,off,ha2,hrow,hia⟩:=HS.out.ia (P:=Tryz.prog) hlt 1
  simp only [Nat.mul_one] at hia
  have hkl:k < svs.length:=(List.getElem?_eq_some_iff.1 hw1).1
  have hcell:=(hrow.mono (HG.out a2 ha2)).one (k:=k) (s:=1) hkl
  rw [(List.getElem?_eq_some_iff.1 hw1).2] at hcell
  have hrep' : RepW gL (n+1+1) S[k] q1:=SliceV.mono (by omega) (fun a ha=>HG.out a ha) hrep
  have hlw:=@lenV Tryz.prog _ _ _ _ _ hrep
  have hgd:S.getD k []=S[k]:=by rw [List.getD_eq_getElem?_getD,List.getElem?_eq_getElem hlt]; rfl
  have htk:S.take (k+1)=S.take k++[S[k]]:=by rw [List.take_succ,List.getElem?_eq_getElem hlt]; rfl
  have hbad:sufOK q S k S[k]=false→ret=false:=fun h=>by
   rw [HRET.out]
   unfold sufB
   rw [Bool.and_eq_false_iff]
   left
   rw [List.all_eq_false]
   exact ⟨k,by simp [hlt],by rw [hgd,h]; simp⟩
  have hnext:sufOK q S k S[k]=true→∀ j,j < k+1→sufOK q S j (S.getD j [])=true:=fun h j hj=>by
   by_cases e:j=k
   ·subst e; rw [hgd]; exact h
   ·exact HPRE.out j (by omega)
  have hwl:=HW.out _ (List.getElem_mem hlt)
  have HREP:=Hide.mk hrep'
  have HT:=Hide.mk htk
  have HB:=Hide.mk hbad
  have HN:=Hide.mk hnext
  clear htk hrow hrep hrep' hw1 ha2 hbad hnext hgd
  generalize S[k]=w at *
  have hks:=Hide.mk (inSet_zip (keyS w) (keysW (S.take k)) 0)
  have HC:=Hide.mk (wCheck_w w hwl q gL (n+1+1) q1 HREP.out)
  by_cases hw0:w.length=0
  ·have hwI:(w.length:Int)=0:=by omega
   have hr:ret=false:=HB.out (by unfold sufOK; rw [decide_eq_false (by omega:¬w.length≠0),Bool.false_and,Bool.false_and,Bool.false_and])
   iterate 8 (all_goals try (first | with_reducible refine splitI (fun h=>?_) (fun h=>?_) | with_reducible refine splitBI (fun h=>?_) (fun h=>?_) | simp (config:={ maxSteps:=1000000 }) (disch:=first | assumption | omega | (simp; done) | fail) [Tryz.results89, *]))
   exact ⟨by show n≤n+1+1; omega,fun b hb=>HG.out b hb⟩
  have hwI:¬(w.length:Int)=0:=by omega
  iterate 8 (all_goals try (first | with_reducible refine splitI (fun h=>?_) (fun h=>?_) | with_reducible refine splitBI (fun h=>?_) (fun h=>?_) | simp (config:={ maxSteps:=1000000 }) (disch:=first | assumption | omega | (simp; done) | fail) [Tryz.results89, *]))
  refine WC.mono HC.out ?_
  rintro _ rfl
  by_cases he:wErr w q=0
  ·obtain ⟨hw256,hwin⟩:=wErr_ok he
   have HKEY:=Hide.mk (key_w w (by omega) hwin gL (n+1+1) q1 HREP.out)
   clear hwin
   rw [he]
   iterate 8 (all_goals try (first | with_reducible refine splitI (fun h=>?_) (fun h=>?_) | with_reducible refine splitBI (fun h=>?_) (fun h=>?_) | simp (config:={ maxSteps:=1000000 }) (disch:=first | assumption | omega | (simp; done) | fail) [Tryz.results89, *]))
   refine WC.mono HKEY.out ?_
   rintro _ rfl
   by_cases hc3:(keysW (S.take k)).contains (keyS w)=true
   ·have hin:=hks.out.trans hc3
    have hr:ret=false:=HB.out (by unfold sufOK; rw [hc3,Bool.not_true,Bool.and_false,Bool.false_and])
    clear hc3
    iterate 8 (all_goals try (first | with_reducible refine splitI (fun h=>?_) (fun h=>?_) | with_reducible refine splitBI (fun h=>?_) (fun h=>?_) | simp (config:={ maxSteps:=1000000 }) (disch:=first | assumption | omega | (simp; done) | fail) [Tryz.results89, *]))
    exact ⟨by show n≤n+1+1; omega,fun b hb=>HG.out b hb⟩
   have hc3' : (keysW (S.take k)).contains (keyS w)=false:=by simpa using hc3
   have hin:=hks.out.trans hc3'
   have HC3:=Hide.mk hc3'
   have HE:=Hide.mk he
   clear hc3 hc3' he
   by_cases hqk:q≤(k:Int)
   ·have hqk2:¬(k:Int) < q:=by omega
    have HEND:Hide (sufOK q S k w=true):=⟨by
     unfold sufOK
     rw [decide_eq_true (by omega:w.length≠0),decide_eq_true HE.out,HC3.out,decide_eq_true hqk]; rfl⟩
    iterate 8 (all_goals try (first | with_reducible refine splitI (fun h=>?_) (fun h=>?_) | with_reducible refine splitBI (fun h=>?_) (fun h=>?_) | simp (config:={ maxSteps:=1000000 }) (disch:=first | assumption | omega | (simp; done) | fail) [Tryz.results89, *]))
    refine WC.mono HKEY.out ?_
    rintro _ rfl
    iterate 8 (all_goals try (first | with_reducible refine splitI (fun h=>?_) (fun h=>?_) | with_reducible refine splitBI (fun h=>?_) (fun h=>?_) | simp (config:={ maxSteps:=1000000 }) (disch:=first | assumption | omega | (simp; done) | fail) [Tryz.results89, *]))
    refine ih.out (S.length - (k+1)) _ _ (by omega) ⟨k+1,_,by omega,rfl,rfl,⟨fun b hb=>(gput_lt (by omega)).trans (HG.out b hb)⟩,(gput_lt (by omega)).trans hgn,?_,⟨HN.out HEND.out⟩,by simp [*],by simp [*],by simp [*],by simp [*],by simp⟩
    rw [HT.out,keys_snoc (k:=k) _ _ (by rw [List.length_take]; omega)]
    simp [Nat.min_eq_left hk]
   ·have hqk2:(k:Int) < q:=by omega
    by_cases hw1:w.length=1
    ·obtain ⟨x,rfl⟩ : ∃ x,w=[x]:=List.length_eq_one_iff.1 hw1
     obtain ⟨a3,of3,ha3,hrow3,hia3⟩:=SliceV.ia (P:=Tryz.prog) HREP.out (k:=0) (by simp) 1
     have hcell3:=hrow3.one (k:=0) (s:=1) (by simp [wdC])
     have hv3:(wdC [x])[0]'(by simp [wdC])=.lit (.int .i64 x):=rfl
     rw [hv3] at hcell3
     clear hv3 hrow3 ha3
     have hia4:∀ {H:Mem} {ev:Ev} {o:Oper} {t:TypeId},iaS Tryz.prog H ev o t (some (none,1)) (some q1) (some (.lit (.int .i64 0)))=.val (.ptr a3 of3) H:=fun {H ev o t}=>hia3
     clear hia3
     simp only [Nat.add_zero,Nat.zero_mul] at hcell3
     by_cases hxk:x=(k:Int)
     ·subst hxk
      have HEND:Hide (sufOK q S k [(k:Int)]=true):=⟨by
       unfold sufOK
       rw [decide_eq_true (by simp:([(k:Int)] : List Int).length≠0),decide_eq_true HE.out,HC3.out,decide_eq_true (rfl:[(k:Int)]=[(k:Int)]),Bool.or_true]; rfl⟩
      iterate 8 (all_goals try (first | with_reducible refine splitI (fun h=>?_) (fun h=>?_) | with_reducible refine splitBI (fun h=>?_) (fun h=>?_) | simp (config:={ maxSteps:=1000000 }) (disch:=first | assumption | omega | (simp; done) | fail) [Tryz.results89, *]))
      refine WC.mono HKEY.out ?_
      rintro _ rfl
      iterate 8 (all_goals try (first | with_reducible refine splitI (fun h=>?_) (fun h=>?_) | with_reducible refine splitBI (fun h=>?_) (fun h=>?_) | simp (config:={ maxSteps:=1000000 }) (disch:=first | assumption | omega | (simp; done) | fail) [Tryz.results89, *]))
      refine ih.out (S.length - (k+1)) _ _ (by omega) ⟨k+1,_,by omega,rfl,rfl,⟨fun b hb=>(gput_lt (by omega)).trans (HG.out b hb)⟩,(gput_lt (by omega)).trans hgn,?_,⟨HN.out HEND.out⟩,by simp [*],by simp [*],by simp [*],by simp [*],by simp⟩
      rw [HT.out,keys_snoc (k:=k) _ _ (by rw [List.length_take]; omega)]
      simp [Nat.min_eq_left hk]
     ·have hr:ret=false:=HB.out (by unfold sufOK; rw [decide_eq_false hqk,decide_eq_false (by simpa using hxk:¬[x]=[(k:Int)]),Bool.or_false,Bool.and_false])
      iterate 8 (all_goals try (first | with_reducible refine splitI (fun h=>?_) (fun h=>?_) | with_reducible refine splitBI (fun h=>?_) (fun h=>?_) | simp (config:={ maxSteps:=1000000 }) (disch:=first | assumption | omega | (simp; done) | fail) [Tryz.results89, *]))
      exact ⟨by show n≤n+1+1; omega,fun b hb=>HG.out b hb⟩
    ·have hwI1:¬(w.length:Int)=1:=by omega
     have hr:ret=false:=HB.out (by unfold sufOK; rw [decide_eq_false hqk,decide_eq_false (fun e=>hw1 (by rw [e]; rfl) : ¬w=[(k:Int)]),Bool.or_false,Bool.and_false])
     iterate 8 (all_goals try (first | with_reducible refine splitI (fun h=>?_) (fun h=>?_) | with_reducible refine splitBI (fun h=>?_) (fun h=>?_) | simp (config:={ maxSteps:=1000000 }) (disch:=first | assumption | omega | (simp; done) | fail) [Tryz.results89, *]))
     exact ⟨by show n≤n+1+1; omega,fun b hb=>HG.out b hb⟩
  ·have hr:ret=false:=HB.out (by unfold sufOK; rw [decide_eq_false he,Bool.and_false,Bool.false_and,Bool.false_and])
   iterate 8 (all_goals try (first | with_reducible refine splitI (fun h=>?_) (fun h=>?_) | with_reducible refine splitBI (fun h=>?_) (fun h=>?_) | simp (config:={ maxSteps:=1000000 }) (disch:=first | assumption | omega | (simp; done) | fail) [Tryz.results89, *]))
   exact ⟨by show n≤n+1+1; omega,fun b hb=>HG.out b hb⟩
 ·have hltI:¬(k:Int) < (S.length:Int):=by omega
  have hk2:k=S.length:=by omega
  have hall:((List.range S.length).all fun j=>sufOK q S j (S.getD j []))=true:=by
   rw [List.all_eq_true]
   intro j hj
   exact HPRE.out j (by rw [hk2]; simpa using hj)
  have hfin:ret=decide (q≤(S.length:Int)):=by rw [HRET.out]; unfold sufB; rw [hall,Bool.true_and]
  clear hgm hall
  iterate 8 (all_goals try (first | with_reducible refine splitI (fun h=>?_) (fun h=>?_) | with_reducible refine splitBI (fun h=>?_) (fun h=>?_) | simp (config:={ maxSteps:=1000000 }) (disch:=first | assumption | omega | (simp; done) | fail) [Tryz.results89, *]))
  all_goals first | exact fun b hb=>HG.out b hb | exact ⟨by show n≤n+1+1; omega,fun b hb=>HG.out b hb⟩ | (show n≤n+1+1; omega)
end Go.Ai
end
section
namespace Go.Ai
open Go.Proofs
set_option maxRecDepth 10000
set_option maxHeartbeats 40000000
def limErr (S E:List (List Int)) : Int:=if S.length > 64∨E.length > 256∨longM S+1+longM E > 256 then 3 else 0
theorem limits_w (q c1 c4 c5:Int) (c6:AV) (h6:oneC c6=true) (S E:List (List Int)) (hl:S.length≤1000000) (hw:∀ w∈S,w.length≤1000000) (hl2:E.length≤1000000) (hw2:∀ w∈E,w.length≤1000000) (g:Nat→Option Blk) (n:Nat) (sv se:AV) (svs ses:List AV) (hsv:SliceV g n sv S.length svs) (hr:RowsW g n S svs) (hse:SliceV g n se E.length ses) (hre:RowsW g n E ses) :
  WC 0 Tryz.prog 90 [.agg [.lit (.int .i64 q),.lit (.int .i64 c1),sv,se,.lit (.int .i64 c4),.lit (.int .i64 c5),c6]] ⟨.fn g,n⟩ fun r=>r=.ret (.lit (.int .i64 (limErr S E))) ⟨.fn g,n⟩:=by
 refine WC.drop1 rfl ?_
 have hlen:=@lenV Tryz.prog _ _ _ _ _ hsv
 have hlen2:=@lenV Tryz.prog _ _ _ _ _ hse
 have h1s:=hsv.one
 have h1e:=hse.one
 have hone:allOne [.lit (.int .i64 q),.lit (.int .i64 c1),sv,se,.lit (.int .i64 c4),.lit (.int .i64 c5),c6]=true:=by simp [h1s,h1e,h6]
 have HL1:=fun g' (hg' : ∀ b,b < n→g' b=g b)=>long_w S hl hw g' (n+1) sv svs (SliceV.mono (by omega) (fun a ha=>hg' a ha) hsv) (hr.ext (by omega) fun a x ha hx=>(hg' a ha).trans hx)
 have HL2:=fun g' (hg' : ∀ b,b < n→g' b=g b)=>long_w E hl2 hw2 g' (n+1) se ses (SliceV.mono (by omega) (fun a ha=>hg' a ha) hse) (hre.ext (by omega) fun a x ha hx=>(hg' a ha).trans hx)
 have HA:=Hide.mk HL1
 have HB:=Hide.mk HL2
 have hmx:longM S≤1000000:=longM_le hw
 have hmx2:longM E≤1000000:=longM_le hw2
 clear hsv hr hse hre hw hw2 HL1 HL2
 obtain ⟨ret,hret⟩ : ∃ b,b=limErr S E:=⟨_,rfl⟩
 rw [← hret]
 unfold limErr at hret
 generalize hS:longM S=ls at *
 generalize hE:longM E=le at *
 by_cases t1:S.length > 64
 ·have t1I:64 < (S.length:Int):=by omega
  have hr:ret=3:=by rw [hret,if_pos (.inl t1)]
  clear hret
  refine WC.enterP (noO_ok _ _) hG pl90 Tryz.func90 rfl (by decide +kernel) (Nat.le_of_ble_eq_true (by kernel_rfl)) ?_
  iterate 8 (all_goals try (first | with_reducible refine splitI (fun h=>?_) (fun h=>?_) | with_reducible refine splitBI (fun h=>?_) (fun h=>?_) | simp (config:={ maxSteps:=1000000 }) (disch:=first | assumption | omega | (simp; done) | fail) [Tryz.results90, *]))
  all_goals exact ⟨Nat.le_succ n,fun b hb=>gput_lt hb⟩
 have t1I:¬64 < (S.length:Int):=by omega
 by_cases t2:E.length > 256
 ·have t2I:256 < (E.length:Int):=by omega
  have hr:ret=3:=by rw [hret,if_pos (.inr (.inl t2))]
  clear hret
  refine WC.enterP (noO_ok _ _) hG pl90 Tryz.func90 rfl (by decide +kernel) (Nat.le_of_ble_eq_true (by kernel_rfl)) ?_
  iterate 8 (all_goals try (first | with_reducible refine splitI (fun h=>?_) (fun h=>?_) | with_reducible refine splitBI (fun h=>?_) (fun h=>?_) | simp (config:={ maxSteps:=1000000 }) (disch:=first | assumption | omega | (simp; done) | fail) [Tryz.results90, *]))
  all_goals exact ⟨Nat.le_succ n,fun b hb=>gput_lt hb⟩
 have t2I:¬256 < (E.length:Int):=by omega
 by_cases t3:ls+1+le > 256
 ·have t3I:256 < (ls:Int)+1+(le:Int):=by omega
  have hr:ret=3:=by rw [hret,if_pos (.inr (.inr t3))]
  clear hret
  refine WC.enterP (noO_ok _ _) hG pl90 Tryz.func90 rfl (by decide +kernel) (Nat.le_of_ble_eq_true (by kernel_rfl)) ?_
  iterate 8 (all_goals try (first | with_reducible refine splitI (fun h=>?_) (fun h=>?_) | with_reducible refine splitBI (fun h=>?_) (fun h=>?_) | simp (config:={ maxSteps:=1000000 }) (disch:=first | assumption | omega | (simp; done) | fail) [Tryz.results90, *]))
  refine WC.mono (HA.out _ fun b hb=>gput_lt hb) ?_
  rintro _ rfl
  iterate 8 (all_goals try (first | with_reducible refine splitI (fun h=>?_) (fun h=>?_) | with_reducible refine splitBI (fun h=>?_) (fun h=>?_) | simp (config:={ maxSteps:=1000000 }) (disch:=first | assumption | omega | (simp; done) | fail) [Tryz.results90, *]))
  refine WC.mono (HB.out _ fun b hb=>gput_lt hb) ?_
  rintro _ rfl
  iterate 8 (all_goals try (first | with_reducible refine splitI (fun h=>?_) (fun h=>?_) | with_reducible refine splitBI (fun h=>?_) (fun h=>?_) | simp (config:={ maxSteps:=1000000 }) (disch:=first | assumption | omega | (simp; done) | fail) [Tryz.results90, *]))
  all_goals exact ⟨Nat.le_succ n,fun b hb=>gput_lt hb⟩
 have t3I:¬256 < (ls:Int)+1+(le:Int):=by omega
 have hr:ret=0:=by rw [hret,if_neg (by omega)]
 clear hret
 refine WC.enterP (noO_ok _ _) hG pl90 Tryz.func90 rfl (by decide +kernel) (Nat.le_of_ble_eq_true (by kernel_rfl)) ?_
 iterate 8 (all_goals try (first | with_reducible refine splitI (fun h=>?_) (fun h=>?_) | with_reducible refine splitBI (fun h=>?_) (fun h=>?_) | simp (config:={ maxSteps:=1000000 }) (disch:=first | assumption | omega | (simp; done) | fail) [Tryz.results90, *]))
 refine WC.mono (HA.out _ fun b hb=>gput_lt hb) ?_
 rintro _ rfl
 iterate 8 (all_goals try (first | with_reducible refine splitI (fun h=>?_) (fun h=>?_) | with_reducible refine splitBI (fun h=>?_) (fun h=>?_) | simp (config:={ maxSteps:=1000000 }) (disch:=first | assumption | omega | (simp; done) | fail) [Tryz.results90, *]))
 refine WC.mono (HB.out _ fun b hb=>gput_lt hb) ?_
 rintro _ rfl
 iterate 8 (all_goals try (first | with_reducible refine splitI (fun h=>?_) (fun h=>?_) | with_reducible refine splitBI (fun h=>?_) (fun h=>?_) | simp (config:={ maxSteps:=1000000 }) (disch:=first | assumption | omega | (simp; done) | fail) [Tryz.results90, *]))
 all_goals exact ⟨Nat.le_succ n,fun b hb=>gput_lt hb⟩
end Go.Ai
end
section
namespace Go.Ai
open Go.Proofs
set_option maxRecDepth 10000
set_option maxHeartbeats 40000000
def edC (e:Int×Int) : List AV:=[.lit (.int .i64 e.1),.lit (.int .i64 e.2)]
def RepE (g:Nat→Option Blk) (n:Nat) (r:List (Int×Int)) (sv:AV) : Prop:=SliceV g n sv r.length (r.flatMap edC)
def RowsG (g:Nat→Option Blk) (n:Nat) (T:List (List (Int×Int))) (svs:List AV) : Prop:=svs.length=T.length∧∀ (k:Nat) (h:k < T.length),∃ sv,svs[k]?=some sv∧RepE g n T[k] sv
theorem RowsG.ext {g g' : Nat→Option Blk} {b b' : Nat} {l:List (List (Int×Int))} {svs:List AV} (h:RowsG g b l svs) (hb:b≤b') (hg:∀ a x,a < b→g a=some x→g' a=some x) : RowsG g' b' l svs :=
 ⟨h.1,fun k hk=>let ⟨sv,h1,h2⟩:=h.2 k hk; ⟨sv,h1,SliceV.ext hb hg h2⟩⟩
theorem RepE.at {g:Nat→Option Blk} {n:Nat} {r:List (Int×Int)} {sv:AV} (h:RepE g n r sv) {i:Nat} (hi:i < r.length) :
  ∃ a off,a < n∧(∀ {H:Mem} {ev:Ev} {o:Oper} {t:TypeId},iaS Tryz.prog H ev o t (some (none,2)) (some sv) (some (.lit (.int .i64 (i:Int))))=.val (.ptr a (off+i * 2)) H)∧loadB (some (true,2)) (g a) (off+i * 2)=some (.agg (edC r[i])):=by
 obtain ⟨a,off,ha,hrow,hia⟩:=SliceV.ia (P:=Tryz.prog) h hi 2
 refine ⟨a,off,ha,hia,?_⟩
 have:=hrow.agg (k:=i * 2) (s:=2) (by rw [flat_len (sz:=2) _ (fun _ _=>rfl)]; omega)
 rw [flat_at (sz:=2) r i hi (fun _ _=>rfl)] at this
 exact this
theorem goE_step {O:Int} {e:Int×Int} {l:List (Int×Int)} {nx:Nat} : goE O (e :: l) nx=match edOK O nx e with | none=>none | some k=>goE O l k:=rfl
def restT (I O:Int) (rows:List (List (Int×Int))) (n:Nat) (es:List (Int×Int)) (nx:Nat) : Option Nat:=match goE O es nx with | none=>none | some z=>goT I O rows (n+1) z
theorem restT_cons {I O:Int} {rows:List (List (Int×Int))} {n:Nat} {e:Int×Int} {es:List (Int×Int)} {nx:Nat} : restT I O rows n (e :: es) nx=match edOK O nx e with | none=>none | some k=>restT I O rows n es k:=by
 unfold restT
 rw [goE_step]
 cases edOK O nx e <;> rfl
theorem goT_cons {I O:Int} {r:List (Int×Int)} {rows:List (List (Int×Int))} {n nx:Nat} : goT I O (r :: rows) n nx=if (r.length:Int)=I∧n < nx then restT I O rows n r nx else none:=rfl
theorem CheckTree_w (I O:Int) (T:List (List (Int×Int))) (hl:T.length≤1000000) (hw:∀ r∈T,r.length≤1000000) (g:Nat→Option Blk) (n:Nat) (sv:AV) (svs:List AV) (hsv:SliceV g n sv T.length svs) (hr:RowsG g n T svs) :
  WC 0 Tryz.prog 91 [.agg [.lit (.int .i64 I),.lit (.int .i64 O),sv]] ⟨.fn g,n⟩ fun r=>r=.ret (.lit (.int .i64 (treeErr I O T))) ⟨.fn g,n⟩:=by
 refine WC.drop1 rfl ?_
 have hlen:=@lenV Tryz.prog _ _ _ _ _ hsv
 have h1s:=hsv.one
 have hone:allOne [.lit (.int .i64 I),.lit (.int .i64 O),sv]=true:=by simp [h1s]
 have HS:=Hide.mk hsv
 have HR:=Hide.mk hr
 have HW:=Hide.mk hw
 clear hsv hr hw
 obtain ⟨ret,hret⟩ : ∃ b,b=treeErr I O T:=⟨_,rfl⟩
 rw [← hret]
 unfold treeErr at hret
 by_cases t1:I > 16
 ·have hr:ret=3:=by rw [hret,if_pos (.inl t1)]
  clear hret
  refine WC.enterP (noO_ok _ _) hG [] Tryz.func91 rfl (by decide +kernel) (Nat.le_of_ble_eq_true (by kernel_rfl)) ?_
  iterate 8 (all_goals try (first | with_reducible refine splitI (fun h=>?_) (fun h=>?_) | with_reducible refine splitBI (fun h=>?_) (fun h=>?_) | simp (config:={ maxSteps:=1000000 }) (disch:=first | assumption | omega | (simp; done) | fail) [Tryz.results91, *]))
  all_goals exact ⟨Nat.le_succ n,fun b hb=>gput_lt hb⟩
 by_cases t2:O > 16
 ·have hr:ret=3:=by rw [hret,if_pos (.inr (.inl t2))]
  clear hret
  refine WC.enterP (noO_ok _ _) hG [] Tryz.func91 rfl (by decide +kernel) (Nat.le_of_ble_eq_true (by kernel_rfl)) ?_
  iterate 8 (all_goals try (first | with_reducible refine splitI (fun h=>?_) (fun h=>?_) | with_reducible refine splitBI (fun h=>?_) (fun h=>?_) | simp (config:={ maxSteps:=1000000 }) (disch:=first | assumption | omega | (simp; done) | fail) [Tryz.results91, *]))
  all_goals exact ⟨Nat.le_succ n,fun b hb=>gput_lt hb⟩
 by_cases t3:T.length > 65537
 ·have hr:ret=3:=by rw [hret,if_pos (.inr (.inr t3))]
  have t3I:65537 < (T.length:Int):=by omega
  clear hret
  refine WC.enterP (noO_ok _ _) hG [] Tryz.func91 rfl (by decide +kernel) (Nat.le_of_ble_eq_true (by kernel_rfl)) ?_
  iterate 8 (all_goals try (first | with_reducible refine splitI (fun h=>?_) (fun h=>?_) | with_reducible refine splitBI (fun h=>?_) (fun h=>?_) | simp (config:={ maxSteps:=1000000 }) (disch:=first | assumption | omega | (simp; done) | fail) [Tryz.results91, *]))
  all_goals exact ⟨Nat.le_succ n,fun b hb=>gput_lt hb⟩
 have t3I:¬65537 < (T.length:Int):=by omega
 rw [if_neg (by omega)] at hret
 by_cases t4:I < 1
 ·have hr:ret=1:=by rw [hret,if_pos (.inl t4)]
  clear hret
  refine WC.enterP (noO_ok _ _) hG [] Tryz.func91 rfl (by decide +kernel) (Nat.le_of_ble_eq_true (by kernel_rfl)) ?_
  iterate 8 (all_goals try (first | with_reducible refine splitI (fun h=>?_) (fun h=>?_) | with_reducible refine splitBI (fun h=>?_) (fun h=>?_) | simp (config:={ maxSteps:=1000000 }) (disch:=first | assumption | omega | (simp; done) | fail) [Tryz.results91, *]))
  all_goals exact ⟨Nat.le_succ n,fun b hb=>gput_lt hb⟩
 by_cases t5:O < 1
 ·have hr:ret=1:=by rw [hret,if_pos (.inr (.inl t5))]
  clear hret
  refine WC.enterP (noO_ok _ _) hG [] Tryz.func91 rfl (by decide +kernel) (Nat.le_of_ble_eq_true (by kernel_rfl)) ?_
  iterate 8 (all_goals try (first | with_reducible refine splitI (fun h=>?_) (fun h=>?_) | with_reducible refine splitBI (fun h=>?_) (fun h=>?_) | simp (config:={ maxSteps:=1000000 }) (disch:=first | assumption | omega | (simp; done) | fail) [Tryz.results91, *]))
  all_goals exact ⟨Nat.le_succ n,fun b hb=>gput_lt hb⟩
 by_cases t6:T.length < 1
 ·have hr:ret=1:=by rw [hret,if_pos (.inr (.inr t6))]
  have t6I:(T.length:Int) < 1:=by omega
  clear hret
  refine WC.enterP (noO_ok _ _) hG [] Tryz.func91 rfl (by decide +kernel) (Nat.le_of_ble_eq_true (by kernel_rfl)) ?_
  iterate 8 (all_goals try (first | with_reducible refine splitI (fun h=>?_) (fun h=>?_) | with_reducible refine splitBI (fun h=>?_) (fun h=>?_) | simp (config:={ maxSteps:=1000000 }) (disch:=first | assumption | omega | (simp; done) | fail) [Tryz.results91, *]))
  all_goals exact ⟨Nat.le_succ n,fun b hb=>gput_lt hb⟩
 have t6I:¬(T.length:Int) < 1:=by omega
 rw [if_neg (by omega)] at hret
 have HRET:=Hide.mk hret
 clear hret
 refine WC.enterP (noO_ok _ _) hG [] Tryz.func91 rfl (by decide +kernel) (Nat.le_of_ble_eq_true (by kernel_rfl)) ?_
 iterate 8 (all_goals try (first | with_reducible refine splitI (fun h=>?_) (fun h=>?_) | with_reducible refine splitBI (fun h=>?_) (fun h=>?_) | simp (config:={ maxSteps:=1000000 }) (disch:=first | assumption | omega | (simp; done) | fail) [Tryz.results91, *]))
 refine LX.ind (fun m gf H'=>∃ (k:Nat) (gL:Nat→Option Blk) (n' nx:Nat),k≤T.length∧m=T.length - k∧H'=⟨.fn gL,n'⟩∧n < n'∧Hide (∀ b,b < n→gL b=g b)∧gL n=some (.cells [.lit (.int .i64 I),.lit (.int .i64 O),sv] true 0) ∧
  Hide (goT I O T 0 1=goT I O (T.drop k) k nx)∧nx≤1+k * 1000000∧gf 1=some (.ptr n 0)∧gf 3=some (.lit (.int .i64 nx))∧gf 37=some sv∧gf 38=some (.lit (.int .i64 T.length))∧gf 39=some (.lit (.int .i64 k))) (m0:=T.length) ?_ ?_
 ·exact ⟨0,_,_,1,Nat.zero_le _,rfl,rfl,by omega,⟨fun b hb=>gput_lt hb⟩,gput_eq,⟨rfl⟩,by omega,by simp,by simp,by simp,by simp,by simp⟩
 rintro m gf H' ⟨k,gL,n',nx,hk,rfl,rfl,hn',HG,hgn,HV,hnx,w1,w3,w37,w38,w39⟩ ih
 refine LX.roundP (noO_ok _ _) hG [] (by decide +kernel) ?_
 by_cases hlt:k < T.length
 ·have hltI:(k:Int) < (T.length:Int):=by omega
  obtain ⟨q1,hw1,hrep⟩:=HR.out.2 k hlt
  obtain ⟨a2,off,ha2,hrow,hia⟩:=HS.out.ia (P:=Tryz.prog) hlt 1
  simp only [Nat.mul_one] at hia
  have hkl:k < svs.length:=(List.getElem?_eq_some_iff.1 hw1).1
  have hcell:=(hrow.mono (HG.out a2 ha2)).one (k:=k) (s:=1) hkl
  rw [(List.getElem?_eq_some_iff.1 hw1).2] at hcell
  have hlw:=@lenV Tryz.prog _ _ _ _ _ hrep
  have hdrop:T.drop k=T[k] :: T.drop (k+1):=List.drop_eq_getElem_cons hlt
  have hv:=HV.out
  rw [hdrop,goT_cons] at hv
  have hrl:=HW.out _ (List.getElem_mem hlt)
  have HREP:=Hide.mk hrep
  have HV2:=Hide.mk hv
  clear hrow hrep hw1 ha2 hdrop hv HV
  generalize T[k]=row at *
  have h1q:oneC q1=true:=HREP.out.one
  by_cases u1:(row.length:Int)=I
  ·subst u1
   by_cases u2:k < nx
   ·have u2I:¬(nx:Int)≤(k:Int):=by omega
    have hv:=HV2.out
    rw [if_pos ⟨rfl,u2⟩] at hv
    have HV3:=Hide.mk hv
    clear hv HV2
    iterate 8 (all_goals try (first | with_reducible refine splitI (fun h=>?_) (fun h=>?_) | with_reducible refine splitBI (fun h=>?_) (fun h=>?_) | simp (config:={ maxSteps:=1000000 }) (disch:=first | assumption | omega | (simp; done) | fail) [Tryz.results91, *]))
    refine LX.ind (fun m gf H'=>∃ (i:Nat) (gM:Nat→Option Blk) (n2 nz:Nat),i≤row.length∧m=row.length - i∧H'=⟨.fn gM,n2⟩∧n < n2∧Hide (∀ b,b < n→gM b=g b)∧gM n=some (.cells [.lit (.int .i64 (row.length:Int)),.lit (.int .i64 O),sv] true 0) ∧
     Hide (goT (row.length:Int) O T 0 1=restT (row.length:Int) O (T.drop (k+1)) k (row.drop i) nz)∧nz≤1+k * 1000000+i∧gf 1=some (.ptr n 0)∧gf 3=some (.lit (.int .i64 nz))∧gf 37=some sv∧gf 38=some (.lit (.int .i64 T.length))∧gf 39=some (.lit (.int .i64 k)) ∧
     gf 54=some q1∧gf 55=some (.lit (.int .i64 row.length))∧gf 56=some (.lit (.int .i64 i))) (m0:=row.length) ?_ ?_
    ·exact ⟨0,gL,n',nx,Nat.zero_le _,rfl,rfl,hn',HG,hgn,HV3,by omega,by simp [*],by simp [*],by simp [*],by simp [*],by simp [*],by simp [*],by simp [*],by simp⟩
    rintro m gf H' ⟨i,gM,n2,nz,hi,rfl,rfl,hn2,HGM,hgMn,HVM,hnz,x1,x3,x37,x38,x39,x54,x55,x56⟩ ih2
    refine LX.roundP (noO_ok _ _) hG [] (by decide +kernel) ?_
    by_cases hlt2:i < row.length
    ·have hlt2I:(i:Int) < (row.length:Int):=by omega
     obtain ⟨a3,of3,ha3,hia3,hc3⟩:=RepE.at HREP.out hlt2
     rw [← HGM.out a3 ha3] at hc3
     have hdr:row.drop i=row[i] :: row.drop (i+1):=List.drop_eq_getElem_cons hlt2
     have hv:=HVM.out
     rw [hdr,restT_cons] at hv
     have HV4:=Hide.mk hv
     clear hv HVM hdr
     generalize row[i]=e at *
     obtain ⟨to,out⟩:=e
     simp only [edC] at hc3
     by_cases e1:to = -1
     ·subst e1
      by_cases e2:out = -1
      ·subst e2
       have hv2:goT (row.length:Int) O T 0 1=restT (row.length:Int) O (T.drop (k+1)) k (row.drop (i+1)) nz:=by rw [HV4.out]; simp [edOK]
       iterate 8 (all_goals try (first | with_reducible refine splitI (fun h=>?_) (fun h=>?_) | with_reducible refine splitBI (fun h=>?_) (fun h=>?_) | simp (config:={ maxSteps:=1000000 }) (disch:=first | assumption | omega | (simp; done) | fail) [Tryz.results91, *]))
       refine ih2.out (row.length - (i+1)) _ _ (by omega) ⟨i+1,_,_,nz,by omega,rfl,rfl,by omega,⟨fun b hb=>(gput_lt (by omega)).trans (HGM.out b hb)⟩,(gput_lt (by omega)).trans hgMn,⟨hv2⟩,by omega,by simp [*],by simp [*],by simp [*],by simp [*],by simp [*],by simp [*],by simp [*],by simp [*]⟩
      ·by_cases e3:out = -2
       ·subst e3
        have hv2:goT (row.length:Int) O T 0 1=restT (row.length:Int) O (T.drop (k+1)) k (row.drop (i+1)) nz:=by rw [HV4.out]; simp [edOK]
        iterate 8 (all_goals try (first | with_reducible refine splitI (fun h=>?_) (fun h=>?_) | with_reducible refine splitBI (fun h=>?_) (fun h=>?_) | simp (config:={ maxSteps:=1000000 }) (disch:=first | assumption | omega | (simp; done) | fail) [Tryz.results91, *]))
        refine ih2.out (row.length - (i+1)) _ _ (by omega) ⟨i+1,_,_,nz,by omega,rfl,rfl,by omega,⟨fun b hb=>(gput_lt (by omega)).trans (HGM.out b hb)⟩,(gput_lt (by omega)).trans hgMn,⟨hv2⟩,by omega,by simp [*],by simp [*],by simp [*],by simp [*],by simp [*],by simp [*],by simp [*],by simp [*]⟩
       ·have e4:¬(-1:Int)=(nz:Int):=by omega
        have hv2:goT (row.length:Int) O T 0 1=none:=by rw [HV4.out]; simp [edOK,e2,e3,e4]
        have hr:ret=1:=by rw [HRET.out,hv2]; simp
        clear hv2
        iterate 8 (all_goals try (first | with_reducible refine splitI (fun h=>?_) (fun h=>?_) | with_reducible refine splitBI (fun h=>?_) (fun h=>?_) | simp (config:={ maxSteps:=1000000 }) (disch:=first | assumption | omega | (simp; done) | fail) [Tryz.results91, *]))
        exact ⟨Nat.le_of_lt (Nat.lt_succ_of_lt hn2),fun b (hb:b < n)=>(gput_lt (by omega)).trans (HGM.out b hb)⟩
     ·by_cases e4:to=(nz:Int)
      ·subst e4
       by_cases e5:0≤out
       ·by_cases e6:out < O
        ·have hv2:goT (row.length:Int) O T 0 1=restT (row.length:Int) O (T.drop (k+1)) k (row.drop (i+1)) (nz+1):=by rw [HV4.out]; simp [edOK,e1,e5,e6]
         iterate 8 (all_goals try (first | with_reducible refine splitI (fun h=>?_) (fun h=>?_) | with_reducible refine splitBI (fun h=>?_) (fun h=>?_) | simp (config:={ maxSteps:=1000000 }) (disch:=first | assumption | omega | (simp; done) | fail) [Tryz.results91, *]))
         refine ih2.out (row.length - (i+1)) _ _ (by omega) ⟨i+1,_,_,(nz+1),by omega,rfl,rfl,by omega,⟨fun b hb=>(gput_lt (by omega)).trans (HGM.out b hb)⟩,(gput_lt (by omega)).trans hgMn,⟨hv2⟩,by omega,by simp [*],by simp [*],by simp [*],by simp [*],by simp [*],by simp [*],by simp [*],by simp [*]⟩
        ·have hv2:goT (row.length:Int) O T 0 1=none:=by rw [HV4.out]; simp [edOK,e1,e6]
         have hr:ret=1:=by rw [HRET.out,hv2]; simp
         clear hv2
         iterate 8 (all_goals try (first | with_reducible refine splitI (fun h=>?_) (fun h=>?_) | with_reducible refine splitBI (fun h=>?_) (fun h=>?_) | simp (config:={ maxSteps:=1000000 }) (disch:=first | assumption | omega | (simp; done) | fail) [Tryz.results91, *]))
         exact ⟨Nat.le_of_lt (Nat.lt_succ_of_lt hn2),fun b (hb:b < n)=>(gput_lt (by omega)).trans (HGM.out b hb)⟩
       ·have hv2:goT (row.length:Int) O T 0 1=none:=by rw [HV4.out]; simp [edOK,e1,e5]
        have hr:ret=1:=by rw [HRET.out,hv2]; simp
        clear hv2
        iterate 8 (all_goals try (first | with_reducible refine splitI (fun h=>?_) (fun h=>?_) | with_reducible refine splitBI (fun h=>?_) (fun h=>?_) | simp (config:={ maxSteps:=1000000 }) (disch:=first | assumption | omega | (simp; done) | fail) [Tryz.results91, *]))
        exact ⟨Nat.le_of_lt (Nat.lt_succ_of_lt hn2),fun b (hb:b < n)=>(gput_lt (by omega)).trans (HGM.out b hb)⟩
      ·have hv2:goT (row.length:Int) O T 0 1=none:=by rw [HV4.out]; simp [edOK,e1,e4]
       have hr:ret=1:=by rw [HRET.out,hv2]; simp
       clear hv2
       iterate 8 (all_goals try (first | with_reducible refine splitI (fun h=>?_) (fun h=>?_) | with_reducible refine splitBI (fun h=>?_) (fun h=>?_) | simp (config:={ maxSteps:=1000000 }) (disch:=first | assumption | omega | (simp; done) | fail) [Tryz.results91, *]))
       exact ⟨Nat.le_of_lt (Nat.lt_succ_of_lt hn2),fun b (hb:b < n)=>(gput_lt (by omega)).trans (HGM.out b hb)⟩
    ·have hlt2I:¬(i:Int) < (row.length:Int):=by omega
     have hi2:i=row.length:=by omega
     have hv:=HVM.out
     rw [hi2,List.drop_length] at hv
     have HV4:=Hide.mk (show goT (row.length:Int) O T 0 1=goT (row.length:Int) O (T.drop (k+1)) (k+1) nz from hv)
     clear hv HVM hi2
     iterate 8 (all_goals try (first | with_reducible refine splitI (fun h=>?_) (fun h=>?_) | with_reducible refine splitBI (fun h=>?_) (fun h=>?_) | simp (config:={ maxSteps:=1000000 }) (disch:=first | assumption | omega | (simp; done) | fail) [Tryz.results91, *]))
     refine ih.out (T.length - (k+1)) _ _ (by omega) ⟨k+1,gM,n2,nz,by omega,rfl,rfl,hn2,HGM,hgMn,HV4,by omega,by simp [*],by simp [*],by simp [*],by simp [*],by simp [*]⟩
   ·have u2I:(nx:Int)≤(k:Int):=by omega
    have hv:=HV2.out
    rw [if_neg (fun h=>u2 h.2)] at hv
    have hr:ret=1:=by rw [HRET.out,hv]; simp
    clear hv
    iterate 8 (all_goals try (first | with_reducible refine splitI (fun h=>?_) (fun h=>?_) | with_reducible refine splitBI (fun h=>?_) (fun h=>?_) | simp (config:={ maxSteps:=1000000 }) (disch:=first | assumption | omega | (simp; done) | fail) [Tryz.results91, *]))
    exact ⟨Nat.le_of_lt hn',fun b hb=>HG.out b hb⟩
  ·have hv:=HV2.out
   rw [if_neg (fun h=>u1 h.1)] at hv
   have hr:ret=1:=by rw [HRET.out,hv]; simp
   clear hv
   iterate 8 (all_goals try (first | with_reducible refine splitI (fun h=>?_) (fun h=>?_) | with_reducible refine splitBI (fun h=>?_) (fun h=>?_) | simp (config:={ maxSteps:=1000000 }) (disch:=first | assumption | omega | (simp; done) | fail) [Tryz.results91, *]))
   exact ⟨Nat.le_of_lt hn',fun b hb=>HG.out b hb⟩
 ·have hltI:¬(k:Int) < (T.length:Int):=by omega
  have hk2:k=T.length:=by omega
  have hv:=HV.out
  rw [hk2,List.drop_length] at hv
  have hv' : goT I O T 0 1=some nx:=hv
  clear hk2 hv HV
  by_cases u3:nx=T.length
  ·rw [u3] at w3
   have hr:ret=0:=by rw [HRET.out,hv',u3]; simp
   clear hv' u3
   iterate 8 (all_goals try (first | with_reducible refine splitI (fun h=>?_) (fun h=>?_) | with_reducible refine splitBI (fun h=>?_) (fun h=>?_) | simp (config:={ maxSteps:=1000000 }) (disch:=first | assumption | omega | (simp; done) | fail) [Tryz.results91, *]))
   exact ⟨Nat.le_of_lt hn',fun b hb=>HG.out b hb⟩
  ·have u3I:¬(nx:Int)=(T.length:Int):=by omega
   have hr:ret=1:=by rw [HRET.out,hv',if_neg (fun h=>u3 (by injection h))]
   clear hv'
   iterate 8 (all_goals try (first | with_reducible refine splitI (fun h=>?_) (fun h=>?_) | with_reducible refine splitBI (fun h=>?_) (fun h=>?_) | simp (config:={ maxSteps:=1000000 }) (disch:=first | assumption | omega | (simp; done) | fail) [Tryz.results91, *]))
   exact ⟨Nat.le_of_lt hn',fun b hb=>HG.out b hb⟩
end Go.Ai
end
section
namespace Go.Ai
open Go.Proofs
set_option maxRecDepth 10000
set_option maxHeartbeats 40000000
def tabErr (q O:Int) (S E:List (List Int)) (I2 O2:Int) (T:List (List (Int×Int))) : Int :=
 if q > 16∨O > 16∨S.length > 64∨E.length > 256∨longM S > 256∨longM E > 256 then 3
 else if q < 1∨O < 1∨accB q S=false∨sufB q E=false then 1
 else if limErr S E≠0 then limErr S E
 else if treeErr I2 O2 T≠0 then treeErr I2 O2 T
 else if I2≠q∨O2≠O then 5 else 0
structure ListW (g:Nat→Option Blk) (n:Nat) (l:List (List Int)) (sv:AV) : Prop where
 len:l.length≤1000000
 words:∀ w∈l,w.length≤1000000
 ex:∃ svs,SliceV g n sv l.length svs∧RowsW g n l svs∧∀ q∈svs,CapV q
structure TreeW (g:Nat→Option Blk) (n:Nat) (T:List (List (Int×Int))) (sv:AV) : Prop where
 len:T.length≤1000000
 rows:∀ r∈T,r.length≤1000000
 ex:∃ svs,SliceV g n sv T.length svs∧RowsG g n T svs
theorem ListW.mono {g g' : Nat→Option Blk} {n n' : Nat} {l:List (List Int)} {sv:AV} (h:ListW g n l sv) (hn:n≤n') (hg:∀ a,a < n→g' a=g a) : ListW g' n' l sv :=
 ⟨h.len,h.words,let ⟨svs,h1,h2,h3⟩:=h.ex; ⟨svs,h1.mono hn hg,h2.ext hn fun a x ha hx=>(hg a ha).trans hx,h3⟩⟩
theorem TreeW.mono {g g' : Nat→Option Blk} {n n' : Nat} {l:List (List (Int×Int))} {sv:AV} (h:TreeW g n l sv) (hn:n≤n') (hg:∀ a,a < n→g' a=g a) : TreeW g' n' l sv :=
 ⟨h.len,h.rows,let ⟨svs,h1,h2⟩:=h.ex; ⟨svs,h1.mono hn hg,h2.ext hn fun a x ha hx=>(hg a ha).trans hx⟩⟩
theorem Check_w (q O I2 O2:Int) (S E:List (List Int)) (T:List (List (Int×Int))) (g:Nat→Option Blk) (n:Nat) (sv se st:AV) (hS:ListW g n S sv) (hE:ListW g n E se) (hT:TreeW g n T st) :
  WC 0 Tryz.prog 37 [.agg [.lit (.int .i64 q),.lit (.int .i64 O),sv,se,.lit (.int .i64 I2),.lit (.int .i64 O2),st]] ⟨.fn g,n⟩ fun r=>r=.ret (.lit (.int .i64 (tabErr q O S E I2 O2 T))) ⟨.fn g,n⟩:=by
 refine WC.drop1 rfl ?_
 obtain ⟨svs,hsv,hrs,hcs⟩:=hS.ex
 obtain ⟨ses,hse,hre,hce⟩:=hE.ex
 obtain ⟨sts,hst,hrt⟩:=hT.ex
 have hlen:=@lenV Tryz.prog _ _ _ _ _ hsv
 have hlen2:=@lenV Tryz.prog _ _ _ _ _ hse
 have h1s:=hsv.one
 have h1e:=hse.one
 have h1t:=hst.one
 have hone:allOne [.lit (.int .i64 q),.lit (.int .i64 O),sv,se,.lit (.int .i64 I2),.lit (.int .i64 O2),st]=true:=by simp [h1s,h1e,h1t]
 have HG:=fun (g' : Nat→Option Blk) (hg' : ∀ b,b < n→g' b=g b) (a:Nat) (x:Blk) (ha:a < n) (hx:g a=some x)=>(hg' a ha).trans hx
 have HA:=Hide.mk fun g' (hg' : ∀ b,b < n→g' b=g b)=>long_w S hS.len hS.words g' (n+1) sv svs (hsv.mono (by omega) hg') (hrs.ext (by omega) (HG g' hg'))
 have HB:=Hide.mk fun g' (hg' : ∀ b,b < n→g' b=g b)=>long_w E hE.len hE.words g' (n+1) se ses (hse.mono (by omega) hg') (hre.ext (by omega) (HG g' hg'))
 have HC:=Hide.mk fun g' (hg' : ∀ b,b < n→g' b=g b)=>access_w q O I2 O2 se st h1e h1t S hS.len hS.words g' (n+1) sv svs (hsv.mono (by omega) hg') (hrs.ext (by omega) (HG g' hg')) hcs
 have HD:=Hide.mk fun g' (hg' : ∀ b,b < n→g' b=g b)=>suffixes_w q O I2 O2 sv st h1s h1t E hE.len hE.words g' (n+1) se ses (hse.mono (by omega) hg') (hre.ext (by omega) (HG g' hg'))
 have HE:=Hide.mk fun g' (hg' : ∀ b,b < n→g' b=g b)=>limits_w q O I2 O2 st h1t S E hS.len hS.words hE.len hE.words g' (n+1) sv se svs ses (hsv.mono (by omega) hg') (hrs.ext (by omega) (HG g' hg')) (hse.mono (by omega) hg') (hre.ext (by omega) (HG g' hg'))
 have HF:=Hide.mk fun g' (hg' : ∀ b,b < n→g' b=g b)=>CheckTree_w I2 O2 T hT.len hT.rows g' (n+1) st sts (hst.mono (by omega) hg') (hrt.ext (by omega) (HG g' hg'))
 have hmx:longM S≤1000000:=longM_le hS.words
 have hmx2:longM E≤1000000:=longM_le hE.words
 clear hsv hrs hcs hse hre hce hst hrt hS hE hT HG
 obtain ⟨ret,hret⟩ : ∃ b,b=tabErr q O S E I2 O2 T:=⟨_,rfl⟩
 rw [← hret]
 unfold tabErr at hret
 generalize longM S=ls at *
 generalize longM E=le at *
 generalize accB q S=ba at *
 generalize sufB q E=bs at *
 generalize limErr S E=li at *
 generalize treeErr I2 O2 T=te at *
 by_cases t1:q > 16
 ·have hr:ret=3:=by rw [hret,if_pos (.inl t1)]
  clear hret
  refine WC.enterP (noO_ok _ _) hG [] Tryz.func37 rfl (by decide +kernel) (Nat.le_of_ble_eq_true (by kernel_rfl)) ?_
  iterate 8 (all_goals try (first | with_reducible refine splitI (fun h=>?_) (fun h=>?_) | with_reducible refine splitBI (fun h=>?_) (fun h=>?_) | simp (config:={ maxSteps:=1000000 }) (disch:=first | assumption | omega | (simp; done) | fail) [Tryz.results37, *]))
  all_goals exact ⟨Nat.le_succ n,fun b hb=>gput_lt hb⟩
 by_cases t2:O > 16
 ·have hr:ret=3:=by rw [hret,if_pos (.inr (.inl t2))]
  clear hret
  refine WC.enterP (noO_ok _ _) hG [] Tryz.func37 rfl (by decide +kernel) (Nat.le_of_ble_eq_true (by kernel_rfl)) ?_
  iterate 8 (all_goals try (first | with_reducible refine splitI (fun h=>?_) (fun h=>?_) | with_reducible refine splitBI (fun h=>?_) (fun h=>?_) | simp (config:={ maxSteps:=1000000 }) (disch:=first | assumption | omega | (simp; done) | fail) [Tryz.results37, *]))
  all_goals exact ⟨Nat.le_succ n,fun b hb=>gput_lt hb⟩
 by_cases t3:S.length > 64
 ·have hr:ret=3:=by rw [hret,if_pos (.inr (.inr (.inl t3)))]
  have t3I:64 < (S.length:Int):=by omega
  clear hret
  refine WC.enterP (noO_ok _ _) hG [] Tryz.func37 rfl (by decide +kernel) (Nat.le_of_ble_eq_true (by kernel_rfl)) ?_
  iterate 8 (all_goals try (first | with_reducible refine splitI (fun h=>?_) (fun h=>?_) | with_reducible refine splitBI (fun h=>?_) (fun h=>?_) | simp (config:={ maxSteps:=1000000 }) (disch:=first | assumption | omega | (simp; done) | fail) [Tryz.results37, *]))
  all_goals exact ⟨Nat.le_succ n,fun b hb=>gput_lt hb⟩
 have t3I:¬64 < (S.length:Int):=by omega
 by_cases t4:E.length > 256
 ·have hr:ret=3:=by rw [hret,if_pos (.inr (.inr (.inr (.inl t4))))]
  have t4I:256 < (E.length:Int):=by omega
  clear hret
  refine WC.enterP (noO_ok _ _) hG [] Tryz.func37 rfl (by decide +kernel) (Nat.le_of_ble_eq_true (by kernel_rfl)) ?_
  iterate 8 (all_goals try (first | with_reducible refine splitI (fun h=>?_) (fun h=>?_) | with_reducible refine splitBI (fun h=>?_) (fun h=>?_) | simp (config:={ maxSteps:=1000000 }) (disch:=first | assumption | omega | (simp; done) | fail) [Tryz.results37, *]))
  all_goals exact ⟨Nat.le_succ n,fun b hb=>gput_lt hb⟩
 have t4I:¬256 < (E.length:Int):=by omega
 by_cases t5:ls > 256
 ·have hr:ret=3:=by rw [hret,if_pos (.inr (.inr (.inr (.inr (.inl t5)))))]
  have t5I:256 < (ls:Int):=by omega
  clear hret
  refine WC.enterP (noO_ok _ _) hG [] Tryz.func37 rfl (by decide +kernel) (Nat.le_of_ble_eq_true (by kernel_rfl)) ?_
  iterate 8 (all_goals try (first | with_reducible refine splitI (fun h=>?_) (fun h=>?_) | with_reducible refine splitBI (fun h=>?_) (fun h=>?_) | simp (config:={ maxSteps:=1000000 }) (disch:=first | assumption | omega | (simp; done) | fail) [Tryz.results37, *]))
  refine WC.mono (HA.out _ fun b hb=>gput_lt hb) ?_
  rintro _ rfl
  iterate 8 (all_goals try (first | with_reducible refine splitI (fun h=>?_) (fun h=>?_) | with_reducible refine splitBI (fun h=>?_) (fun h=>?_) | simp (config:={ maxSteps:=1000000 }) (disch:=first | assumption | omega | (simp; done) | fail) [Tryz.results37, *]))
  all_goals exact ⟨Nat.le_succ n,fun b hb=>gput_lt hb⟩
 have t5I:¬256 < (ls:Int):=by omega
 by_cases t6:le > 256
 ·have hr:ret=3:=by rw [hret,if_pos (.inr (.inr (.inr (.inr (.inr t6)))))]
  have t6I:256 < (le:Int):=by omega
  clear hret
  refine WC.enterP (noO_ok _ _) hG [] Tryz.func37 rfl (by decide +kernel) (Nat.le_of_ble_eq_true (by kernel_rfl)) ?_
  iterate 8 (all_goals try (first | with_reducible refine splitI (fun h=>?_) (fun h=>?_) | with_reducible refine splitBI (fun h=>?_) (fun h=>?_) | simp (config:={ maxSteps:=1000000 }) (disch:=first | assumption | omega | (simp; done) | fail) [Tryz.results37, *]))
  refine WC.mono (HA.out _ fun b hb=>gput_lt hb) ?_
  rintro _ rfl
  iterate 8 (all_goals try (first | with_reducible refine splitI (fun h=>?_) (fun h=>?_) | with_reducible refine splitBI (fun h=>?_) (fun h=>?_) | simp (config:={ maxSteps:=1000000 }) (disch:=first | assumption | omega | (simp; done) | fail) [Tryz.results37, *]))
  refine WC.mono (HB.out _ fun b hb=>gput_lt hb) ?_
  rintro _ rfl
  iterate 8 (all_goals try (first | with_reducible refine splitI (fun h=>?_) (fun h=>?_) | with_reducible refine splitBI (fun h=>?_) (fun h=>?_) | simp (config:={ maxSteps:=1000000 }) (disch:=first | assumption | omega | (simp; done) | fail) [Tryz.results37, *]))
  all_goals exact ⟨Nat.le_succ n,fun b hb=>gput_lt hb⟩
 have t6I:¬256 < (le:Int):=by omega
 rw [if_neg (by omega)] at hret
 by_cases t7:q < 1
 ·have hr:ret=1:=by rw [hret,if_pos (.inl t7)]
  clear hret
  refine WC.enterP (noO_ok _ _) hG [] Tryz.func37 rfl (by decide +kernel) (Nat.le_of_ble_eq_true (by kernel_rfl)) ?_
  iterate 8 (all_goals try (first | with_reducible refine splitI (fun h=>?_) (fun h=>?_) | with_reducible refine splitBI (fun h=>?_) (fun h=>?_) | simp (config:={ maxSteps:=1000000 }) (disch:=first | assumption | omega | (simp; done) | fail) [Tryz.results37, *]))
  refine WC.mono (HA.out _ fun b hb=>gput_lt hb) ?_
  rintro _ rfl
  iterate 8 (all_goals try (first | with_reducible refine splitI (fun h=>?_) (fun h=>?_) | with_reducible refine splitBI (fun h=>?_) (fun h=>?_) | simp (config:={ maxSteps:=1000000 }) (disch:=first | assumption | omega | (simp; done) | fail) [Tryz.results37, *]))
  refine WC.mono (HB.out _ fun b hb=>gput_lt hb) ?_
  rintro _ rfl
  iterate 8 (all_goals try (first | with_reducible refine splitI (fun h=>?_) (fun h=>?_) | with_reducible refine splitBI (fun h=>?_) (fun h=>?_) | simp (config:={ maxSteps:=1000000 }) (disch:=first | assumption | omega | (simp; done) | fail) [Tryz.results37, *]))
  all_goals exact ⟨Nat.le_succ n,fun b hb=>gput_lt hb⟩
 by_cases t8:O < 1
 ·have hr:ret=1:=by rw [hret,if_pos (.inr (.inl t8))]
  clear hret
  refine WC.enterP (noO_ok _ _) hG [] Tryz.func37 rfl (by decide +kernel) (Nat.le_of_ble_eq_true (by kernel_rfl)) ?_
  iterate 8 (all_goals try (first | with_reducible refine splitI (fun h=>?_) (fun h=>?_) | with_reducible refine splitBI (fun h=>?_) (fun h=>?_) | simp (config:={ maxSteps:=1000000 }) (disch:=first | assumption | omega | (simp; done) | fail) [Tryz.results37, *]))
  refine WC.mono (HA.out _ fun b hb=>gput_lt hb) ?_
  rintro _ rfl
  iterate 8 (all_goals try (first | with_reducible refine splitI (fun h=>?_) (fun h=>?_) | with_reducible refine splitBI (fun h=>?_) (fun h=>?_) | simp (config:={ maxSteps:=1000000 }) (disch:=first | assumption | omega | (simp; done) | fail) [Tryz.results37, *]))
  refine WC.mono (HB.out _ fun b hb=>gput_lt hb) ?_
  rintro _ rfl
  iterate 8 (all_goals try (first | with_reducible refine splitI (fun h=>?_) (fun h=>?_) | with_reducible refine splitBI (fun h=>?_) (fun h=>?_) | simp (config:={ maxSteps:=1000000 }) (disch:=first | assumption | omega | (simp; done) | fail) [Tryz.results37, *]))
  all_goals exact ⟨Nat.le_succ n,fun b hb=>gput_lt hb⟩
 by_cases t9:ba=false
 ·have hr:ret=1:=by rw [hret,if_pos (.inr (.inr (.inl t9)))]
  subst t9
  clear hret
  refine WC.enterP (noO_ok _ _) hG [] Tryz.func37 rfl (by decide +kernel) (Nat.le_of_ble_eq_true (by kernel_rfl)) ?_
  iterate 8 (all_goals try (first | with_reducible refine splitI (fun h=>?_) (fun h=>?_) | with_reducible refine splitBI (fun h=>?_) (fun h=>?_) | simp (config:={ maxSteps:=1000000 }) (disch:=first | assumption | omega | (simp; done) | fail) [Tryz.results37, *]))
  refine WC.mono (HA.out _ fun b hb=>gput_lt hb) ?_
  rintro _ rfl
  iterate 8 (all_goals try (first | with_reducible refine splitI (fun h=>?_) (fun h=>?_) | with_reducible refine splitBI (fun h=>?_) (fun h=>?_) | simp (config:={ maxSteps:=1000000 }) (disch:=first | assumption | omega | (simp; done) | fail) [Tryz.results37, *]))
  refine WC.mono (HB.out _ fun b hb=>gput_lt hb) ?_
  rintro _ rfl
  iterate 8 (all_goals try (first | with_reducible refine splitI (fun h=>?_) (fun h=>?_) | with_reducible refine splitBI (fun h=>?_) (fun h=>?_) | simp (config:={ maxSteps:=1000000 }) (disch:=first | assumption | omega | (simp; done) | fail) [Tryz.results37, *]))
  refine WC.mono (HC.out _ fun b hb=>gput_lt hb) ?_
  rintro _ rfl
  iterate 8 (all_goals try (first | with_reducible refine splitI (fun h=>?_) (fun h=>?_) | with_reducible refine splitBI (fun h=>?_) (fun h=>?_) | simp (config:={ maxSteps:=1000000 }) (disch:=first | assumption | omega | (simp; done) | fail) [Tryz.results37, *]))
  all_goals exact ⟨Nat.le_succ n,fun b hb=>gput_lt hb⟩
 have t9b:ba=true:=by simpa using t9
 subst t9b
 clear t9
 by_cases t10:bs=false
 ·have hr:ret=1:=by rw [hret,if_pos (.inr (.inr (.inr t10)))]
  subst t10
  clear hret
  refine WC.enterP (noO_ok _ _) hG [] Tryz.func37 rfl (by decide +kernel) (Nat.le_of_ble_eq_true (by kernel_rfl)) ?_
  iterate 8 (all_goals try (first | with_reducible refine splitI (fun h=>?_) (fun h=>?_) | with_reducible refine splitBI (fun h=>?_) (fun h=>?_) | simp (config:={ maxSteps:=1000000 }) (disch:=first | assumption | omega | (simp; done) | fail) [Tryz.results37, *]))
  refine WC.mono (HA.out _ fun b hb=>gput_lt hb) ?_
  rintro _ rfl
  iterate 8 (all_goals try (first | with_reducible refine splitI (fun h=>?_) (fun h=>?_) | with_reducible refine splitBI (fun h=>?_) (fun h=>?_) | simp (config:={ maxSteps:=1000000 }) (disch:=first | assumption | omega | (simp; done) | fail) [Tryz.results37, *]))
  refine WC.mono (HB.out _ fun b hb=>gput_lt hb) ?_
  rintro _ rfl
  iterate 8 (all_goals try (first | with_reducible refine splitI (fun h=>?_) (fun h=>?_) | with_reducible refine splitBI (fun h=>?_) (fun h=>?_) | simp (config:={ maxSteps:=1000000 }) (disch:=first | assumption | omega | (simp; done) | fail) [Tryz.results37, *]))
  refine WC.mono (HC.out _ fun b hb=>gput_lt hb) ?_
  rintro _ rfl
  iterate 8 (all_goals try (first | with_reducible refine splitI (fun h=>?_) (fun h=>?_) | with_reducible refine splitBI (fun h=>?_) (fun h=>?_) | simp (config:={ maxSteps:=1000000 }) (disch:=first | assumption | omega | (simp; done) | fail) [Tryz.results37, *]))
  refine WC.mono (HD.out _ fun b hb=>gput_lt hb) ?_
  rintro _ rfl
  iterate 8 (all_goals try (first | with_reducible refine splitI (fun h=>?_) (fun h=>?_) | with_reducible refine splitBI (fun h=>?_) (fun h=>?_) | simp (config:={ maxSteps:=1000000 }) (disch:=first | assumption | omega | (simp; done) | fail) [Tryz.results37, *]))
  all_goals exact ⟨Nat.le_succ n,fun b hb=>gput_lt hb⟩
 have t10b:bs=true:=by simpa using t10
 subst t10b
 clear t10
 rw [if_neg (by simp; omega)] at hret
 by_cases t11:li=0
 ·have hr:ret=if te≠0 then te else if I2≠q∨O2≠O then 5 else 0:=by rw [hret,if_neg (by omega)]
  subst t11
  clear hret
  by_cases t12:te=0
  ·subst t12
   rw [if_neg (by omega)] at hr
   by_cases t13:I2=q
   ·subst t13
    by_cases t14:O2=O
    ·subst t14
     have hr2:ret=0:=by rw [hr,if_neg (by omega)]
     clear hr
     refine WC.enterP (noO_ok _ _) hG [] Tryz.func37 rfl (by decide +kernel) (Nat.le_of_ble_eq_true (by kernel_rfl)) ?_
     iterate 8 (all_goals try (first | with_reducible refine splitI (fun h=>?_) (fun h=>?_) | with_reducible refine splitBI (fun h=>?_) (fun h=>?_) | simp (config:={ maxSteps:=1000000 }) (disch:=first | assumption | omega | (simp; done) | fail) [Tryz.results37, *]))
     refine WC.mono (HA.out _ fun b hb=>gput_lt hb) ?_
     rintro _ rfl
     iterate 8 (all_goals try (first | with_reducible refine splitI (fun h=>?_) (fun h=>?_) | with_reducible refine splitBI (fun h=>?_) (fun h=>?_) | simp (config:={ maxSteps:=1000000 }) (disch:=first | assumption | omega | (simp; done) | fail) [Tryz.results37, *]))
     refine WC.mono (HB.out _ fun b hb=>gput_lt hb) ?_
     rintro _ rfl
     iterate 8 (all_goals try (first | with_reducible refine splitI (fun h=>?_) (fun h=>?_) | with_reducible refine splitBI (fun h=>?_) (fun h=>?_) | simp (config:={ maxSteps:=1000000 }) (disch:=first | assumption | omega | (simp; done) | fail) [Tryz.results37, *]))
     refine WC.mono (HC.out _ fun b hb=>gput_lt hb) ?_
     rintro _ rfl
     iterate 8 (all_goals try (first | with_reducible refine splitI (fun h=>?_) (fun h=>?_) | with_reducible refine splitBI (fun h=>?_) (fun h=>?_) | simp (config:={ maxSteps:=1000000 }) (disch:=first | assumption | omega | (simp; done) | fail) [Tryz.results37, *]))
     refine WC.mono (HD.out _ fun b hb=>gput_lt hb) ?_
     rintro _ rfl
     iterate 8 (all_goals try (first | with_reducible refine splitI (fun h=>?_) (fun h=>?_) | with_reducible refine splitBI (fun h=>?_) (fun h=>?_) | simp (config:={ maxSteps:=1000000 }) (disch:=first | assumption | omega | (simp; done) | fail) [Tryz.results37, *]))
     refine WC.mono (HE.out _ fun b hb=>gput_lt hb) ?_
     rintro _ rfl
     iterate 8 (all_goals try (first | with_reducible refine splitI (fun h=>?_) (fun h=>?_) | with_reducible refine splitBI (fun h=>?_) (fun h=>?_) | simp (config:={ maxSteps:=1000000 }) (disch:=first | assumption | omega | (simp; done) | fail) [Tryz.results37, *]))
     refine WC.mono (HF.out _ fun b hb=>gput_lt hb) ?_
     rintro _ rfl
     iterate 8 (all_goals try (first | with_reducible refine splitI (fun h=>?_) (fun h=>?_) | with_reducible refine splitBI (fun h=>?_) (fun h=>?_) | simp (config:={ maxSteps:=1000000 }) (disch:=first | assumption | omega | (simp; done) | fail) [Tryz.results37, *]))
     all_goals exact ⟨Nat.le_succ n,fun b hb=>gput_lt hb⟩
    ·have hr2:ret=5:=by rw [hr,if_pos (.inr t14)]
     clear hr
     refine WC.enterP (noO_ok _ _) hG [] Tryz.func37 rfl (by decide +kernel) (Nat.le_of_ble_eq_true (by kernel_rfl)) ?_
     iterate 8 (all_goals try (first | with_reducible refine splitI (fun h=>?_) (fun h=>?_) | with_reducible refine splitBI (fun h=>?_) (fun h=>?_) | simp (config:={ maxSteps:=1000000 }) (disch:=first | assumption | omega | (simp; done) | fail) [Tryz.results37, *]))
     refine WC.mono (HA.out _ fun b hb=>gput_lt hb) ?_
     rintro _ rfl
     iterate 8 (all_goals try (first | with_reducible refine splitI (fun h=>?_) (fun h=>?_) | with_reducible refine splitBI (fun h=>?_) (fun h=>?_) | simp (config:={ maxSteps:=1000000 }) (disch:=first | assumption | omega | (simp; done) | fail) [Tryz.results37, *]))
     refine WC.mono (HB.out _ fun b hb=>gput_lt hb) ?_
     rintro _ rfl
     iterate 8 (all_goals try (first | with_reducible refine splitI (fun h=>?_) (fun h=>?_) | with_reducible refine splitBI (fun h=>?_) (fun h=>?_) | simp (config:={ maxSteps:=1000000 }) (disch:=first | assumption | omega | (simp; done) | fail) [Tryz.results37, *]))
     refine WC.mono (HC.out _ fun b hb=>gput_lt hb) ?_
     rintro _ rfl
     iterate 8 (all_goals try (first | with_reducible refine splitI (fun h=>?_) (fun h=>?_) | with_reducible refine splitBI (fun h=>?_) (fun h=>?_) | simp (config:={ maxSteps:=1000000 }) (disch:=first | assumption | omega | (simp; done) | fail) [Tryz.results37, *]))
     refine WC.mono (HD.out _ fun b hb=>gput_lt hb) ?_
     rintro _ rfl
     iterate 8 (all_goals try (first | with_reducible refine splitI (fun h=>?_) (fun h=>?_) | with_reducible refine splitBI (fun h=>?_) (fun h=>?_) | simp (config:={ maxSteps:=1000000 }) (disch:=first | assumption | omega | (simp; done) | fail) [Tryz.results37, *]))
     refine WC.mono (HE.out _ fun b hb=>gput_lt hb) ?_
     rintro _ rfl
     iterate 8 (all_goals try (first | with_reducible refine splitI (fun h=>?_) (fun h=>?_) | with_reducible refine splitBI (fun h=>?_) (fun h=>?_) | simp (config:={ maxSteps:=1000000 }) (disch:=first | assumption | omega | (simp; done) | fail) [Tryz.results37, *]))
     refine WC.mono (HF.out _ fun b hb=>gput_lt hb) ?_
     rintro _ rfl
     iterate 8 (all_goals try (first | with_reducible refine splitI (fun h=>?_) (fun h=>?_) | with_reducible refine splitBI (fun h=>?_) (fun h=>?_) | simp (config:={ maxSteps:=1000000 }) (disch:=first | assumption | omega | (simp; done) | fail) [Tryz.results37, *]))
     all_goals exact ⟨Nat.le_succ n,fun b hb=>gput_lt hb⟩
   ·have hr2:ret=5:=by rw [hr,if_pos (.inl t13)]
    clear hr
    refine WC.enterP (noO_ok _ _) hG [] Tryz.func37 rfl (by decide +kernel) (Nat.le_of_ble_eq_true (by kernel_rfl)) ?_
    iterate 8 (all_goals try (first | with_reducible refine splitI (fun h=>?_) (fun h=>?_) | with_reducible refine splitBI (fun h=>?_) (fun h=>?_) | simp (config:={ maxSteps:=1000000 }) (disch:=first | assumption | omega | (simp; done) | fail) [Tryz.results37, *]))
    refine WC.mono (HA.out _ fun b hb=>gput_lt hb) ?_
    rintro _ rfl
    iterate 8 (all_goals try (first | with_reducible refine splitI (fun h=>?_) (fun h=>?_) | with_reducible refine splitBI (fun h=>?_) (fun h=>?_) | simp (config:={ maxSteps:=1000000 }) (disch:=first | assumption | omega | (simp; done) | fail) [Tryz.results37, *]))
    refine WC.mono (HB.out _ fun b hb=>gput_lt hb) ?_
    rintro _ rfl
    iterate 8 (all_goals try (first | with_reducible refine splitI (fun h=>?_) (fun h=>?_) | with_reducible refine splitBI (fun h=>?_) (fun h=>?_) | simp (config:={ maxSteps:=1000000 }) (disch:=first | assumption | omega | (simp; done) | fail) [Tryz.results37, *]))
    refine WC.mono (HC.out _ fun b hb=>gput_lt hb) ?_
    rintro _ rfl
    iterate 8 (all_goals try (first | with_reducible refine splitI (fun h=>?_) (fun h=>?_) | with_reducible refine splitBI (fun h=>?_) (fun h=>?_) | simp (config:={ maxSteps:=1000000 }) (disch:=first | assumption | omega | (simp; done) | fail) [Tryz.results37, *]))
    refine WC.mono (HD.out _ fun b hb=>gput_lt hb) ?_
    rintro _ rfl
    iterate 8 (all_goals try (first | with_reducible refine splitI (fun h=>?_) (fun h=>?_) | with_reducible refine splitBI (fun h=>?_) (fun h=>?_) | simp (config:={ maxSteps:=1000000 }) (disch:=first | assumption | omega | (simp; done) | fail) [Tryz.results37, *]))
    refine WC.mono (HE.out _ fun b hb=>gput_lt hb) ?_
    rintro _ rfl
    iterate 8 (all_goals try (first | with_reducible refine splitI (fun h=>?_) (fun h=>?_) | with_reducible refine splitBI (fun h=>?_) (fun h=>?_) | simp (config:={ maxSteps:=1000000 }) (disch:=first | assumption | omega | (simp; done) | fail) [Tryz.results37, *]))
    refine WC.mono (HF.out _ fun b hb=>gput_lt hb) ?_
    rintro _ rfl
    iterate 8 (all_goals try (first | with_reducible refine splitI (fun h=>?_) (fun h=>?_) | with_reducible refine splitBI (fun h=>?_) (fun h=>?_) | simp (config:={ maxSteps:=1000000 }) (disch:=first | assumption | omega | (simp; done) | fail) [Tryz.results37, *]))
    all_goals exact ⟨Nat.le_succ n,fun b hb=>gput_lt hb⟩
  ·have hr2:ret=te:=by rw [hr,if_pos t12]
   clear hr
   refine WC.enterP (noO_ok _ _) hG [] Tryz.func37 rfl (by decide +kernel) (Nat.le_of_ble_eq_true (by kernel_rfl)) ?_
   iterate 8 (all_goals try (first | with_reducible refine splitI (fun h=>?_) (fun h=>?_) | with_reducible refine splitBI (fun h=>?_) (fun h=>?_) | simp (config:={ maxSteps:=1000000 }) (disch:=first | assumption | omega | (simp; done) | fail) [Tryz.results37, *]))
   refine WC.mono (HA.out _ fun b hb=>gput_lt hb) ?_
   rintro _ rfl
   iterate 8 (all_goals try (first | with_reducible refine splitI (fun h=>?_) (fun h=>?_) | with_reducible refine splitBI (fun h=>?_) (fun h=>?_) | simp (config:={ maxSteps:=1000000 }) (disch:=first | assumption | omega | (simp; done) | fail) [Tryz.results37, *]))
   refine WC.mono (HB.out _ fun b hb=>gput_lt hb) ?_
   rintro _ rfl
   iterate 8 (all_goals try (first | with_reducible refine splitI (fun h=>?_) (fun h=>?_) | with_reducible refine splitBI (fun h=>?_) (fun h=>?_) | simp (config:={ maxSteps:=1000000 }) (disch:=first | assumption | omega | (simp; done) | fail) [Tryz.results37, *]))
   refine WC.mono (HC.out _ fun b hb=>gput_lt hb) ?_
   rintro _ rfl
   iterate 8 (all_goals try (first | with_reducible refine splitI (fun h=>?_) (fun h=>?_) | with_reducible refine splitBI (fun h=>?_) (fun h=>?_) | simp (config:={ maxSteps:=1000000 }) (disch:=first | assumption | omega | (simp; done) | fail) [Tryz.results37, *]))
   refine WC.mono (HD.out _ fun b hb=>gput_lt hb) ?_
   rintro _ rfl
   iterate 8 (all_goals try (first | with_reducible refine splitI (fun h=>?_) (fun h=>?_) | with_reducible refine splitBI (fun h=>?_) (fun h=>?_) | simp (config:={ maxSteps:=1000000 }) (disch:=first | assumption | omega | (simp; done) | fail) [Tryz.results37, *]))
   refine WC.mono (HE.out _ fun b hb=>gput_lt hb) ?_
   rintro _ rfl
   iterate 8 (all_goals try (first | with_reducible refine splitI (fun h=>?_) (fun h=>?_) | with_reducible refine splitBI (fun h=>?_) (fun h=>?_) | simp (config:={ maxSteps:=1000000 }) (disch:=first | assumption | omega | (simp; done) | fail) [Tryz.results37, *]))
   refine WC.mono (HF.out _ fun b hb=>gput_lt hb) ?_
   rintro _ rfl
   iterate 8 (all_goals try (first | with_reducible refine splitI (fun h=>?_) (fun h=>?_) | with_reducible refine splitBI (fun h=>?_) (fun h=>?_) | simp (config:={ maxSteps:=1000000 }) (disch:=first | assumption | omega | (simp; done) | fail) [Tryz.results37, *]))
   all_goals exact ⟨Nat.le_succ n,fun b hb=>gput_lt hb⟩
 ·have hr:ret=li:=by rw [hret,if_pos t11]
  clear hret
  refine WC.enterP (noO_ok _ _) hG [] Tryz.func37 rfl (by decide +kernel) (Nat.le_of_ble_eq_true (by kernel_rfl)) ?_
  iterate 8 (all_goals try (first | with_reducible refine splitI (fun h=>?_) (fun h=>?_) | with_reducible refine splitBI (fun h=>?_) (fun h=>?_) | simp (config:={ maxSteps:=1000000 }) (disch:=first | assumption | omega | (simp; done) | fail) [Tryz.results37, *]))
  refine WC.mono (HA.out _ fun b hb=>gput_lt hb) ?_
  rintro _ rfl
  iterate 8 (all_goals try (first | with_reducible refine splitI (fun h=>?_) (fun h=>?_) | with_reducible refine splitBI (fun h=>?_) (fun h=>?_) | simp (config:={ maxSteps:=1000000 }) (disch:=first | assumption | omega | (simp; done) | fail) [Tryz.results37, *]))
  refine WC.mono (HB.out _ fun b hb=>gput_lt hb) ?_
  rintro _ rfl
  iterate 8 (all_goals try (first | with_reducible refine splitI (fun h=>?_) (fun h=>?_) | with_reducible refine splitBI (fun h=>?_) (fun h=>?_) | simp (config:={ maxSteps:=1000000 }) (disch:=first | assumption | omega | (simp; done) | fail) [Tryz.results37, *]))
  refine WC.mono (HC.out _ fun b hb=>gput_lt hb) ?_
  rintro _ rfl
  iterate 8 (all_goals try (first | with_reducible refine splitI (fun h=>?_) (fun h=>?_) | with_reducible refine splitBI (fun h=>?_) (fun h=>?_) | simp (config:={ maxSteps:=1000000 }) (disch:=first | assumption | omega | (simp; done) | fail) [Tryz.results37, *]))
  refine WC.mono (HD.out _ fun b hb=>gput_lt hb) ?_
  rintro _ rfl
  iterate 8 (all_goals try (first | with_reducible refine splitI (fun h=>?_) (fun h=>?_) | with_reducible refine splitBI (fun h=>?_) (fun h=>?_) | simp (config:={ maxSteps:=1000000 }) (disch:=first | assumption | omega | (simp; done) | fail) [Tryz.results37, *]))
  refine WC.mono (HE.out _ fun b hb=>gput_lt hb) ?_
  rintro _ rfl
  iterate 8 (all_goals try (first | with_reducible refine splitI (fun h=>?_) (fun h=>?_) | with_reducible refine splitBI (fun h=>?_) (fun h=>?_) | simp (config:={ maxSteps:=1000000 }) (disch:=first | assumption | omega | (simp; done) | fail) [Tryz.results37, *]))
  all_goals exact ⟨Nat.le_succ n,fun b hb=>gput_lt hb⟩
end Go.Ai
end
