/- A small verified interpreter over names, its proofs, and what was proved with it. No condition. -/
import Derived.Test.YtpimmmnkcgnjjaaGreatRows
import Derived.Test.YtpimmmnkcgnjjaaGreatN05
import Derived.Test.YtpimmmnkcgnjjaaGreatN06
set_option linter.all false
set_option linter.deprecated false
section
namespace Go.Ai
open Go.Proofs
set_option maxRecDepth 100000
attribute [simp] Tryz.underlying0 Tryz.underlying1 Tryz.underlying2 Tryz.underlying3 Tryz.underlying4 Tryz.underlying5 Tryz.underlying6 Tryz.underlying7 Tryz.underlying8 Tryz.underlying9 Tryz.underlying10 Tryz.underlying11 Tryz.underlying12 Tryz.underlying13 Tryz.underlying14 Tryz.underlying15 Tryz.underlying16 Tryz.underlying17 Tryz.underlying18 Tryz.underlying19 Tryz.underlying20 Tryz.underlying21 Tryz.underlying22 Tryz.underlying23 Tryz.underlying24 Tryz.underlying25 Tryz.underlying26 Tryz.underlying27 Tryz.underlying28 Tryz.underlying29 Tryz.underlying30 Tryz.underlying31 Tryz.underlying32 Tryz.underlying33 Tryz.underlying34 Tryz.underlying35 Tryz.underlying36 Tryz.underlying37 Tryz.underlying38 Tryz.underlying39 Tryz.underlying40 Tryz.underlying41 Tryz.underlying42 Tryz.underlying43 Tryz.underlying44 Tryz.underlying45 Tryz.underlying46 Tryz.underlying47 Tryz.underlying48 Tryz.underlying49 Tryz.underlying50 Tryz.underlying51 Tryz.underlying52 Tryz.underlying53 Tryz.underlying54 Tryz.underlying55 Tryz.underlying56 Tryz.underlying57 Tryz.underlying58 Tryz.underlying59 Tryz.underlying60 Tryz.underlying61 Tryz.underlying62 Tryz.underlying63 Tryz.underlying64 Tryz.underlying65 Tryz.underlying66 Tryz.underlying67 Tryz.underlying68 Tryz.underlying69 Tryz.underlying70 Tryz.underlying71 Tryz.underlying72 Tryz.underlying73 Tryz.underlying74 Tryz.underlying75 Tryz.underlying76 Tryz.underlying77 Tryz.underlying78 Tryz.underlying79 Tryz.underlying80 Tryz.underlying81 Tryz.underlying82 Tryz.underlying83 Tryz.underlying84 Tryz.underlying85 Tryz.underlying86 Tryz.underlying87 Tryz.underlying88 Tryz.underlying89 Tryz.underlying90 Tryz.underlying91 Tryz.underlying92 Tryz.underlying93 Tryz.underlying94 Tryz.underlying95 Tryz.underlying96 Tryz.underlying97 Tryz.underlying98 Tryz.underlying99 Tryz.underlying100 Tryz.underlying101 Tryz.underlying102 Tryz.underlying103 Tryz.underlying104 Tryz.underlying105 Tryz.underlying106 Tryz.underlying107 Tryz.underlying108 Tryz.underlying109 Tryz.underlying110 Tryz.underlying111 Tryz.underlying112 Tryz.underlying113 Tryz.underlying114 Tryz.underlying115 Tryz.underlying116 Tryz.underlying117 Tryz.underlying118 Tryz.underlying119 Tryz.underlying120 Tryz.underlying121 Tryz.underlying122 Tryz.underlying123 Tryz.underlying124 Tryz.underlying125 Tryz.underlying126 Tryz.underlying127 Tryz.underlying128 Tryz.underlying129 Tryz.underlying130 Tryz.underlying131 Tryz.underlying132 Tryz.underlying133 Tryz.underlying134 Tryz.underlying135 Tryz.underlying136 Tryz.underlying137 Tryz.underlying138 Tryz.underlying139 Tryz.underlying140 Tryz.underlying141 Tryz.underlying142 Tryz.underlying143 Tryz.underlying144 Tryz.underlying145 Tryz.underlying146 Tryz.underlying147 Tryz.underlying148 Tryz.underlying149 Tryz.underlying150 Tryz.underlying151 Tryz.underlying152 Tryz.underlying153 Tryz.underlying154 Tryz.underlying155 Tryz.underlying156 Tryz.underlying157 Tryz.underlying158 Tryz.underlying159 Tryz.underlying160 Tryz.underlying161 Tryz.underlying162 Tryz.underlying163 Tryz.underlying164 Tryz.underlying165 Tryz.underlying166 Tryz.underlying167 Tryz.underlying168 Tryz.underlying169 Tryz.underlying170 Tryz.underlying171 Tryz.underlying172 Tryz.underlying173 Tryz.underlying174 Tryz.underlying175 Tryz.underlying176 Tryz.underlying177 Tryz.underlying178 Tryz.underlying179 Tryz.underlying180 Tryz.underlying181 Tryz.underlying182 Tryz.underlying183 Tryz.underlying184 Tryz.underlying185 Tryz.underlying186 Tryz.underlying187 Tryz.underlying188 Tryz.underlying189 Tryz.underlying190 Tryz.underlying191 Tryz.underlying192 Tryz.underlying193 Tryz.underlying194 Tryz.underlying195 Tryz.underlying196 Tryz.underlying197 Tryz.underlying198 Tryz.underlying199 Tryz.underlying200 Tryz.underlying201 Tryz.underlying202 Tryz.underlying203 Tryz.underlying204 Tryz.underlying205 Tryz.underlying206 Tryz.underlying207 Tryz.underlying208 Tryz.underlying209 Tryz.underlying210 Tryz.underlying211 Tryz.underlying212 Tryz.underlying213 Tryz.underlying214 Tryz.underlying215 Tryz.underlying216 Tryz.underlying217 Tryz.underlying218 Tryz.underlying219 Tryz.underlying220 Tryz.underlying221 Tryz.underlying222 Tryz.underlying223 Tryz.underlying224
theorem hb3:hasBody Tryz.prog 3=true:=by kernel_rfl
theorem hb4:hasBody Tryz.prog 4=true:=by kernel_rfl
theorem hb5:hasBody Tryz.prog 5=true:=by kernel_rfl
theorem hb12:hasBody Tryz.prog 12=true:=by kernel_rfl
theorem hb13:hasBody Tryz.prog 13=true:=by kernel_rfl
theorem hb14:hasBody Tryz.prog 14=true:=by kernel_rfl
theorem hb15:hasBody Tryz.prog 15=true:=by kernel_rfl
theorem hb20:hasBody Tryz.prog 20=true:=by kernel_rfl
theorem hb29:hasBody Tryz.prog 29=true:=by kernel_rfl
theorem hb37:hasBody Tryz.prog 37=true:=by kernel_rfl
theorem hb49:hasBody Tryz.prog 49=true:=by kernel_rfl
theorem hb51:hasBody Tryz.prog 51=true:=by kernel_rfl
theorem hb52:hasBody Tryz.prog 52=true:=by kernel_rfl
theorem hb53:hasBody Tryz.prog 53=true:=by kernel_rfl
theorem hb54:hasBody Tryz.prog 54=true:=by kernel_rfl
theorem hb55:hasBody Tryz.prog 55=true:=by kernel_rfl
theorem hb56:hasBody Tryz.prog 56=true:=by kernel_rfl
theorem hb57:hasBody Tryz.prog 57=true:=by kernel_rfl
theorem hb58:hasBody Tryz.prog 58=true:=by kernel_rfl
theorem hb66:hasBody Tryz.prog 66=true:=by kernel_rfl
theorem hb70:hasBody Tryz.prog 70=true:=by kernel_rfl
theorem hb77:hasBody Tryz.prog 77=true:=by kernel_rfl
theorem hb78:hasBody Tryz.prog 78=true:=by kernel_rfl
theorem hb80:hasBody Tryz.prog 80=true:=by kernel_rfl
theorem hb85:hasBody Tryz.prog 85=true:=by kernel_rfl
theorem hb88:hasBody Tryz.prog 88=true:=by kernel_rfl
theorem hb89:hasBody Tryz.prog 89=true:=by kernel_rfl
theorem hb90:hasBody Tryz.prog 90=true:=by kernel_rfl
theorem hb91:hasBody Tryz.prog 91=true:=by kernel_rfl
theorem hb93:hasBody Tryz.prog 93=true:=by kernel_rfl
theorem hb96:hasBody Tryz.prog 96=true:=by kernel_rfl
theorem hb100:hasBody Tryz.prog 100=true:=by kernel_rfl
theorem hb101:hasBody Tryz.prog 101=true:=by kernel_rfl
theorem hb103:hasBody Tryz.prog 103=true:=by kernel_rfl
theorem hb105:hasBody Tryz.prog 105=true:=by kernel_rfl
theorem hb106:hasBody Tryz.prog 106=true:=by kernel_rfl
theorem hb107:hasBody Tryz.prog 107=true:=by kernel_rfl
theorem hb108:hasBody Tryz.prog 108=true:=by kernel_rfl
theorem hb109:hasBody Tryz.prog 109=true:=by kernel_rfl
theorem hb111:hasBody Tryz.prog 111=true:=by kernel_rfl
theorem hb112:hasBody Tryz.prog 112=true:=by kernel_rfl
theorem hb115:hasBody Tryz.prog 115=true:=by kernel_rfl
theorem hb121:hasBody Tryz.prog 121=true:=by kernel_rfl
theorem hb122:hasBody Tryz.prog 122=true:=by kernel_rfl
theorem hb124:hasBody Tryz.prog 124=true:=by kernel_rfl
theorem hb125:hasBody Tryz.prog 125=true:=by kernel_rfl
theorem hb126:hasBody Tryz.prog 126=true:=by kernel_rfl
theorem hb132:hasBody Tryz.prog 132=true:=by kernel_rfl
theorem hb135:hasBody Tryz.prog 135=true:=by kernel_rfl
theorem hb139:hasBody Tryz.prog 139=true:=by kernel_rfl
theorem hb140:hasBody Tryz.prog 140=true:=by kernel_rfl
theorem hb141:hasBody Tryz.prog 141=true:=by kernel_rfl
theorem hb143:hasBody Tryz.prog 143=true:=by kernel_rfl
theorem hb144:hasBody Tryz.prog 144=true:=by kernel_rfl
theorem hb158:hasBody Tryz.prog 158=true:=by kernel_rfl
attribute [simp] hb3 hb4 hb5 hb12 hb13 hb14 hb15 hb20 hb29 hb37 hb49 hb51 hb52 hb53 hb54 hb55 hb56 hb57 hb58 hb66 hb70 hb77 hb78 hb80 hb85 hb88 hb89 hb90 hb91 hb93 hb96 hb100 hb101 hb103 hb105 hb106 hb107 hb108 hb109 hb111 hb112 hb115 hb121 hb122 hb124 hb125 hb126 hb132 hb135 hb139 hb140 hb141 hb143 hb144 hb158
theorem ag_3:tIsAgg Tryz.prog 3=some (false,1):=by kernel_rfl
theorem ag_84:tIsAgg Tryz.prog 84=some (true,2):=by kernel_rfl
theorem ag_65:tIsAgg Tryz.prog 65=some (false,1):=by kernel_rfl
theorem ag_97:tIsAgg Tryz.prog 97=some (true,2):=by kernel_rfl
theorem ag_22:tIsAgg Tryz.prog 22=some (false,1):=by kernel_rfl
theorem ag_98:tIsAgg Tryz.prog 98=some (false,1):=by kernel_rfl
theorem ag_23:tIsAgg Tryz.prog 23=some (false,1):=by kernel_rfl
theorem ag_59:tIsAgg Tryz.prog 59=some (true,3):=by kernel_rfl
theorem ag_52:tIsAgg Tryz.prog 52=some (false,1):=by kernel_rfl
theorem ag_54:tIsAgg Tryz.prog 54=some (true,3):=by kernel_rfl
theorem ag_25:tIsAgg Tryz.prog 25=some (true,3):=by kernel_rfl
theorem ag_27:tIsAgg Tryz.prog 27=some (true,7):=by kernel_rfl
theorem ag_4:tIsAgg Tryz.prog 4=some (false,1):=by kernel_rfl
theorem ag_5:tIsAgg Tryz.prog 5=some (false,1):=by kernel_rfl
theorem zl_97:zeroL Tryz.prog 97=some [.lit (.int .i64 0),.lit (.int .i64 0)]:=by kernel_rfl
theorem zl_84:zeroL Tryz.prog 84=some [.lit (.slice none 0 0),.lit (.slice none 0 0)]:=by kernel_rfl
theorem zl_59:zeroL Tryz.prog 59=some [.lit (.int .i64 0),.lit (.int .i64 0),.lit (.int .i64 0)]:=by kernel_rfl
theorem zl_27:zeroL Tryz.prog 27=some [.lit (.int .i64 0),.lit (.int .i64 0),.lit (.slice none 0 0),.lit (.slice none 0 0),.lit (.int .i64 0),.lit (.int .i64 0),.lit (.slice none 0 0)]:=by kernel_rfl
theorem zl_22:zeroL Tryz.prog 22=some [.lit (.slice none 0 0)]:=by kernel_rfl
theorem zl_23:zeroL Tryz.prog 23=some [.lit (.slice none 0 0)]:=by kernel_rfl
theorem zl_25:zeroL Tryz.prog 25=some [.lit (.int .i64 0),.lit (.int .i64 0),.lit (.slice none 0 0)]:=by kernel_rfl
theorem fo_27_0:fldOff Tryz.prog 27 0=some 0:=by kernel_rfl
theorem fo_27_2:fldOff Tryz.prog 27 2=some 2:=by kernel_rfl
theorem fo_84_1:fldOff Tryz.prog 84 1=some 1:=by kernel_rfl
theorem fo_84_0:fldOff Tryz.prog 84 0=some 0:=by kernel_rfl
theorem fo_97_0:fldOff Tryz.prog 97 0=some 0:=by kernel_rfl
theorem fo_97_1:fldOff Tryz.prog 97 1=some 1:=by kernel_rfl
theorem fo_25_2:fldOff Tryz.prog 25 2=some 2:=by kernel_rfl
theorem fo_54_0:fldOff Tryz.prog 54 0=some 0:=by kernel_rfl
theorem fo_54_2:fldOff Tryz.prog 54 2=some 2:=by kernel_rfl
theorem fo_54_1:fldOff Tryz.prog 54 1=some 1:=by kernel_rfl
theorem fo_27_4:fldOff Tryz.prog 27 4=some 4:=by kernel_rfl
theorem fo_25_1:fldOff Tryz.prog 25 1=some 1:=by kernel_rfl
theorem fo_25_0:fldOff Tryz.prog 25 0=some 0:=by kernel_rfl
theorem fo_27_3:fldOff Tryz.prog 27 3=some 3:=by kernel_rfl
theorem fo_27_1:fldOff Tryz.prog 27 1=some 1:=by kernel_rfl
theorem es_52:elSz Tryz.prog 52=some (none,2):=by kernel_rfl
theorem es_22:elSz Tryz.prog 22=some (none,1):=by kernel_rfl
theorem es_98:elSz Tryz.prog 98=some (none,2):=by kernel_rfl
theorem es_65:elSz Tryz.prog 65=some (none,1):=by kernel_rfl
theorem es_23:elSz Tryz.prog 23=some (none,1):=by kernel_rfl
theorem es_160:elSz Tryz.prog 160=some (none,1):=by kernel_rfl
theorem es_42:elSz Tryz.prog 42=some (none,1):=by kernel_rfl
theorem is_102:isSet Tryz.prog 102=true:=by kernel_rfl
theorem bi_97:bldI Tryz.prog 97=some ([.lit (.int .i64 0),.lit (.int .i64 0)],[(0,1),(1,1)]):=by kernel_rfl
theorem bi_59:bldI Tryz.prog 59=some ([.lit (.int .i64 0),.lit (.int .i64 0),.lit (.int .i64 0)],[(0,1),(1,1),(2,1)]):=by kernel_rfl
theorem bi_54:bldI Tryz.prog 54=some ([.lit (.int .i64 0),.lit (.int .i64 0),.lit (.slice none 0 0)],[(0,1),(1,1),(2,1)]):=by kernel_rfl
theorem bi_25:bldI Tryz.prog 25=some ([.lit (.int .i64 0),.lit (.int .i64 0),.lit (.slice none 0 0)],[(0,1),(1,1),(2,1)]):=by kernel_rfl
theorem bi_27:bldI Tryz.prog 27=some ([.lit (.int .i64 0),.lit (.int .i64 0),.lit (.slice none 0 0),.lit (.slice none 0 0),.lit (.int .i64 0),.lit (.int .i64 0),.lit (.slice none 0 0)],[(0,1),(1,1),(2,1),(3,1),(4,3)]):=by kernel_rfl
theorem bs_65:bsI Tryz.prog 65=some ([.lit (.int .i64 0)],1):=by kernel_rfl
theorem bs_98:bsI Tryz.prog 98=some ([.lit (.int .i64 0),.lit (.int .i64 0)],2):=by kernel_rfl
theorem bs_23:bsI Tryz.prog 23=some ([.lit (.slice none 0 0)],1):=by kernel_rfl
theorem bs_22:bsI Tryz.prog 22=some ([.lit (.slice none 0 0)],1):=by kernel_rfl
theorem ap_65_65:apI Tryz.prog 65 65=some (1,8):=by kernel_rfl
theorem ap_98_98:apI Tryz.prog 98 98=some (2,16):=by kernel_rfl
theorem ap_23_23:apI Tryz.prog 23 23=some (1,24):=by kernel_rfl
theorem ap_22_22:apI Tryz.prog 22 22=some (1,24):=by kernel_rfl
attribute [simp] ag_3 ag_84 ag_65 ag_97 ag_22 ag_98 ag_23 ag_59 ag_52 ag_54 ag_25 ag_27 ag_4 ag_5 zl_97 zl_84 zl_59 zl_27 zl_22 zl_23 zl_25 fo_27_0 fo_27_2 fo_84_1 fo_84_0 fo_97_0 fo_97_1 fo_25_2 fo_54_0 fo_54_2 fo_54_1 fo_27_4 fo_25_1 fo_25_0 fo_27_3 fo_27_1 es_52 es_22 es_98 es_65 es_23 es_160 es_42 is_102 bi_97 bi_59 bi_54 bi_25 bi_27 bs_65 bs_98 bs_23 bs_22 ap_65_65 ap_98_98 ap_23_23 ap_22_22
theorem gsize:Tryz.prog.globals.size=0:=by kernel_rfl
end Go.Ai
end
section
namespace Go.Ai
def pl15:List (Nat×List It):=[(9,[.run 0,.run 1,.run 2,.run 3,.run 4,.run 5,.run 6,.run 7,.run 8,.run 9,.run 10,.run 11,.run 12,.run 13,.run 14,.run 15,.run 16,.run 17,.run 18,.run 19,.run 20,.run 21,.run 22,.run 23,.run 24,.run 25,.run 26,.run 27,.run 28,.run 29,.run 30,.run 31]),(17,[.run 0,.run 1,.run 4,.run 5,.run 2,.run 3,.gate [5] [],.run 6,.run 7,.run 8])]
theorem pl15_at_9:planAt pl15 9=[.run 0,.run 1,.run 2,.run 3,.run 4,.run 5,.run 6,.run 7,.run 8,.run 9,.run 10,.run 11,.run 12,.run 13,.run 14,.run 15,.run 16,.run 17,.run 18,.run 19,.run 20,.run 21,.run 22,.run 23,.run 24,.run 25,.run 26,.run 27,.run 28,.run 29,.run 30,.run 31]:=(rfl)
attribute [simp] pl15_at_9
theorem pl15_at_17:planAt pl15 17=[.run 0,.run 1,.run 4,.run 5,.run 2,.run 3,.gate [5] [],.run 6,.run 7,.run 8]:=(rfl)
attribute [simp] pl15_at_17
def pl49:List (Nat×List It):=[(11,[.run 0,.run 1,.run 2,.run 3,.run 4,.run 5,.run 6,.gate [3,1] [],.run 7,.run 8])]
theorem pl49_at_11:planAt pl49 11=[.run 0,.run 1,.run 2,.run 3,.run 4,.run 5,.run 6,.gate [3,1] [],.run 7,.run 8]:=(rfl)
attribute [simp] pl49_at_11
def pl58:List (Nat×List It):=[(8,[.run 0,.run 1,.run 2,.run 3,.run 4,.run 5,.run 6,.run 7,.run 8]),(23,[.run 0,.run 1,.run 2,.run 3,.run 4,.run 5,.run 6,.run 7,.run 8,.run 9,.run 10])]
theorem pl58_at_8:planAt pl58 8=[.run 0,.run 1,.run 2,.run 3,.run 4,.run 5,.run 6,.run 7,.run 8]:=(rfl)
attribute [simp] pl58_at_8
theorem pl58_at_23:planAt pl58 23=[.run 0,.run 1,.run 2,.run 3,.run 4,.run 5,.run 6,.run 7,.run 8,.run 9,.run 10]:=(rfl)
attribute [simp] pl58_at_23
def pl80:List (Nat×List It):=[(8,[.run 0,.run 1,.run 2,.run 3,.run 4,.run 5,.run 6,.run 7,.run 8]),(10,[.run 0,.run 1,.run 2,.run 3,.run 4,.run 5,.run 6,.run 7,.run 8])]
theorem pl80_at_8:planAt pl80 8=[.run 0,.run 1,.run 2,.run 3,.run 4,.run 5,.run 6,.run 7,.run 8]:=(rfl)
attribute [simp] pl80_at_8
theorem pl80_at_10:planAt pl80 10=[.run 0,.run 1,.run 2,.run 3,.run 4,.run 5,.run 6,.run 7,.run 8]:=(rfl)
attribute [simp] pl80_at_10
def pl90:List (Nat×List It):=[(1,[.run 0,.run 1,.run 2,.run 3,.run 4,.run 5,.run 6,.run 7,.run 8,.run 9,.run 10,.run 11,.run 12,.run 15,.run 16,.run 13,.run 14,.gate [16] [],.run 17,.run 18,.run 19,.run 20])]
theorem pl90_at_1:planAt pl90 1=[.run 0,.run 1,.run 2,.run 3,.run 4,.run 5,.run 6,.run 7,.run 8,.run 9,.run 10,.run 11,.run 12,.run 15,.run 16,.run 13,.run 14,.gate [16] [],.run 17,.run 18,.run 19,.run 20]:=(rfl)
attribute [simp] pl90_at_1
def pl106:List (Nat×List It):=[(9,[.run 0,.run 1,.run 2,.run 3,.run 4,.run 5,.run 6,.run 7,.run 8,.run 9,.run 10]),(10,[.run 0,.run 1,.run 2,.run 3,.mk 4,.gate [0] [],.run 5,.run 6])]
theorem pl106_at_9:planAt pl106 9=[.run 0,.run 1,.run 2,.run 3,.run 4,.run 5,.run 6,.run 7,.run 8,.run 9,.run 10]:=(rfl)
attribute [simp] pl106_at_9
theorem pl106_at_10:planAt pl106 10=[.run 0,.run 1,.run 2,.run 3,.mk 4,.gate [0] [],.run 5,.run 6]:=(rfl)
attribute [simp] pl106_at_10
def pl111:List (Nat×List It):=[(6,[.run 0,.run 1,.run 2,.run 3,.run 4,.run 5,.run 6,.run 7,.run 8,.run 9,.run 10]),(11,[.run 0,.run 1,.run 2,.run 3,.run 4,.run 5,.run 6,.run 7,.run 8,.run 9,.run 10,.run 11])]
theorem pl111_at_6:planAt pl111 6=[.run 0,.run 1,.run 2,.run 3,.run 4,.run 5,.run 6,.run 7,.run 8,.run 9,.run 10]:=(rfl)
attribute [simp] pl111_at_6
def pl112:List (Nat×List It):=[(6,[.run 0,.run 1,.run 2,.run 3,.run 4,.run 5,.run 6,.run 7,.run 8])]
theorem pl112_at_6:planAt pl112 6=[.run 0,.run 1,.run 2,.run 3,.run 4,.run 5,.run 6,.run 7,.run 8]:=(rfl)
attribute [simp] pl112_at_6
def pl135:List (Nat×List It):=[(2,[.run 0,.run 1,.run 2,.run 3,.run 4,.run 5,.run 6,.run 7,.run 8,.run 9,.run 10,.run 11,.run 12,.run 13,.run 14,.run 15,.run 16,.run 17,.run 18,.run 19,.run 20,.run 21]),(4,[.run 0,.run 1,.run 2,.run 3,.run 4,.run 5,.run 6,.run 7,.run 8,.run 9,.run 10])]
theorem pl135_at_2:planAt pl135 2=[.run 0,.run 1,.run 2,.run 3,.run 4,.run 5,.run 6,.run 7,.run 8,.run 9,.run 10,.run 11,.run 12,.run 13,.run 14,.run 15,.run 16,.run 17,.run 18,.run 19,.run 20,.run 21]:=(rfl)
attribute [simp] pl135_at_2
theorem pl135_at_4:planAt pl135 4=[.run 0,.run 1,.run 2,.run 3,.run 4,.run 5,.run 6,.run 7,.run 8,.run 9,.run 10]:=(rfl)
attribute [simp] pl135_at_4
end Go.Ai
end
section
namespace Go.Ai
open Go.Proofs
attribute [simp] gsize
theorem hG:0=Tryz.prog.globals.size:=gsize.symm
end Go.Ai
end
section
namespace Go.Ai
open Go.Proofs
set_option maxRecDepth 10000
set_option maxHeartbeats 40000000
def inW (w:List Int) (q:Int) : Bool:=w.all fun i=>decide (0≤i∧i < q)
theorem wC1_w (x q:Int) (p:Nat) (g:Nat→Option Blk) (n:Nat) (hp:g p=some (.cells [.lit (.int .i64 q)] true 0)) (hpn:p < n) :
  WC 0 Tryz.prog 132 [.lit (.int .i64 x),.ptr p 0] ⟨.fn g,n⟩ fun r=>r=.ret (.lit (.bool (decide (¬(0≤x∧x < q))))) ⟨.fn g,n⟩:=by
 by_cases t1:x < 0
 ·have hd:decide (¬(0≤x∧x < q))=true:=decide_eq_true (by omega)
  rw [hd]
  refine WC.enterP (noO_ok _ _) hG [] Tryz.func132 rfl (by decide +kernel) (Nat.le_of_ble_eq_true (by kernel_rfl)) ?_
  iterate 6 all_goals try first|with_reducible refine splitI (fun h=>?_) fun h=>?_|with_reducible refine splitBI (fun h=>?_) fun h=>?_|simp (maxSteps:=999999) (disch:=first|assumption|omega|(simp;done)|fail) [Tryz.results132, *]
 by_cases t2:q≤x
 ·have hd:decide (¬(0≤x∧x < q))=true:=decide_eq_true (by omega)
  rw [hd]
  refine WC.enterP (noO_ok _ _) hG [] Tryz.func132 rfl (by decide +kernel) (Nat.le_of_ble_eq_true (by kernel_rfl)) ?_
  iterate 6 all_goals try first|with_reducible refine splitI (fun h=>?_) fun h=>?_|with_reducible refine splitBI (fun h=>?_) fun h=>?_|simp (maxSteps:=999999) (disch:=first|assumption|omega|(simp;done)|fail) [Tryz.results132, *]
 ·have hd:decide (¬(0≤x∧x < q))=false:=decide_eq_false (by omega)
  rw [hd]
  refine WC.enterP (noO_ok _ _) hG [] Tryz.func132 rfl (by decide +kernel) (Nat.le_of_ble_eq_true (by kernel_rfl)) ?_
  iterate 6 all_goals try first|with_reducible refine splitI (fun h=>?_) fun h=>?_|with_reducible refine splitBI (fun h=>?_) fun h=>?_|simp (maxSteps:=999999) (disch:=first|assumption|omega|(simp;done)|fail) [Tryz.results132, *]
theorem iFunc_w (w:List Int) (hwl:w.length≤1000000) (q:Int) (sv:AV) (p:Nat) (g:Nat→Option Blk) (n:Nat) (hp:g p=some (.cells [.lit (.int .i64 q)] true 0)) (hpn:p < n) (hsv:RepW g n w sv) :
  WC 0 Tryz.prog 143 [sv,.func (.func 132) [] [.ptr p 0]] ⟨.fn g,n⟩ fun r=>∃ z:Int,r=.ret (.lit (.int .i64 z)) ⟨.fn g,n⟩∧decide (0≤z) = !(w.all fun i=>decide (0≤i∧i < q)):=by
 have hlen:=@lenV Tryz.prog _ _ _ _ _ hsv
 have HS:=Hide.mk hsv
 have HP:=Hide.mk hp
 clear hsv hp
 obtain ⟨ret,hret⟩ : ∃ b,b = !(w.all fun i=>decide (0≤i∧i < q)):=⟨_,rfl⟩
 rw [← hret]
 have HRET:=Hide.mk hret
 clear hret
 refine WC.enterP (noO_ok _ _) hG [] Tryz.func143 rfl (by decide +kernel) (Nat.le_of_ble_eq_true (by kernel_rfl)) ?_
 iterate 6 all_goals try first|with_reducible refine splitI (fun h=>?_) fun h=>?_|with_reducible refine splitBI (fun h=>?_) fun h=>?_|simp (maxSteps:=999999) (disch:=first|assumption|omega|(simp;done)|fail) [Tryz.results143, *]
 refine LX.ind (fun m gf H'=>∃ (k:Nat),k≤w.length∧m=w.length - k∧H'=⟨.fn g,n⟩∧Hide (∀ i∈w.take k,0≤i∧i < q) ∧
  gf 0=some sv∧gf 1=some (.func (.func 132) [] [.ptr p 0])∧gf 7=some (.lit (.int .i64 w.length))∧gf 8=some (.lit (.int .i64 k))) (m0:=w.length) ?_ ?_
 ·exact ⟨0,Nat.zero_le _,rfl,rfl,⟨by simp⟩,by simp,by simp,by simp,by simp⟩
 rintro m gf H' ⟨k,hk,rfl,rfl,HPRE,w0,w1,w7,w8⟩ ih
 refine LX.roundP (noO_ok _ _) hG [] (by decide +kernel) ?_
 by_cases hlt:k < w.length
 ·have hltI:(k:Int) < (w.length:Int):=by omega
  obtain ⟨a2,off,ha2,hrow,hia⟩:=SliceV.ia (P:=Tryz.prog) HS.out hlt 1
  simp only [Nat.mul_one] at hia
  have hcell:=hrow.one (k:=k) (s:=1) (by rw [wdC_len]; exact hlt)
  rw [(List.getElem?_eq_some_iff.1 (wdC_at w k hlt)).2] at hcell
  have htk:w.take (k+1)=w.take k++[w[k]]:=by rw [List.take_succ,List.getElem?_eq_getElem hlt]; rfl
  have HT:=Hide.mk htk
  have HM:=Hide.mk (List.getElem_mem hlt)
  clear htk hrow ha2
  generalize w[k]=x at *
  have HC:=Hide.mk (wC1_w x q p g n HP.out hpn)
  iterate 6 all_goals try first|with_reducible refine splitI (fun h=>?_) fun h=>?_|with_reducible refine splitBI (fun h=>?_) fun h=>?_|simp (maxSteps:=999999) (disch:=first|assumption|omega|(simp;done)|fail) [Tryz.results143, *]
  refine WC.mono HC.out ?_
  rintro _ rfl
  by_cases hb:0≤x∧x < q
  ·have hd:decide (¬(0≤x∧x < q))=false:=decide_eq_false (by omega)
   rw [hd]
   have HB:=Hide.mk hb
   clear hb
   iterate 6 all_goals try first|with_reducible refine splitI (fun h=>?_) fun h=>?_|with_reducible refine splitBI (fun h=>?_) fun h=>?_|simp (maxSteps:=999999) (disch:=first|assumption|omega|(simp;done)|fail) [Tryz.results143, *]
   refine ih.out (w.length - (k+1)) _ _ (by omega) ⟨k+1,by omega,rfl,rfl,⟨fun i hi=>?_⟩,by simp [*],by simp [*],by simp [*],by simp⟩
   rw [HT.out] at hi
   rcases List.mem_append.1 hi with h | h
   ·exact HPRE.out i h
   ·rw [List.mem_singleton.1 h]; exact HB.out
  ·have hd:decide (¬(0≤x∧x < q))=true:=decide_eq_true hb
   rw [hd]
   have hr:ret=true:=by
    rw [HRET.out,Bool.not_eq_true',List.all_eq_false]
    exact ⟨x,HM.out,by simpa using hb⟩
   clear hb
   iterate 6 all_goals try first|with_reducible refine splitI (fun h=>?_) fun h=>?_|with_reducible refine splitBI (fun h=>?_) fun h=>?_|simp (maxSteps:=999999) (disch:=first|assumption|omega|(simp;done)|fail) [Tryz.results143, *]
 ·have hltI:¬(k:Int) < (w.length:Int):=by omega
  have hk2:k=w.length:=by omega
  have hr:ret=false:=by
   rw [HRET.out,Bool.not_eq_false',List.all_eq_true]
   intro i hi
   have:=HPRE.out i (by rw [hk2,List.take_length]; exact hi)
   simpa using this
  clear hk2
  iterate 6 all_goals try first|with_reducible refine splitI (fun h=>?_) fun h=>?_|with_reducible refine splitBI (fun h=>?_) fun h=>?_|simp (maxSteps:=999999) (disch:=first|assumption|omega|(simp;done)|fail) [Tryz.results143, *]
theorem cFunc_w (w:List Int) (hwl:w.length≤1000000) (q:Int) (sv:AV) (p:Nat) (g:Nat→Option Blk) (n:Nat) (hp:g p=some (.cells [.lit (.int .i64 q)] true 0)) (hpn:p < n) (hsv:RepW g n w sv) :
  WC 0 Tryz.prog 124 [sv,.func (.func 132) [] [.ptr p 0]] ⟨.fn g,n⟩ fun r=>r=.ret (.lit (.bool (!(w.all fun i=>decide (0≤i∧i < q))))) ⟨.fn g,n⟩:=by
 have HI:=Hide.mk (iFunc_w w hwl q sv p g n hp hpn hsv)
 clear hp hsv
 generalize (!(w.all fun i=>decide (0≤i∧i < q)))=bb at *
 refine WC.enterP (noO_ok _ _) hG [] Tryz.func124 rfl (by decide +kernel) (Nat.le_of_ble_eq_true (by kernel_rfl)) ?_
 iterate 6 all_goals try first|with_reducible refine splitI (fun h=>?_) fun h=>?_|with_reducible refine splitBI (fun h=>?_) fun h=>?_|simp (maxSteps:=999999) (disch:=first|assumption|omega|(simp;done)|fail) [Tryz.results124, *]
 refine WC.mono HI.out ?_
 rintro _ ⟨z,rfl,hz⟩
 cases bb with
 | true =>
  have hz1:0≤z:=of_decide_eq_true hz
  clear hz
  iterate 6 all_goals try first|with_reducible refine splitI (fun h=>?_) fun h=>?_|with_reducible refine splitBI (fun h=>?_) fun h=>?_|simp (maxSteps:=999999) (disch:=first|assumption|omega|(simp;done)|fail) [Tryz.results124, *]
 | false =>
  have hz1:¬0≤z:=of_decide_eq_false hz
  clear hz
  iterate 6 all_goals try first|with_reducible refine splitI (fun h=>?_) fun h=>?_|with_reducible refine splitBI (fun h=>?_) fun h=>?_|simp (maxSteps:=999999) (disch:=first|assumption|omega|(simp;done)|fail) [Tryz.results124, *]
theorem tinputs_w (w:List Int) (hwl:w.length≤1000000) (q:Int) (sv:AV) (g:Nat→Option Blk) (n:Nat) (hsv:RepW g n w sv) :
  WC 0 Tryz.prog 101 [sv,.lit (.int .i64 q)] ⟨.fn g,n⟩ fun r=>r=.ret (.lit (.bool (inW w q))) ⟨.fn g,n⟩:=by
 refine WC.drop1 rfl ?_
 have HC:=Hide.mk (cFunc_w w hwl q sv n (gput g n (some (.cells [.lit (.int .i64 q)] true 0))) (n+1) gput_eq (by omega) (SliceV.mono (by omega) (fun a ha=>gput_lt ha) hsv))
 have hin:(w.all fun i=>decide (0≤i∧i < q))=inW w q:=rfl
 rw [hin] at HC
 clear hin hsv
 generalize inW w q=bb at *
 refine WC.enterP (noO_ok _ _) hG [] Tryz.func101 rfl (by decide +kernel) (Nat.le_of_ble_eq_true (by kernel_rfl)) ?_
 iterate 8 all_goals try first|with_reducible refine splitI (fun h=>?_) fun h=>?_|with_reducible refine splitBI (fun h=>?_) fun h=>?_|simp (maxSteps:=999999) (disch:=first|assumption|omega|(simp;done)|fail) [Tryz.results101, *]
 refine WC.mono HC.out ?_
 rintro _ rfl
 cases bb
 all_goals
  iterate 8 all_goals try first|with_reducible refine splitI (fun h=>?_) fun h=>?_|with_reducible refine splitBI (fun h=>?_) fun h=>?_|simp (maxSteps:=999999) (disch:=first|assumption|omega|(simp;done)|fail) [Tryz.results101, *]
  all_goals exact ⟨Nat.le_succ n,fun b hb=>gput_lt hb⟩
def RowsT (g:Nat→Option Blk) (n:Nat) (ts:List (List Int×List Int)) (cs:List AV) : Prop :=
 cs.length=ts.length * 2∧∀ (k:Nat) (h:k < ts.length),∃ s1 s2,cs[k * 2]?=some s1∧cs[k * 2+1]?=some s2∧RepW g n ts[k].1 s1∧RepW g n ts[k].2 s2
theorem RowsT.ext {g g' : Nat→Option Blk} {b b' : Nat} {ts:List (List Int×List Int)} {cs:List AV} (h:RowsT g b ts cs) (hb:b≤b') (hg:∀ a x,a < b→g a=some x→g' a=some x) : RowsT g' b' ts cs :=
 ⟨h.1,fun k hk=>let ⟨s1,s2,h1,h2,h3,h4⟩:=h.2 k hk; ⟨s1,s2,h1,h2,SliceV.ext hb hg h3,SliceV.ext hb hg h4⟩⟩
def LogR (g:Nat→Option Blk) (n:Nat) (ts:List (List Int×List Int)) (sv:AV) : Prop:=∃ cs,SliceV g n sv ts.length cs∧RowsT g n ts cs
theorem LogR.mono {g g' : Nat→Option Blk} {n n' : Nat} {ts:List (List Int×List Int)} {sv:AV} (h:LogR g n ts sv) (hn:n≤n') (hg:∀ a,a < n→g' a=g a) : LogR g' n' ts sv :=
 let ⟨cs,h1,h2⟩:=h; ⟨cs,h1.mono hn hg,h2.ext hn fun a x ha hx=>(hg a ha).trans hx⟩
theorem drop2 {cs:List AV} {k:Nat} {s1 s2:AV} (h1:cs[k]?=some s1) (h2:cs[k+1]?=some s2) : (cs.drop k).take 2=[s1,s2]:=by
 obtain ⟨a1,b1⟩:=List.getElem?_eq_some_iff.1 h1
 obtain ⟨a2,b2⟩:=List.getElem?_eq_some_iff.1 h2
 rw [List.drop_eq_getElem_cons a1,List.drop_eq_getElem_cons a2,b1,b2]
 rfl
structure AtT (g:Nat→Option Blk) (n:Nat) (sv:AV) (k:Nat) (t:List Int×List Int) (a off:Nat) (s1 s2:AV) : Prop where
 an:a < n
 ia:∀ {H:Mem} {ev:Ev} {o:Oper} {ty:TypeId},iaS Tryz.prog H ev o ty (some (none,2)) (some sv) (some (.lit (.int .i64 (k:Int))))=.val (.ptr a (off+k * 2)) H
 agg:loadB (some (true,2)) (g a) (off+k * 2)=some (.agg [s1,s2])
 c0:loadB (some (false,1)) (g a) (off+k * 2)=some s1
 c1:loadB (some (false,1)) (g a) (off+k * 2+1)=some s2
 r1:RepW g n t.1 s1
 r2:RepW g n t.2 s2
theorem LogR.at {g:Nat→Option Blk} {n:Nat} {ts:List (List Int×List Int)} {sv:AV} (h:LogR g n ts sv) {k:Nat} (hk:k < ts.length) : ∃ a off s1 s2,AtT g n sv k ts[k] a off s1 s2:=by
 obtain ⟨cs,h1,h2⟩:=h
 obtain ⟨s1,s2,e1,e2,r1,r2⟩:=h2.2 k hk
 obtain ⟨a,off,ha,hrow,hia⟩:=SliceV.ia (P:=Tryz.prog) h1 hk 2
 have hl:=h2.1
 refine ⟨a,off,s1,s2,ha,hia,?_,?_,?_,r1,r2⟩
 ·rw [hrow.agg (k:=k * 2) (s:=2) (by omega),drop2 e1 e2]
 ·have:=hrow.one (k:=k * 2) (s:=1) (by omega)
  rwa [(List.getElem?_eq_some_iff.1 e1).2] at this
 ·have:=hrow.one (k:=k * 2+1) (s:=1) (by omega)
  rw [(List.getElem?_eq_some_iff.1 e2).2] at this
  rw [Nat.add_assoc]; exact this
def withinB (I O:Int) (ts:List (List Int×List Int)) : Bool:=(ts.all fun t=>decide (t.1.length≤256)) && decide (I≤16) && decide (O≤16)
theorem within_w (I O:Int) (ts:List (List Int×List Int)) (hl:ts.length≤200) (hw:∀ t∈ts,t.1.length≤300) (g:Nat→Option Blk) (n:Nat) (sv:AV) (hT:LogR g n ts sv) :
  WC 0 Tryz.prog 100 [.agg [.lit (.int .i64 I),.lit (.int .i64 O),sv]] ⟨.fn g,n⟩ fun r=>r=.ret (.lit (.bool (withinB I O ts))) ⟨.fn g,n⟩:=by
 refine WC.drop1 rfl ?_
 have hlen:=@lenV Tryz.prog _ _ _ _ _ hT.choose_spec.1
 have h1s:=hT.choose_spec.1.one
 have hone:allOne [.lit (.int .i64 I),.lit (.int .i64 O),sv]=true:=by simp [h1s]
 have HT:=Hide.mk hT
 have HW:=Hide.mk hw
 clear hT hw
 obtain ⟨ret,hret⟩ : ∃ b,b=withinB I O ts:=⟨_,rfl⟩
 rw [← hret]
 have HRET:=Hide.mk hret
 clear hret
 refine WC.enterP (noO_ok _ _) hG [] Tryz.func100 rfl (by decide +kernel) (Nat.le_of_ble_eq_true (by kernel_rfl)) ?_
 iterate 8 all_goals try first|with_reducible refine splitI (fun h=>?_) fun h=>?_|with_reducible refine splitBI (fun h=>?_) fun h=>?_|simp (maxSteps:=999999) (disch:=first|assumption|omega|(simp;done)|fail) [Tryz.results100, *]
 refine LX.ind (fun m gf H'=>∃ (k st n' : Nat) (gL:Nat→Option Blk),k≤ts.length∧m=ts.length - k∧H'=⟨.fn gL,n'⟩∧n < n'∧Hide (∀ b,b < n→gL b=g b)∧gL n=some (.cells [.lit (.int .i64 I),.lit (.int .i64 O),sv] true 0) ∧
  Hide (∀ t∈ts.take k,t.1.length≤256)∧st≤k * 300∧gf 1=some (.ptr n 0)∧gf 3=some (.lit (.int .i64 st))∧gf 7=some sv∧gf 8=some (.lit (.int .i64 ts.length))∧gf 9=some (.lit (.int .i64 k))) (m0:=ts.length) ?_ ?_
 ·exact ⟨0,0,_,_,Nat.zero_le _,rfl,rfl,Nat.lt_succ_self n,⟨fun b hb=>gput_lt hb⟩,gput_eq,⟨by simp⟩,by omega,by simp,by simp,by simp,by simp,by simp⟩
 rintro m gf H' ⟨k,st,n',gL,hk,rfl,rfl,hn',HG,hgn,HP,hst,w1,w3,w7,w8,w9⟩ ih
 refine LX.roundP (noO_ok _ _) hG [] (by decide +kernel) ?_
 by_cases hlt:k < ts.length
 ·have hltI:(k:Int) < (ts.length:Int):=by omega
  obtain ⟨a2,off,s1,s2,HAT0⟩:=(HT.out.mono (Nat.le_of_lt hn') HG.out).at hlt
  have HAT:=Hide.mk HAT0
  clear HAT0
  have hia:∀ {H:Mem} {ev:Ev} {o:Oper} {ty:TypeId},iaS Tryz.prog H ev o ty (some (none,2)) (some sv) (some (.lit (.int .i64 (k:Int))))=.val (.ptr a2 (off+k * 2)) H:=fun {H ev o ty}=>HAT.out.ia
  have hcell:=HAT.out.agg
  have hlw:=@lenV Tryz.prog _ _ _ _ _ HAT.out.r1
  have h1a:=HAT.out.r1.one
  have h1b:=HAT.out.r2.one
  have hone2:allOne [s1,s2]=true:=by simp [h1a,h1b]
  have hwl:=HW.out _ (List.getElem_mem hlt)
  have HTK:Hide (ts.take (k+1)=ts.take k++[ts[k]]):=⟨by rw [List.take_succ,List.getElem?_eq_getElem hlt]; rfl⟩
  have HMEM:=Hide.mk (List.getElem_mem hlt)
  clear HAT
  generalize ts[k]=t at *
  by_cases hbig:t.1.length > 256
  ·have hbigI:256 < (t.1.length:Int):=by omega
   have hr:ret=false:=by
    rw [HRET.out]; unfold withinB
    rw [Bool.and_eq_false_iff,Bool.and_eq_false_iff]
    left; left
    rw [List.all_eq_false]
    exact ⟨t,HMEM.out,by simpa using hbig⟩
   have hk1:¬1024≤(k:Int):=by omega
   iterate 8 all_goals try first|with_reducible refine splitI (fun h=>?_) fun h=>?_|with_reducible refine splitBI (fun h=>?_) fun h=>?_|simp (maxSteps:=999999) (disch:=first|assumption|omega|(simp;done)|fail) [Tryz.results100, *]
   exact ⟨Nat.le_of_lt (Nat.lt_succ_of_lt hn'),fun b (hb:b < n)=>(gput_lt (by omega)).trans (HG.out b hb)⟩
  ·have hbigI:¬256 < (t.1.length:Int):=by omega
   have hk1:¬1024≤(k:Int):=by omega
   have hs1:¬65536 < (st:Int)+(t.1.length:Int):=by omega
   have HP2:Hide (∀ t∈ts.take (k+1),t.1.length≤256):=⟨fun v hv=>by
    rw [HTK.out] at hv
    rcases List.mem_append.1 hv with h | h
    ·exact HP.out v h
    ·rw [List.mem_singleton.1 h]; omega⟩
   iterate 8 all_goals try first|with_reducible refine splitI (fun h=>?_) fun h=>?_|with_reducible refine splitBI (fun h=>?_) fun h=>?_|simp (maxSteps:=999999) (disch:=first|assumption|omega|(simp;done)|fail) [Tryz.results100, *]
   exact ih.out (ts.length - (k+1)) _ _ (by omega) ⟨k+1,st+t.1.length,_,_,by omega,rfl,rfl,by omega,⟨fun b hb=>(gput_lt (by omega)).trans (HG.out b hb)⟩,(gput_lt (by omega)).trans hgn,HP2,by omega,by simp [*],by simp [*],by simp [*],by simp [*],by simp⟩
 ·have hltI:¬(k:Int) < (ts.length:Int):=by omega
  have hall:(ts.all fun t=>decide (t.1.length≤256))=true:=List.all_eq_true.2 fun t ht=>decide_eq_true (HP.out t (by rw [show k=ts.length by omega,List.take_length]; exact ht))
  have hr0:ret=(decide (I≤16) && decide (O≤16)):=by rw [HRET.out]; unfold withinB; rw [hall,Bool.true_and]
  clear hall HP
  by_cases t1:I≤16
  ·by_cases t2:O≤16
   ·have hr:ret=true:=by rw [hr0,decide_eq_true t1,decide_eq_true t2]; rfl
    clear hr0
    iterate 8 all_goals try first|with_reducible refine splitI (fun h=>?_) fun h=>?_|with_reducible refine splitBI (fun h=>?_) fun h=>?_|simp (maxSteps:=999999) (disch:=first|assumption|omega|(simp;done)|fail) [Tryz.results100, *]
    exact ⟨Nat.le_of_lt hn',fun b hb=>HG.out b hb⟩
   ·have hr:ret=false:=by rw [hr0,decide_eq_false t2,Bool.and_false]
    clear hr0
    iterate 8 all_goals try first|with_reducible refine splitI (fun h=>?_) fun h=>?_|with_reducible refine splitBI (fun h=>?_) fun h=>?_|simp (maxSteps:=999999) (disch:=first|assumption|omega|(simp;done)|fail) [Tryz.results100, *]
    exact ⟨Nat.le_of_lt hn',fun b hb=>HG.out b hb⟩
  ·have hr:ret=false:=by rw [hr0,decide_eq_false t1,Bool.false_and]
   clear hr0
   iterate 8 all_goals try first|with_reducible refine splitI (fun h=>?_) fun h=>?_|with_reducible refine splitBI (fun h=>?_) fun h=>?_|simp (maxSteps:=999999) (disch:=first|assumption|omega|(simp;done)|fail) [Tryz.results100, *]
   exact ⟨Nat.le_of_lt hn',fun b hb=>HG.out b hb⟩
def okR (O:Int) : Bool→List Int→Bool
 | _,[]=>true
 | p,o :: r=>!(decide (o < -1) || (decide (O≤o) || (p && decide (¬o = -1)))) && okR O (decide (o = -1)) r
def validB (I O:Int) (t:List Int×List Int) : Bool:=decide (t.2.length=t.1.length) && inW t.1 I && okR O false t.2
theorem okR_drop {O:Int} {p:Bool} {r:List Int} {k:Nat} (h:k < r.length) : okR O p (r.drop k)=(!(decide (r[k] < -1) || (decide (O≤r[k]) || (p && decide (¬r[k] = -1)))) && okR O (decide (r[k] = -1)) (r.drop (k+1))):=by
 rw [List.drop_eq_getElem_cons h]
 rfl
theorem valid_w (I O:Int) (t:List Int×List Int) (hw1:t.1.length≤300) (hw2:t.2.length≤300) (g:Nat→Option Blk) (n:Nat) (s1 s2:AV) (h1:RepW g n t.1 s1) (h2:RepW g n t.2 s2) :
  WC 0 Tryz.prog 115 [.agg [s1,s2],.lit (.int .i64 I),.lit (.int .i64 O)] ⟨.fn g,n⟩ fun r=>r=.ret (.lit (.bool (validB I O t))) ⟨.fn g,n⟩:=by
 refine WC.drop1 rfl ?_
 have hl1:=@lenV Tryz.prog _ _ _ _ _ h1
 have hl2:=@lenV Tryz.prog _ _ _ _ _ h2
 have h1a:=h1.one
 have h1b:=h2.one
 have hone2:allOne [s1,s2]=true:=by simp [h1a,h1b]
 have HI:=Hide.mk (tinputs_w t.1 (by omega) I s1 (gput g n (some (.cells [s1,s2] true 0))) (n+1) (SliceV.mono (by omega) (fun a ha=>gput_lt ha) h1))
 have H2:=Hide.mk h2
 clear h1 h2
 obtain ⟨ret,hret⟩ : ∃ b,b=validB I O t:=⟨_,rfl⟩
 rw [← hret]
 unfold validB at hret
 by_cases t1:t.2.length=t.1.length
 ·rw [decide_eq_true t1,Bool.true_and] at hret
  rw [← t1] at hl1
  clear hw1 t1
  generalize inW t.1 I=bb at *
  cases bb with
  | false =>
   have hr:ret=false:=by rw [hret,Bool.false_and]
   clear hret
   refine WC.enterP (noO_ok _ _) hG [] Tryz.func115 rfl (by decide +kernel) (Nat.le_of_ble_eq_true (by kernel_rfl)) ?_
   iterate 8 all_goals try first|with_reducible refine splitI (fun h=>?_) fun h=>?_|with_reducible refine splitBI (fun h=>?_) fun h=>?_|simp (maxSteps:=999999) (disch:=first|assumption|omega|(simp;done)|fail) [Tryz.results115, *]
   refine WC.mono HI.out ?_
   rintro _ rfl
   iterate 8 all_goals try first|with_reducible refine splitI (fun h=>?_) fun h=>?_|with_reducible refine splitBI (fun h=>?_) fun h=>?_|simp (maxSteps:=999999) (disch:=first|assumption|omega|(simp;done)|fail) [Tryz.results115, *]
   all_goals exact ⟨Nat.le_succ n,fun b hb=>gput_lt hb⟩
  | true =>
   rw [Bool.true_and] at hret
   have HRET:=Hide.mk hret
   clear hret
   refine WC.enterP (noO_ok _ _) hG [] Tryz.func115 rfl (by decide +kernel) (Nat.le_of_ble_eq_true (by kernel_rfl)) ?_
   iterate 8 all_goals try first|with_reducible refine splitI (fun h=>?_) fun h=>?_|with_reducible refine splitBI (fun h=>?_) fun h=>?_|simp (maxSteps:=999999) (disch:=first|assumption|omega|(simp;done)|fail) [Tryz.results115, *]
   refine WC.mono HI.out ?_
   rintro _ rfl
   iterate 8 all_goals try first|with_reducible refine splitI (fun h=>?_) fun h=>?_|with_reducible refine splitBI (fun h=>?_) fun h=>?_|simp (maxSteps:=999999) (disch:=first|assumption|omega|(simp;done)|fail) [Tryz.results115, *]
   refine LX.ind (fun m gf H'=>∃ (k:Nat) (p:Bool),k≤t.2.length∧m=t.2.length - k∧H'=⟨.fn (gput g n (some (.cells [s1,s2] true 0))),n+1⟩ ∧
    Hide (ret=okR O p (t.2.drop k))∧gf 2=some (.lit (.int .i64 O))∧gf 7=some (.lit (.bool p))∧gf 25=some s2∧gf 26=some (.lit (.int .i64 t.2.length))∧gf 27=some (.lit (.int .i64 k))) (m0:=t.2.length) ?_ ?_
   ·exact ⟨0,false,Nat.zero_le _,rfl,rfl,⟨by rw [List.drop_zero]; exact HRET.out⟩,by simp,by simp,by simp,by simp [*],by simp⟩
   rintro m gf H' ⟨k,p,hk,rfl,rfl,HP,w2,w7,w25,w26,w27⟩ ih
   refine LX.roundP (noO_ok _ _) hG [] (by decide +kernel) ?_
   by_cases hlt:k < t.2.length
   ·have hltI:(k:Int) < (t.2.length:Int):=by omega
    obtain ⟨a2,off,ha2,hrow,hia⟩:=SliceV.ia (P:=Tryz.prog) H2.out hlt 1
    simp only [Nat.mul_one] at hia
    have hcell:=hrow.one (k:=k) (s:=1) (by rw [wdC_len]; exact hlt)
    rw [(List.getElem?_eq_some_iff.1 (wdC_at t.2 k hlt)).2] at hcell
    have HD:Hide (ret=(!(decide (t.2[k] < -1) || (decide (O≤t.2[k]) || (p && decide (¬t.2[k] = -1)))) && okR O (decide (t.2[k] = -1)) (t.2.drop (k+1)))):=⟨by rw [HP.out,okR_drop hlt]⟩
    clear hrow
    generalize t.2[k]=o at *
    by_cases u1:o < -1
    ·have hr:ret=false:=by rw [HD.out,decide_eq_true u1]; rfl
     iterate 8 all_goals try first|with_reducible refine splitI (fun h=>?_) fun h=>?_|with_reducible refine splitBI (fun h=>?_) fun h=>?_|simp (maxSteps:=999999) (disch:=first|assumption|omega|(simp;done)|fail) [Tryz.results115, *]
     all_goals exact ⟨Nat.le_succ n,fun b hb=>gput_lt hb⟩
    by_cases u2:O≤o
    ·have hr:ret=false:=by rw [HD.out,decide_eq_true u2,Bool.true_or,Bool.or_true]; rfl
     iterate 8 all_goals try first|with_reducible refine splitI (fun h=>?_) fun h=>?_|with_reducible refine splitBI (fun h=>?_) fun h=>?_|simp (maxSteps:=999999) (disch:=first|assumption|omega|(simp;done)|fail) [Tryz.results115, *]
     all_goals exact ⟨Nat.le_succ n,fun b hb=>gput_lt hb⟩
    by_cases u3:o = -1
    ·have HD2:Hide (ret=okR O true (t.2.drop (k+1))):=⟨by rw [HD.out,decide_eq_false u1,decide_eq_false u2,decide_eq_true u3,decide_eq_false (by simpa using u3)]; simp⟩
     subst u3
     clear HD
     cases p
     all_goals
      iterate 8 all_goals try first|with_reducible refine splitI (fun h=>?_) fun h=>?_|with_reducible refine splitBI (fun h=>?_) fun h=>?_|simp (maxSteps:=999999) (disch:=first|assumption|omega|(simp;done)|fail) [Tryz.results115, *]
      exact ih.out (t.2.length - (k+1)) _ _ (by omega) ⟨k+1,true,by omega,rfl,rfl,HD2,by simp [*],by simp [*],by simp [*],by simp [*],by simp⟩
    ·cases p with
     | true =>
      have hr:ret=false:=by rw [HD.out,decide_eq_true (by simpa using u3:¬o = -1)]; simp
      iterate 8 all_goals try first|with_reducible refine splitI (fun h=>?_) fun h=>?_|with_reducible refine splitBI (fun h=>?_) fun h=>?_|simp (maxSteps:=999999) (disch:=first|assumption|omega|(simp;done)|fail) [Tryz.results115, *]
      all_goals exact ⟨Nat.le_succ n,fun b hb=>gput_lt hb⟩
     | false =>
      have HD2:Hide (ret=okR O false (t.2.drop (k+1))):=⟨by rw [HD.out,decide_eq_false u1,decide_eq_false u2,decide_eq_false u3]; simp⟩
      clear HD
      iterate 8 all_goals try first|with_reducible refine splitI (fun h=>?_) fun h=>?_|with_reducible refine splitBI (fun h=>?_) fun h=>?_|simp (maxSteps:=999999) (disch:=first|assumption|omega|(simp;done)|fail) [Tryz.results115, *]
      exact ih.out (t.2.length - (k+1)) _ _ (by omega) ⟨k+1,false,by omega,rfl,rfl,HD2,by simp [*],by simp [*],by simp [*],by simp [*],by simp⟩
   ·have hltI:¬(k:Int) < (t.2.length:Int):=by omega
    have hr:ret=true:=by rw [HP.out,List.drop_eq_nil_of_le (by omega)]; rfl
    iterate 8 all_goals try first|with_reducible refine splitI (fun h=>?_) fun h=>?_|with_reducible refine splitBI (fun h=>?_) fun h=>?_|simp (maxSteps:=999999) (disch:=first|assumption|omega|(simp;done)|fail) [Tryz.results115, *]
    all_goals exact ⟨Nat.le_succ n,fun b hb=>gput_lt hb⟩
 ·have t1I:¬(t.2.length:Int)=(t.1.length:Int):=by omega
  have hr:ret=false:=by rw [hret,decide_eq_false t1]; rfl
  clear hret
  refine WC.enterP (noO_ok _ _) hG [] Tryz.func115 rfl (by decide +kernel) (Nat.le_of_ble_eq_true (by kernel_rfl)) ?_
  iterate 8 all_goals try first|with_reducible refine splitI (fun h=>?_) fun h=>?_|with_reducible refine splitBI (fun h=>?_) fun h=>?_|simp (maxSteps:=999999) (disch:=first|assumption|omega|(simp;done)|fail) [Tryz.results115, *]
  all_goals exact ⟨Nat.le_succ n,fun b hb=>gput_lt hb⟩
def logErr (I O:Int) (ts:List (List Int×List Int)) : Int:=if withinB I O ts=false then 3 else if I < 1∨O < 1 then 1 else if ts.all (validB I O)=true then 0 else 1
structure SmallL (ts:List (List Int×List Int)) : Prop where
 len:ts.length≤200
 w1:∀ t∈ts,t.1.length≤300
 w2:∀ t∈ts,t.2.length≤300
theorem Check_w (I O:Int) (ts:List (List Int×List Int)) (hl:SmallL ts) (g:Nat→Option Blk) (n:Nat) (sv:AV) (hT:LogR g n ts sv) :
  WC 0 Tryz.prog 66 [.agg [.lit (.int .i64 I),.lit (.int .i64 O),sv]] ⟨.fn g,n⟩ fun r=>r=.ret (.lit (.int .i64 (logErr I O ts))) ⟨.fn g,n⟩:=by
 refine WC.drop1 rfl ?_
 have hlen:=@lenV Tryz.prog _ _ _ _ _ hT.choose_spec.1
 have h1s:=hT.choose_spec.1.one
 have hone:allOne [.lit (.int .i64 I),.lit (.int .i64 O),sv]=true:=by simp [h1s]
 have HT:=Hide.mk hT
 have HW:=Hide.mk hl
 have hl20:=hl.len
 have HIN:=Hide.mk (within_w I O ts hl.len hl.w1 (gput g n (some (.cells [.lit (.int .i64 I),.lit (.int .i64 O),sv] true 0))) (n+1) sv (hT.mono (Nat.le_succ n) fun a ha=>gput_lt ha))
 clear hT hl
 obtain ⟨ret,hret⟩ : ∃ b,b=logErr I O ts:=⟨_,rfl⟩
 rw [← hret]
 unfold logErr at hret
 generalize withinB I O ts=wb at *
 cases wb with
 | false =>
  have hr:ret=3:=by rw [hret,if_pos rfl]
  clear hret
  refine WC.enterP (noO_ok _ _) hG [] Tryz.func66 rfl (by decide +kernel) (Nat.le_of_ble_eq_true (by kernel_rfl)) ?_
  iterate 8 all_goals try first|with_reducible refine splitI (fun h=>?_) fun h=>?_|with_reducible refine splitBI (fun h=>?_) fun h=>?_|simp (maxSteps:=999999) (disch:=first|assumption|omega|(simp;done)|fail) [Tryz.results66, *]
  refine WC.mono HIN.out ?_
  rintro _ rfl
  iterate 8 all_goals try first|with_reducible refine splitI (fun h=>?_) fun h=>?_|with_reducible refine splitBI (fun h=>?_) fun h=>?_|simp (maxSteps:=999999) (disch:=first|assumption|omega|(simp;done)|fail) [Tryz.results66, *]
  all_goals exact ⟨Nat.le_succ n,fun b hb=>gput_lt hb⟩
 | true =>
 rw [if_neg (by simp)] at hret
 by_cases t1:I < 1
 ·have hr:ret=1:=by rw [hret,if_pos (.inl t1)]
  clear hret
  refine WC.enterP (noO_ok _ _) hG [] Tryz.func66 rfl (by decide +kernel) (Nat.le_of_ble_eq_true (by kernel_rfl)) ?_
  iterate 8 all_goals try first|with_reducible refine splitI (fun h=>?_) fun h=>?_|with_reducible refine splitBI (fun h=>?_) fun h=>?_|simp (maxSteps:=999999) (disch:=first|assumption|omega|(simp;done)|fail) [Tryz.results66, *]
  refine WC.mono HIN.out ?_
  rintro _ rfl
  iterate 8 all_goals try first|with_reducible refine splitI (fun h=>?_) fun h=>?_|with_reducible refine splitBI (fun h=>?_) fun h=>?_|simp (maxSteps:=999999) (disch:=first|assumption|omega|(simp;done)|fail) [Tryz.results66, *]
  all_goals exact ⟨Nat.le_succ n,fun b hb=>gput_lt hb⟩
 by_cases t2:O < 1
 ·have hr:ret=1:=by rw [hret,if_pos (.inr t2)]
  clear hret
  refine WC.enterP (noO_ok _ _) hG [] Tryz.func66 rfl (by decide +kernel) (Nat.le_of_ble_eq_true (by kernel_rfl)) ?_
  iterate 8 all_goals try first|with_reducible refine splitI (fun h=>?_) fun h=>?_|with_reducible refine splitBI (fun h=>?_) fun h=>?_|simp (maxSteps:=999999) (disch:=first|assumption|omega|(simp;done)|fail) [Tryz.results66, *]
  refine WC.mono HIN.out ?_
  rintro _ rfl
  iterate 8 all_goals try first|with_reducible refine splitI (fun h=>?_) fun h=>?_|with_reducible refine splitBI (fun h=>?_) fun h=>?_|simp (maxSteps:=999999) (disch:=first|assumption|omega|(simp;done)|fail) [Tryz.results66, *]
  all_goals exact ⟨Nat.le_succ n,fun b hb=>gput_lt hb⟩
 rw [if_neg (by omega)] at hret
 have HRET:=Hide.mk hret
 clear hret
 refine WC.enterP (noO_ok _ _) hG [] Tryz.func66 rfl (by decide +kernel) (Nat.le_of_ble_eq_true (by kernel_rfl)) ?_
 iterate 8 all_goals try first|with_reducible refine splitI (fun h=>?_) fun h=>?_|with_reducible refine splitBI (fun h=>?_) fun h=>?_|simp (maxSteps:=999999) (disch:=first|assumption|omega|(simp;done)|fail) [Tryz.results66, *]
 refine WC.mono HIN.out ?_
 rintro _ rfl
 iterate 8 all_goals try first|with_reducible refine splitI (fun h=>?_) fun h=>?_|with_reducible refine splitBI (fun h=>?_) fun h=>?_|simp (maxSteps:=999999) (disch:=first|assumption|omega|(simp;done)|fail) [Tryz.results66, *]
 refine LX.ind (fun m gf H'=>∃ (k n' : Nat) (gL:Nat→Option Blk),k≤ts.length∧m=ts.length - k∧H'=⟨.fn gL,n'⟩∧n < n'∧Hide (∀ b,b < n→gL b=g b)∧gL n=some (.cells [.lit (.int .i64 I),.lit (.int .i64 O),sv] true 0) ∧
  Hide (∀ t∈ts.take k,validB I O t=true)∧gf 1=some (.ptr n 0)∧gf 17=some sv∧gf 18=some (.lit (.int .i64 ts.length))∧gf 19=some (.lit (.int .i64 k))) (m0:=ts.length) ?_ ?_
 ·exact ⟨0,_,_,Nat.zero_le _,rfl,rfl,Nat.lt_succ_self n,⟨fun b hb=>gput_lt hb⟩,gput_eq,⟨by simp⟩,by simp,by simp,by simp,by simp⟩
 rintro m gf H' ⟨k,n',gL,hk,rfl,rfl,hn',HG,hgn,HP,w1,w17,w18,w19⟩ ih
 refine LX.roundP (noO_ok _ _) hG [] (by decide +kernel) ?_
 by_cases hlt:k < ts.length
 ·have hltI:(k:Int) < (ts.length:Int):=by omega
  obtain ⟨a2,off,s1,s2,HAT0⟩:=(HT.out.mono (Nat.le_of_lt hn') HG.out).at hlt
  have HAT:=Hide.mk HAT0
  clear HAT0
  have hia:∀ {H:Mem} {ev:Ev} {o:Oper} {ty:TypeId},iaS Tryz.prog H ev o ty (some (none,2)) (some sv) (some (.lit (.int .i64 (k:Int))))=.val (.ptr a2 (off+k * 2)) H:=fun {H ev o ty}=>HAT.out.ia
  have hcell:=HAT.out.agg
  have h1a:=HAT.out.r1.one
  have h1b:=HAT.out.r2.one
  have hone2:allOne [s1,s2]=true:=by simp [h1a,h1b]
  have HMEM:=Hide.mk (List.getElem_mem hlt)
  have HTK:Hide (ts.take (k+1)=ts.take k++[ts[k]]):=⟨by rw [List.take_succ,List.getElem?_eq_getElem hlt]; rfl⟩
  have HV:=Hide.mk (valid_w I O ts[k] (HW.out.w1 _ HMEM.out) (HW.out.w2 _ HMEM.out) (gput gL n' (some (.cells [s1,s2] true 0))) (n'+1) s1 s2 (SliceV.mono (Nat.le_succ n') (fun a ha=>gput_lt ha) HAT.out.r1) (SliceV.mono (Nat.le_succ n') (fun a ha=>gput_lt ha) HAT.out.r2))
  clear HAT
  generalize ts[k]=t at *
  have HVB:Hide (∃ b,b=validB I O t):=⟨⟨_,rfl⟩⟩
  generalize hvb:validB I O t=vb at *
  have HVV:=Hide.mk hvb
  clear hvb HVB
  cases vb with
  | false =>
   have hr:ret=1:=by
    rw [HRET.out,if_neg]
    intro h
    have:=List.all_eq_true.1 h t HMEM.out
    rw [HVV.out] at this
    exact absurd this (by simp)
   iterate 8 all_goals try first|with_reducible refine splitI (fun h=>?_) fun h=>?_|with_reducible refine splitBI (fun h=>?_) fun h=>?_|simp (maxSteps:=999999) (disch:=first|assumption|omega|(simp;done)|fail) [Tryz.results66, *]
   refine WC.mono HV.out ?_
   rintro _ rfl
   iterate 8 all_goals try first|with_reducible refine splitI (fun h=>?_) fun h=>?_|with_reducible refine splitBI (fun h=>?_) fun h=>?_|simp (maxSteps:=999999) (disch:=first|assumption|omega|(simp;done)|fail) [Tryz.results66, *]
   all_goals exact ⟨Nat.le_of_lt (Nat.lt_succ_of_lt hn'),fun b (hb:b < n)=>(gput_lt (by omega)).trans (HG.out b hb)⟩
  | true =>
   have HP2:Hide (∀ t∈ts.take (k+1),validB I O t=true):=⟨fun v hv=>by
    rw [HTK.out] at hv
    rcases List.mem_append.1 hv with h | h
    ·exact HP.out v h
    ·rw [List.mem_singleton.1 h]; exact HVV.out⟩
   iterate 8 all_goals try first|with_reducible refine splitI (fun h=>?_) fun h=>?_|with_reducible refine splitBI (fun h=>?_) fun h=>?_|simp (maxSteps:=999999) (disch:=first|assumption|omega|(simp;done)|fail) [Tryz.results66, *]
   refine WC.mono HV.out ?_
   rintro _ rfl
   iterate 8 all_goals try first|with_reducible refine splitI (fun h=>?_) fun h=>?_|with_reducible refine splitBI (fun h=>?_) fun h=>?_|simp (maxSteps:=999999) (disch:=first|assumption|omega|(simp;done)|fail) [Tryz.results66, *]
   exact ih.out (ts.length - (k+1)) _ _ (by omega) ⟨k+1,_,_,by omega,rfl,rfl,by omega,⟨fun b hb=>(gput_lt (by omega)).trans (HG.out b hb)⟩,(gput_lt (by omega)).trans hgn,HP2,by simp [*],by simp [*],by simp [*],by simp⟩
 ·have hltI:¬(k:Int) < (ts.length:Int):=by omega
  have hr:ret=0:=by
   rw [HRET.out,if_pos]
   exact List.all_eq_true.2 fun t ht=>HP.out t (by rw [show k=ts.length by omega,List.take_length]; exact ht)
  clear HP
  iterate 8 all_goals try first|with_reducible refine splitI (fun h=>?_) fun h=>?_|with_reducible refine splitBI (fun h=>?_) fun h=>?_|simp (maxSteps:=999999) (disch:=first|assumption|omega|(simp;done)|fail) [Tryz.results66, *]
  exact ⟨Nat.le_of_lt hn',fun b hb=>HG.out b hb⟩
theorem RepW.at {g:Nat→Option Blk} {n:Nat} {w:List Int} {q1:AV} (h:RepW g n w q1) {k:Nat} (hk:k < w.length) : ∃ a off,a < n∧(∀ {H:Mem} {ev:Ev} {o:Oper} {t:TypeId},iaS Tryz.prog H ev o t (some (none,1)) (some q1) (some (.lit (.int .i64 (k:Int))))=.val (.ptr a (off+k)) H)∧loadB (some (false,1)) (g a) (off+k)=some (.lit (.int .i64 w[k])):=by
 obtain ⟨a2,off,ha2,hrow,hia⟩:=SliceV.ia (P:=Tryz.prog) h hk 1
 simp only [Nat.mul_one] at hia
 have hcell:=hrow.one (k:=k) (s:=1) (by rw [wdC_len]; exact hk)
 rw [(List.getElem?_eq_some_iff.1 (wdC_at w k hk)).2] at hcell
 exact ⟨a2,off,ha2,hia,hcell⟩
def u16Cells (l:List Nat) : List AV:=l.map fun (c:Nat)=>.lit (.int .u16 (c:Int))
def nextM (M:MachM) (s i:Int) : Int×Int:=if s < 0 then (-1,-1) else (M.rows.getD s.toNat []).getD i.toNat (-1,-1)
def runM (M:MachM) : Int→List Int→List Int
 | _,[]=>[]
 | s,i :: w=>(nextM M s i).2 :: runM M (nextM M s i).1 w
theorem runM_len {M:MachM} : ∀ (w:List Int) (s:Int),(runM M s w).length=w.length
 | [],_=>rfl
 | _ :: w,s=>by unfold runM; rw [List.length_cons,List.length_cons,runM_len w]
def stOK (M:MachM) (s:Int) : Prop:=s = -1∨∃ k:Nat,s=k∧k < M.rows.length
theorem edgeOK_st {M:MachM} {e:Int×Int} (h:edgeOK M.rows.length M.out e=true) : stOK M e.1 ∧ -1≤e.2∧(e.2 = -1∨e.2 < M.out)∧(e.2 = -1→e.1 = -1):=by
 unfold edgeOK at h
 rcases Bool.or_eq_true_iff.1 h with h | h
 ·have h:=of_decide_eq_true h
  subst h
  exact ⟨.inl rfl,by decide,.inl rfl,fun _=>rfl⟩
 ·simp only [Bool.and_eq_true,decide_eq_true_eq] at h
  exact ⟨.inr ⟨e.1.toNat,by omega,by omega⟩,by omega,.inr h.2.2.2,fun h2=>by omega⟩
theorem nextM_at {M:MachM} (hM:M.ok) {k:Nat} {i:Int} (hk:k < M.rows.length) (h0:0≤i) (h1:i < M.inp) : ∃ (hi:i.toNat < (M.rows[k]).length),nextM M k i=(M.rows[k])[i.toNat]∧edgeOK M.rows.length M.out (nextM M k i)=true:=by
 have hr:=hM.2.2.2.2.2.2 _ (List.getElem_mem hk)
 have hi:i.toNat < (M.rows[k]).length:=by omega
 have e:nextM M k i=(M.rows[k])[i.toNat]:=by
  unfold nextM
  rw [if_neg (by omega),show ((k:Int)).toNat=k from rfl]
  have h3:M.rows.getD k []=M.rows[k]:=by rw [List.getD_eq_getElem?_getD,List.getElem?_eq_getElem hk]; rfl
  rw [h3,List.getD_eq_getElem?_getD,List.getElem?_eq_getElem hi]
  rfl
 exact ⟨hi,e,by rw [e]; exact hr.2 _ (List.getElem_mem hi)⟩
theorem nextM_neg {M:MachM} {s i:Int} (h:s < 0) : nextM M s i=(-1,-1):=if_pos h
theorem nextM_ok {M:MachM} (hM:M.ok) {s i:Int} (hs:stOK M s) (h0:0≤i) (h1:i < M.inp) : edgeOK M.rows.length M.out (nextM M s i)=true:=by
 rcases hs with rfl | ⟨k,rfl,hk⟩
 ·rw [nextM_neg (by decide)]; rfl
 ·exact (nextM_at hM hk h0 h1).2.2
structure EdgeAt (g:Nat→Option Blk) (n:Nat) (rv:AV) (k i:Nat) (e:Int×Int) (a off a2 off2:Nat) (q:AV) : Prop where
 an:a < n
 an2:a2 < n
 ia:∀ {H:Mem} {ev:Ev} {o:Oper} {t:TypeId},iaS Tryz.prog H ev o t (some (none,1)) (some rv) (some (.lit (.int .i64 (k:Int))))=.val (.ptr a (off+k)) H
 cell:loadB (some (false,1)) (g a) (off+k)=some q
 ia2:∀ {H:Mem} {ev:Ev} {o:Oper} {t:TypeId},iaS Tryz.prog H ev o t (some (none,2)) (some q) (some (.lit (.int .i64 (i:Int))))=.val (.ptr a2 (off2+i * 2)) H
 cell2:loadB (some (true,2)) (g a2) (off2+i * 2)=some (.agg [.lit (.int .i64 e.1),.lit (.int .i64 e.2)])
theorem take_snoc {α:Type} {l:List α} {k:Nat} (h:k < l.length) : l.take (k+1)=l.take k++[l[k]]:=by rw [List.take_succ,List.getElem?_eq_getElem h]; rfl
def FreshW (g:Nat→Option Blk) (lo n:Nat) (w:List Int) (sv:AV) : Prop:=∃ gk:Nat→Option Blk,(∀ a z,gk a=some z→g a=some z∧lo≤a∧a < n)∧RepW gk n w sv
theorem FreshW.rep {g:Nat→Option Blk} {lo n:Nat} {w:List Int} {sv:AV} (h:FreshW g lo n w sv) : RepW g n w sv :=
 let ⟨_,h1,h3⟩:=h; SliceV.ext (Nat.le_refl _) (fun a z _ hz=>(h1 a z hz).1) h3
theorem FreshW.keep {g g' : Nat→Option Blk} {lo lo' n n' : Nat} {w:List Int} {sv:AV} (h:FreshW g lo n w sv) (h0:lo'≤lo) (h2:n≤n') (hg:∀ a,lo≤a→a < n→g' a=g a) : FreshW g' lo' n' w sv:=by
 obtain ⟨gk,h1,h3⟩:=h
 refine ⟨gk,fun a z hz=>?_,SliceV.ext h2 (fun a z _ hz=>hz) h3⟩
 obtain ⟨e1,e2,e3⟩:=h1 a z hz
 exact ⟨(hg a e2 e3).trans e1,by omega,by omega⟩
theorem GrowV.fresh {g:Nat→Option Blk} {lo n B len:Nat} {sv:AV} {w:List Int} (h:GrowV g lo n B sv len 1 (wdC w)) (hl:len=w.length) : FreshW g lo n w sv:=by
 subst hl
 refine ⟨_,fun a z hz=>?_,h.slice⟩
 have hz' : (if a=B∧lo≤B∧B < n then g a else none)=some z:=hz
 split at hz'
 ·rename_i h1
  obtain ⟨rfl,h2,h3⟩:=h1
  exact ⟨hz',h2,h3⟩
 ·cases hz'
theorem wC2_w (x q:Int) (p:Nat) (g:Nat→Option Blk) (n:Nat) (hp:g p=some (.cells [.lit (.int .i64 q)] true 0)) (hpn:p < n) :
  WC 0 Tryz.prog 125 [.lit (.int .i64 x),.ptr p 0] ⟨.fn g,n⟩ fun r=>r=.ret (.lit (.bool (decide (¬(0≤x∧x < q))))) ⟨.fn g,n⟩:=by
 by_cases t1:x < 0
 ·have hd:decide (¬(0≤x∧x < q))=true:=decide_eq_true (by omega)
  rw [hd]
  refine WC.enterP (noO_ok _ _) hG [] Tryz.func125 rfl (by decide +kernel) (Nat.le_of_ble_eq_true (by kernel_rfl)) ?_
  iterate 6 all_goals try first|with_reducible refine splitI (fun h=>?_) fun h=>?_|with_reducible refine splitBI (fun h=>?_) fun h=>?_|simp (maxSteps:=999999) (disch:=first|assumption|omega|(simp;done)|fail) [Tryz.results125, *]
 by_cases t2:q≤x
 ·have hd:decide (¬(0≤x∧x < q))=true:=decide_eq_true (by omega)
  rw [hd]
  refine WC.enterP (noO_ok _ _) hG [] Tryz.func125 rfl (by decide +kernel) (Nat.le_of_ble_eq_true (by kernel_rfl)) ?_
  iterate 6 all_goals try first|with_reducible refine splitI (fun h=>?_) fun h=>?_|with_reducible refine splitBI (fun h=>?_) fun h=>?_|simp (maxSteps:=999999) (disch:=first|assumption|omega|(simp;done)|fail) [Tryz.results125, *]
 ·have hd:decide (¬(0≤x∧x < q))=false:=decide_eq_false (by omega)
  rw [hd]
  refine WC.enterP (noO_ok _ _) hG [] Tryz.func125 rfl (by decide +kernel) (Nat.le_of_ble_eq_true (by kernel_rfl)) ?_
  iterate 6 all_goals try first|with_reducible refine splitI (fun h=>?_) fun h=>?_|with_reducible refine splitBI (fun h=>?_) fun h=>?_|simp (maxSteps:=999999) (disch:=first|assumption|omega|(simp;done)|fail) [Tryz.results125, *]
theorem iFunc2_w (w:List Int) (hwl:w.length≤1000000) (q:Int) (sv:AV) (p:Nat) (g:Nat→Option Blk) (n:Nat) (hp:g p=some (.cells [.lit (.int .i64 q)] true 0)) (hpn:p < n) (hsv:RepW g n w sv) :
  WC 0 Tryz.prog 143 [sv,.func (.func 125) [] [.ptr p 0]] ⟨.fn g,n⟩ fun r=>∃ z:Int,r=.ret (.lit (.int .i64 z)) ⟨.fn g,n⟩∧decide (0≤z) = !(w.all fun i=>decide (0≤i∧i < q)):=by
 have hlen:=@lenV Tryz.prog _ _ _ _ _ hsv
 have HS:=Hide.mk hsv
 have HP:=Hide.mk hp
 clear hsv hp
 obtain ⟨ret,hret⟩ : ∃ b,b = !(w.all fun i=>decide (0≤i∧i < q)):=⟨_,rfl⟩
 rw [← hret]
 have HRET:=Hide.mk hret
 clear hret
 refine WC.enterP (noO_ok _ _) hG [] Tryz.func143 rfl (by decide +kernel) (Nat.le_of_ble_eq_true (by kernel_rfl)) ?_
 iterate 6 all_goals try first|with_reducible refine splitI (fun h=>?_) fun h=>?_|with_reducible refine splitBI (fun h=>?_) fun h=>?_|simp (maxSteps:=999999) (disch:=first|assumption|omega|(simp;done)|fail) [Tryz.results143, *]
 refine LX.ind (fun m gf H'=>∃ (k:Nat),k≤w.length∧m=w.length - k∧H'=⟨.fn g,n⟩∧Hide (∀ i∈w.take k,0≤i∧i < q) ∧
  gf 0=some sv∧gf 1=some (.func (.func 125) [] [.ptr p 0])∧gf 7=some (.lit (.int .i64 w.length))∧gf 8=some (.lit (.int .i64 k))) (m0:=w.length) ?_ ?_
 ·exact ⟨0,Nat.zero_le _,rfl,rfl,⟨by simp⟩,by simp,by simp,by simp,by simp⟩
 rintro m gf H' ⟨k,hk,rfl,rfl,HPRE,w0,w1,w7,w8⟩ ih
 refine LX.roundP (noO_ok _ _) hG [] (by decide +kernel) ?_
 by_cases hlt:k < w.length
 ·have hltI:(k:Int) < (w.length:Int):=by omega
  obtain ⟨a2,off,ha2,hrow,hia⟩:=SliceV.ia (P:=Tryz.prog) HS.out hlt 1
  simp only [Nat.mul_one] at hia
  have hcell:=hrow.one (k:=k) (s:=1) (by rw [wdC_len]; exact hlt)
  rw [(List.getElem?_eq_some_iff.1 (wdC_at w k hlt)).2] at hcell
  have htk:w.take (k+1)=w.take k++[w[k]]:=by rw [List.take_succ,List.getElem?_eq_getElem hlt]; rfl
  have HT:=Hide.mk htk
  have HM:=Hide.mk (List.getElem_mem hlt)
  clear htk hrow ha2
  generalize w[k]=x at *
  have HC:=Hide.mk (wC2_w x q p g n HP.out hpn)
  iterate 6 all_goals try first|with_reducible refine splitI (fun h=>?_) fun h=>?_|with_reducible refine splitBI (fun h=>?_) fun h=>?_|simp (maxSteps:=999999) (disch:=first|assumption|omega|(simp;done)|fail) [Tryz.results143, *]
  refine WC.mono HC.out ?_
  rintro _ rfl
  by_cases hb:0≤x∧x < q
  ·have hd:decide (¬(0≤x∧x < q))=false:=decide_eq_false (by omega)
   rw [hd]
   have HB:=Hide.mk hb
   clear hb
   iterate 6 all_goals try first|with_reducible refine splitI (fun h=>?_) fun h=>?_|with_reducible refine splitBI (fun h=>?_) fun h=>?_|simp (maxSteps:=999999) (disch:=first|assumption|omega|(simp;done)|fail) [Tryz.results143, *]
   refine ih.out (w.length - (k+1)) _ _ (by omega) ⟨k+1,by omega,rfl,rfl,⟨fun i hi=>?_⟩,by simp [*],by simp [*],by simp [*],by simp⟩
   rw [HT.out] at hi
   rcases List.mem_append.1 hi with h | h
   ·exact HPRE.out i h
   ·rw [List.mem_singleton.1 h]; exact HB.out
  ·have hd:decide (¬(0≤x∧x < q))=true:=decide_eq_true hb
   rw [hd]
   have hr:ret=true:=by
    rw [HRET.out,Bool.not_eq_true',List.all_eq_false]
    exact ⟨x,HM.out,by simpa using hb⟩
   clear hb
   iterate 6 all_goals try first|with_reducible refine splitI (fun h=>?_) fun h=>?_|with_reducible refine splitBI (fun h=>?_) fun h=>?_|simp (maxSteps:=999999) (disch:=first|assumption|omega|(simp;done)|fail) [Tryz.results143, *]
 ·have hltI:¬(k:Int) < (w.length:Int):=by omega
  have hk2:k=w.length:=by omega
  have hr:ret=false:=by
   rw [HRET.out,Bool.not_eq_false',List.all_eq_true]
   intro i hi
   have:=HPRE.out i (by rw [hk2,List.take_length]; exact hi)
   simpa using this
  clear hk2
  iterate 6 all_goals try first|with_reducible refine splitI (fun h=>?_) fun h=>?_|with_reducible refine splitBI (fun h=>?_) fun h=>?_|simp (maxSteps:=999999) (disch:=first|assumption|omega|(simp;done)|fail) [Tryz.results143, *]
theorem cFunc2_w (w:List Int) (hwl:w.length≤1000000) (q:Int) (sv:AV) (p:Nat) (g:Nat→Option Blk) (n:Nat) (hp:g p=some (.cells [.lit (.int .i64 q)] true 0)) (hpn:p < n) (hsv:RepW g n w sv) :
  WC 0 Tryz.prog 124 [sv,.func (.func 125) [] [.ptr p 0]] ⟨.fn g,n⟩ fun r=>r=.ret (.lit (.bool (!(w.all fun i=>decide (0≤i∧i < q))))) ⟨.fn g,n⟩:=by
 have HI:=Hide.mk (iFunc2_w w hwl q sv p g n hp hpn hsv)
 clear hp hsv
 generalize (!(w.all fun i=>decide (0≤i∧i < q)))=bb at *
 refine WC.enterP (noO_ok _ _) hG [] Tryz.func124 rfl (by decide +kernel) (Nat.le_of_ble_eq_true (by kernel_rfl)) ?_
 iterate 6 all_goals try first|with_reducible refine splitI (fun h=>?_) fun h=>?_|with_reducible refine splitBI (fun h=>?_) fun h=>?_|simp (maxSteps:=999999) (disch:=first|assumption|omega|(simp;done)|fail) [Tryz.results124, *]
 refine WC.mono HI.out ?_
 rintro _ ⟨z,rfl,hz⟩
 cases bb with
 | true =>
  have hz1:0≤z:=of_decide_eq_true hz
  clear hz
  iterate 6 all_goals try first|with_reducible refine splitI (fun h=>?_) fun h=>?_|with_reducible refine splitBI (fun h=>?_) fun h=>?_|simp (maxSteps:=999999) (disch:=first|assumption|omega|(simp;done)|fail) [Tryz.results124, *]
 | false =>
  have hz1:¬0≤z:=of_decide_eq_false hz
  clear hz
  iterate 6 all_goals try first|with_reducible refine splitI (fun h=>?_) fun h=>?_|with_reducible refine splitBI (fun h=>?_) fun h=>?_|simp (maxSteps:=999999) (disch:=first|assumption|omega|(simp;done)|fail) [Tryz.results124, *]
def wErr (w:List Int) (q:Int) : Int:=if q > 16∨w.length > 256 then 3 else if q < 1∨inW w q=false then 1 else 0
theorem wCheck_w (w:List Int) (hwl:w.length≤1000000) (q:Int) (g:Nat→Option Blk) (n:Nat) (sv:AV) (hsv:RepW g n w sv) :
  WC 0 Tryz.prog 77 [sv,.lit (.int .i64 q)] ⟨.fn g,n⟩ fun r=>r=.ret (.lit (.int .i64 (wErr w q))) ⟨.fn g,n⟩:=by
 refine WC.drop1 rfl ?_
 have hlen:=@lenV Tryz.prog _ _ _ _ _ hsv
 have HS:=Hide.mk hsv
 clear hsv
 by_cases t1:q > 16
 ·have he:wErr w q=3:=by unfold wErr; rw [if_pos (.inl t1)]
  rw [he]
  refine WC.enterP (noO_ok _ _) hG [] Tryz.func77 rfl (by decide +kernel) (Nat.le_of_ble_eq_true (by kernel_rfl)) ?_
  iterate 6 all_goals try first|with_reducible refine splitI (fun h=>?_) fun h=>?_|with_reducible refine splitBI (fun h=>?_) fun h=>?_|simp (maxSteps:=999999) (disch:=first|assumption|omega|(simp;done)|fail) [Tryz.results77, *]
  all_goals exact ⟨Nat.le_succ n,fun b hb=>gput_lt hb⟩
 by_cases t2:w.length > 256
 ·have he:wErr w q=3:=by unfold wErr; rw [if_pos (.inr t2)]
  rw [he]
  have t2I:256 < (w.length:Int):=by omega
  refine WC.enterP (noO_ok _ _) hG [] Tryz.func77 rfl (by decide +kernel) (Nat.le_of_ble_eq_true (by kernel_rfl)) ?_
  iterate 6 all_goals try first|with_reducible refine splitI (fun h=>?_) fun h=>?_|with_reducible refine splitBI (fun h=>?_) fun h=>?_|simp (maxSteps:=999999) (disch:=first|assumption|omega|(simp;done)|fail) [Tryz.results77, *]
  all_goals exact ⟨Nat.le_succ n,fun b hb=>gput_lt hb⟩
 have t2I:¬256 < (w.length:Int):=by omega
 by_cases t3:q < 1
 ·have he:wErr w q=1:=by unfold wErr; rw [if_neg (by omega),if_pos (.inl t3)]
  rw [he]
  refine WC.enterP (noO_ok _ _) hG [] Tryz.func77 rfl (by decide +kernel) (Nat.le_of_ble_eq_true (by kernel_rfl)) ?_
  iterate 6 all_goals try first|with_reducible refine splitI (fun h=>?_) fun h=>?_|with_reducible refine splitBI (fun h=>?_) fun h=>?_|simp (maxSteps:=999999) (disch:=first|assumption|omega|(simp;done)|fail) [Tryz.results77, *]
  all_goals exact ⟨Nat.le_succ n,fun b hb=>gput_lt hb⟩
 have HC:=Hide.mk (cFunc2_w w hwl q sv n (gput g n (some (.cells [.lit (.int .i64 q)] true 0))) (n+1) gput_eq (by omega) (HS.out.mono (by omega) fun a ha=>gput_lt ha))
 have he:wErr w q=if inW w q=false then 1 else 0:=by
  unfold wErr; rw [if_neg (by omega)]
  by_cases h:inW w q=false
  ·rw [if_pos (.inr h),if_pos h]
  ·rw [if_neg (fun h2=>h2.elim t3 h),if_neg h]
 rw [he]
 clear he
 have hin:(w.all fun i=>decide (0≤i∧i < q))=inW w q:=rfl
 rw [hin] at HC
 clear hin
 generalize inW w q=bb at *
 refine WC.enterP (noO_ok _ _) hG [] Tryz.func77 rfl (by decide +kernel) (Nat.le_of_ble_eq_true (by kernel_rfl)) ?_
 iterate 6 all_goals try first|with_reducible refine splitI (fun h=>?_) fun h=>?_|with_reducible refine splitBI (fun h=>?_) fun h=>?_|simp (maxSteps:=999999) (disch:=first|assumption|omega|(simp;done)|fail) [Tryz.results77, *]
 refine WC.mono HC.out ?_
 rintro _ rfl
 cases bb
 all_goals
  iterate 6 all_goals try first|with_reducible refine splitI (fun h=>?_) fun h=>?_|with_reducible refine splitBI (fun h=>?_) fun h=>?_|simp (maxSteps:=999999) (disch:=first|assumption|omega|(simp;done)|fail) [Tryz.results77, *]
  all_goals exact ⟨Nat.le_succ n,fun b hb=>gput_lt hb⟩
theorem mkI57:mkI Tryz.prog 65=some (.lit (.int .i64 0)):=by kernel_rfl
attribute [simp] mkI57
def u8C (bs:List Nat) : List AV:=bs.map fun (b:Nat)=>.lit (.int .u8 (b:Int))
def RepB (g:Nat→Option Blk) (n:Nat) (bs:List Nat) (sv:AV) : Prop:=SliceV g n sv bs.length (u8C bs)
theorem RepB.at {g:Nat→Option Blk} {n:Nat} {w:List Nat} {q1:AV} (h:RepB g n w q1) {k:Nat} (hk:k < w.length) : ∃ a off,a < n∧(∀ {H:Mem} {ev:Ev} {o:Oper} {t:TypeId},iaS Tryz.prog H ev o t (some (none,1)) (some q1) (some (.lit (.int .i64 (k:Int))))=.val (.ptr a (off+k)) H)∧loadB (some (false,1)) (g a) (off+k)=some (.lit (.int .u8 (w[k] : Nat))):=by
 obtain ⟨a2,off,ha2,hrow,hia⟩:=SliceV.ia (P:=Tryz.prog) h hk 1
 simp only [Nat.mul_one] at hia
 have hcell:=hrow.one (k:=k) (s:=1) (by unfold u8C; rw [List.length_map]; exact hk)
 rw [show (u8C w)[k]'(by unfold u8C; rw [List.length_map]; exact hk)=.lit (.int .u8 (w[k] : Nat)) by simp [u8C]] at hcell
 exact ⟨a2,off,ha2,hia,hcell⟩
theorem SliceV.cell {g:Nat→Option Blk} {b len:Nat} {sv:AV} {cs:List AV} : SliceV g b sv len cs→cellsOf sv=[sv]:=by
 rintro (⟨_,_,rfl | rfl⟩ | ⟨a,off,_,⟨c,rfl⟩ | ⟨c,rfl⟩,_⟩) <;> rfl
def SafeW (g:Nat→Option Blk) (lo n B:Nat) (w:List Int) (sv:AV) : Prop:=∃ gk:Nat→Option Blk,(∀ a z,gk a=some z→g a=some z∧lo≤a∧a < n∧a≠B)∧RepW gk n w sv
theorem SafeW.rep {g:Nat→Option Blk} {lo n B:Nat} {w:List Int} {sv:AV} (h:SafeW g lo n B w sv) : RepW g n w sv :=
 let ⟨_,h1,h3⟩:=h; SliceV.ext (Nat.le_refl _) (fun a z _ hz=>(h1 a z hz).1) h3
theorem SafeW.keep {g g' : Nat→Option Blk} {lo lo' n n' B B' : Nat} {w:List Int} {sv:AV} (h:SafeW g lo n B w sv) (h0:lo'≤lo) (h2:n≤n') (hB:n≤B'∨B'=B∨B' < lo) (hg:∀ a,lo≤a→a < n→a≠B→g' a=g a) : SafeW g' lo' n' B' w sv:=by
 obtain ⟨gk,h1,h3⟩:=h
 refine ⟨gk,fun a z hz=>?_,SliceV.ext h2 (fun a z _ hz=>hz) h3⟩
 obtain ⟨e1,e2,e3,e4⟩:=h1 a z hz
 exact ⟨(hg a e2 e3 e4).trans e1,by omega,by omega,by omega⟩
def RowsF (g:Nat→Option Blk) (lo n B:Nat) (ts:List (List Int×List Int)) (cs:List AV) : Prop :=
 cs.length=ts.length * 2∧∀ (k:Nat) (h:k < ts.length),∃ s1 s2,cs[k * 2]?=some s1∧cs[k * 2+1]?=some s2∧SafeW g lo n B ts[k].1 s1∧SafeW g lo n B ts[k].2 s2
theorem RowsF.keep {g g' : Nat→Option Blk} {lo lo' n n' B B' : Nat} {ts:List (List Int×List Int)} {cs:List AV} (h:RowsF g lo n B ts cs) (h0:lo'≤lo) (h2:n≤n') (hB:n≤B'∨B'=B∨B' < lo) (hg:∀ a,lo≤a→a < n→a≠B→g' a=g a) : RowsF g' lo' n' B' ts cs :=
 ⟨h.1,fun k hk=>let ⟨s1,s2,h1,h3,h4,h5⟩:=h.2 k hk; ⟨s1,s2,h1,h3,h4.keep h0 h2 hB hg,h5.keep h0 h2 hB hg⟩⟩
theorem RowsF.nil {g:Nat→Option Blk} {lo n B:Nat} : RowsF g lo n B [] []:=⟨rfl,fun k hk=>by cases hk⟩
theorem RowsF.snoc {g:Nat→Option Blk} {lo n B:Nat} {ts:List (List Int×List Int)} {cs:List AV} (h:RowsF g lo n B ts cs) {t:List Int×List Int} {s1 s2:AV} (h1:SafeW g lo n B t.1 s1) (h2:SafeW g lo n B t.2 s2) : RowsF g lo n B (ts++[t]) (cs++[s1,s2]):=by
 have hl:=h.1
 refine ⟨by simp [hl]; omega,fun k hk=>?_⟩
 rw [List.length_append,List.length_singleton] at hk
 by_cases hlt:k < ts.length
 ·obtain ⟨t1,t2,e1,e2,e3,e4⟩:=h.2 k hlt
  refine ⟨t1,t2,?_,?_,?_,?_⟩
  ·rw [List.getElem?_append_left (by omega)]; exact e1
  ·rw [List.getElem?_append_left (by omega)]; exact e2
  ·rw [List.getElem_append_left hlt]; exact e3
  ·rw [List.getElem_append_left hlt]; exact e4
 ·have hk2:k=ts.length:=by omega
  subst hk2
  refine ⟨s1,s2,?_,?_,?_,?_⟩
  ·rw [List.getElem?_append_right (by omega),hl,Nat.sub_self]; rfl
  ·rw [List.getElem?_append_right (by omega),hl,show ts.length * 2+1 - ts.length * 2=1 by omega]; rfl
  ·simpa using h1
  ·simpa using h2
theorem RowsF.rows {g:Nat→Option Blk} {lo n B:Nat} {ts:List (List Int×List Int)} {cs:List AV} (h:RowsF g lo n B ts cs) : RowsT g n ts cs :=
 ⟨h.1,fun k hk=>let ⟨s1,s2,h1,h3,h4,h5⟩:=h.2 k hk; ⟨s1,s2,h1,h3,h4.rep,h5.rep⟩⟩
def LogF (g:Nat→Option Blk) (lo n B:Nat) (ts:List (List Int×List Int)) (sv:AV) : Prop:=∃ cs,GrowV g lo n B sv ts.length 2 cs∧RowsF g lo n B ts cs
theorem LogF.keep {g g' : Nat→Option Blk} {lo lo' n n' B:Nat} {ts:List (List Int×List Int)} {sv:AV} (h:LogF g lo n B ts sv) (h0:lo'≤lo) (h2:n≤n') (hg:∀ a,lo≤a→a < n→g' a=g a) : LogF g' lo' n' B ts sv:=by
 obtain ⟨cs,h1,h3⟩:=h
 refine ⟨cs,?_,h3.keep h0 h2 (.inr (.inl rfl)) fun a h4 h5 _=>hg a h4 h5⟩
 rcases h1 with h1 | ⟨k1,k2,k3,k4,k5,k6⟩
 ·exact .inl h1
 ·exact .inr ⟨k1,k2,by omega,by omega,(hg B k3 k4).trans k5,k6⟩
theorem LogF.one {g:Nat→Option Blk} {lo n B:Nat} {ts:List (List Int×List Int)} {sv:AV} (h:LogF g lo n B ts sv) : oneC sv=true:=let ⟨_,h1,_⟩:=h; h1.one
def ListB (g:Nat→Option Blk) (n:Nat) (l:List (List Nat)) (wv:AV) : Prop:=∃ svs,SliceV g n wv l.length svs∧svs.length=l.length∧∀ (k:Nat) (h:k < l.length),∃ sv,svs[k]?=some sv∧RepB g n l[k] sv
theorem ListB.mono {g g' : Nat→Option Blk} {n n' : Nat} {l:List (List Nat)} {wv:AV} (h:ListB g n l wv) (hn:n≤n') (hg:∀ a,a < n→g' a=g a) : ListB g' n' l wv :=
 let ⟨svs,h1,h2,h3⟩:=h; ⟨svs,h1.mono hn hg,h2,fun k hk=>let ⟨sv,e1,e2⟩:=h3 k hk; ⟨sv,e1,SliceV.mono hn hg e2⟩⟩
theorem ListB.at {g:Nat→Option Blk} {n:Nat} {l:List (List Nat)} {wv:AV} (h:ListB g n l wv) {k:Nat} (hk:k < l.length) : ∃ a off q,a < n∧(∀ {H:Mem} {ev:Ev} {o:Oper} {t:TypeId},iaS Tryz.prog H ev o t (some (none,1)) (some wv) (some (.lit (.int .i64 (k:Int))))=.val (.ptr a (off+k)) H)∧loadB (some (false,1)) (g a) (off+k)=some q∧RepB g n l[k] q:=by
 obtain ⟨svs,h1,h2,h3⟩:=h
 obtain ⟨q,e1,e2⟩:=h3 k hk
 obtain ⟨a,off,ha,hrow,hia⟩:=h1.ia (P:=Tryz.prog) hk 1
 simp only [Nat.mul_one] at hia
 have hc:=hrow.one (k:=k) (s:=1) (by omega)
 rw [(List.getElem?_eq_some_iff.1 e1).2] at hc
 exact ⟨a,off,q,ha,hia,hc,e2⟩
structure InG (g:Nat→Option Blk) (n:Nat) (st inp out:Nat) (es:List Nat) (ev:AV) (ws:List (List Nat)) (wv:AV) : Prop where
 b0:st < 256
 b1:inp < 256
 b2:out < 256
 se:SliceA g n ev es.length (u16Cells es)
 eb:∀ c∈es,c < 65536
 sw:ListB g n ws wv
 wb:∀ w∈ws,∀ b∈w,b < 256
theorem InG.mono {g g' : Nat→Option Blk} {n n' st inp out:Nat} {es:List Nat} {ev:AV} {ws:List (List Nat)} {wv:AV} (h:InG g n st inp out es ev ws wv) (hn:n≤n') (hg:∀ a,a < n→g' a=g a) : InG g' n' st inp out es ev ws wv :=
 ⟨h.b0,h.b1,h.b2,h.se.mono hn hg,h.eb,h.sw.mono hn hg,h.wb⟩
end Go.Ai
end
section
namespace Go.Ai
open Go.Proofs
set_option maxRecDepth 10000
theorem okR_cons {O:Int} {p:Bool} {o:Int} {r:List Int} (h1 : -1≤o) (h2:o < O) (h3:p=true→o = -1) (h4:okR O (decide (o = -1)) r=true) : okR O p (o :: r)=true:=by
 show (!(decide (o < -1) || (decide (O≤o) || (p && decide (¬o = -1)))) && okR O (decide (o = -1)) r)=true
 rw [decide_eq_false (by omega),decide_eq_false (by omega),h4]
 cases p with
 | false=>rfl
 | true=>rw [decide_eq_false (by simp [h3 rfl])]; rfl
theorem okR_inv {O:Int} {p:Bool} {o:Int} {r:List Int} (h:okR O p (o :: r)=true) : -1≤o∧o < O∧(p=true→o = -1)∧okR O (decide (o = -1)) r=true:=by
 have h' : (!(decide (o < -1) || (decide (O≤o) || (p && decide (¬o = -1)))) && okR O (decide (o = -1)) r)=true:=h
 rw [Bool.and_eq_true,Bool.not_eq_true',Bool.or_eq_false_iff,Bool.or_eq_false_iff] at h'
 obtain ⟨⟨h1,h2,h3⟩,h4⟩:=h'
 have h1:=of_decide_eq_false h1
 have h2:=of_decide_eq_false h2
 refine ⟨by omega,by omega,fun hp=>?_,h4⟩
 rw [hp,Bool.true_and] at h3
 have h3:=of_decide_eq_false h3
 omega
theorem okR_run {M:MachM} (hM:M.ok) : ∀ (w:List Int) (s:Int) (p:Bool),stOK M s→(p=true→s = -1)→inW w M.inp=true→okR M.out p (runM M s w)=true
 | [],_,_,_,_,_=>rfl
 | i :: w,s,p,hs,hp,hw=>by
  unfold inW at hw
  rw [List.all_cons,Bool.and_eq_true] at hw
  have hi:=of_decide_eq_true hw.1
  have he:=edgeOK_st (nextM_ok hM hs hi.1 hi.2)
  have hO:=hM.2.2.1
  show okR M.out p ((nextM M s i).2 :: runM M (nextM M s i).1 w)=true
  refine okR_cons he.2.1 (by rcases he.2.2.1 with h | h <;> omega) (fun h=>?_) (okR_run hM w _ _ he.1 (fun h=>he.2.2.2 (of_decide_eq_true h)) hw.2)
  rw [nextM_neg (by rw [hp h]; decide)]
theorem okR_at {O:Int} : ∀ (r:List Int) (k:Nat) (p:Bool),okR O p r=true→k < r.length → -1≤r.getD k 0∧r.getD k 0 < O
 | [],_,_,_,hk=>by cases hk
 | o :: r,0,p,h,_=>by obtain ⟨h1,h2,_,_⟩:=okR_inv h; exact ⟨h1,h2⟩
 | o :: r,k+1,p,h,hk=>by obtain ⟨_,_,_,h4⟩:=okR_inv h; exact okR_at r k _ h4 (by simpa using hk)
structure LogOK (I O:Int) (ts:List (List Int×List Int)) : Prop where
 len:ts.length≤200
 i1:1≤I
 i2:I≤16
 o1:1≤O
 o2:O≤16
 wl:∀ t∈ts,t.1.length≤256
 ok:∀ t∈ts,validB I O t=true
theorem LogOK.small {I O:Int} {ts:List (List Int×List Int)} (h:LogOK I O ts) : SmallL ts:=by
 refine ⟨h.len,fun t ht=>by have:=h.wl t ht; omega,fun t ht=>?_⟩
 have h1:=h.ok t ht
 unfold validB at h1
 rw [Bool.and_eq_true,Bool.and_eq_true] at h1
 have h2:=of_decide_eq_true h1.1.1
 have:=h.wl t ht
 omega
theorem LogOK.err {I O:Int} {ts:List (List Int×List Int)} (h:LogOK I O ts) : logErr I O ts=0:=by
 have h1:=h.i1; have h2:=h.i2; have h3:=h.o1; have h4:=h.o2
 unfold logErr
 have e:withinB I O ts=true:=by
  unfold withinB
  rw [decide_eq_true h2,decide_eq_true h4,Bool.and_true,Bool.and_true,List.all_eq_true]
  intro t ht
  have:=h.wl t ht
  exact decide_eq_true (by omega)
 rw [e,if_neg (by decide),if_neg (by omega),if_pos]
 rw [List.all_eq_true]
 exact h.ok
theorem LogOK.lens {I O:Int} {ts:List (List Int×List Int)} (h:LogOK I O ts) {t:List Int×List Int} (ht:t∈ts) : t.2.length=t.1.length∧inW t.1 I=true∧okR O false t.2=true:=by
 have h1:=h.ok t ht
 unfold validB at h1
 rw [Bool.and_eq_true,Bool.and_eq_true] at h1
 exact ⟨of_decide_eq_true h1.1.1,h1.1.2,h1.2⟩
theorem validB_of {I O:Int} {t:List Int×List Int} (h1:t.2.length=t.1.length) (h2:inW t.1 I=true) (h3:okR O false t.2=true) : validB I O t=true:=by
 unfold validB; rw [decide_eq_true h1,h2,h3]; rfl
theorem LogOK.set {I O:Int} {ts:List (List Int×List Int)} (h:LogOK I O ts) {i:Nat} {t:List Int×List Int} (h1:t.1.length≤256) (h2:validB I O t=true) : LogOK I O (ts.set i t) :=
 ⟨by rw [List.length_set]; exact h.len,h.i1,h.i2,h.o1,h.o2,fun u hu=>by rcases List.mem_or_eq_of_mem_set hu with h3 | rfl; exact h.wl u h3; exact h1,fun u hu=>by rcases List.mem_or_eq_of_mem_set hu with h3 | rfl; exact h.ok u h3; exact h2⟩
theorem getD_mem {α:Type} {l:List α} {k:Nat} {d:α} (h:k < l.length) : l.getD k d∈l∧l.getD k d=l[k]:=by
 have:l.getD k d=l[k]:=by rw [List.getD_eq_getElem?_getD,List.getElem?_eq_getElem h]; rfl
 exact ⟨this ▸ List.getElem_mem h,this⟩
def stepL:List Int→List Int→List Int→List Int→Nat→Option Nat
 | i :: x,a :: r,j :: y,b :: s,k=>if i=j then (if a=b then stepL x r y s (k+1) else some k) else none
 | _,_,_,_,_=>none
def conA (t:List Int×List Int) : List (List Int×List Int)→Nat→Option (Nat×Nat)
 | [],_=>none
 | u :: us,a=>match stepL u.1 u.2 t.1 t.2 0 with
  | some k=>some (a,k)
  | none=>conA t us (a+1)
def conB (ts:List (List Int×List Int)) : List (List Int×List Int)→Nat→Option (Nat×Nat×Nat)
 | [],_=>none
 | t :: us,b=>match conA t (ts.take b) 0 with
  | some (a,k)=>some (a,b,k)
  | none=>conB ts us (b+1)
theorem stepL_run {M:MachM} : ∀ (w v:List Int) (s:Int) (k:Nat),stepL w (runM M s w) v (runM M s v) k=none
 | [],_,_,_=>rfl
 | _ :: _,[],_,_=>rfl
 | i :: w,j :: v,s,k=>by
  show (if i=j then (if (nextM M s i).2=(nextM M s j).2 then _ else _) else none)=none
  by_cases h:i=j
  ·subst h
   rw [if_pos rfl,if_pos rfl]
   exact stepL_run w v _ _
  ·rw [if_neg h]
theorem conA_run {M:MachM} {t:List Int×List Int} (ht:t.2=runM M 0 t.1) : ∀ (us:List (List Int×List Int)) (a:Nat),(∀ u∈us,u.2=runM M 0 u.1)→conA t us a=none
 | [],_,_=>rfl
 | u :: us,a,h=>by
  unfold conA
  rw [h u (by simp),ht,stepL_run]
  exact conA_run ht us _ fun v hv=>h v (by simp [hv])
theorem conB_run {M:MachM} {ts:List (List Int×List Int)} (h:∀ u∈ts,u.2=runM M 0 u.1) : ∀ (us:List (List Int×List Int)) (b:Nat),(∀ u∈us,u.2=runM M 0 u.1)→conB ts us b=none
 | [],_,_=>rfl
 | t :: us,b,h2=>by
  unfold conB
  rw [conA_run (h2 t (by simp)) _ _ fun u hu=>h u (List.mem_of_mem_take hu)]
  exact conB_run h us _ fun v hv=>h2 v (by simp [hv])
end Go.Ai
end
section
namespace Go.Ai
open Go.Proofs
set_option maxRecDepth 10000
set_option maxHeartbeats 40000000
def optI:Option Nat→Int
 | some k=>(k:Int)
 | none=>-1
def stepI (u t:List Int×List Int) : Int:=optI (stepL u.1 u.2 t.1 t.2 0)
theorem stepL_at {x a y b:List Int} {k:Nat} (h1:k < x.length) (h2:k < a.length) (h3:k < y.length) (h4:k < b.length) : stepL (x.drop k) (a.drop k) (y.drop k) (b.drop k) k=if x[k]=y[k] then (if a[k]=b[k] then stepL (x.drop (k+1)) (a.drop (k+1)) (y.drop (k+1)) (b.drop (k+1)) (k+1) else some k) else none:=by
 rw [List.drop_eq_getElem_cons h1,List.drop_eq_getElem_cons h2,List.drop_eq_getElem_cons h3,List.drop_eq_getElem_cons h4]; rfl
theorem stepL_nil {x a b:List Int} {k:Nat} : stepL x a [] b k=none:=by
 cases x with
 | nil=>rfl
 | cons i x=>cases a with
  | nil=>rfl
  | cons o a=>rfl
theorem step_w {I O:Int} {u t:List Int×List Int} (hu:u.2.length=u.1.length) (ht:t.2.length=t.1.length) (hul:u.1.length≤256) (htl:t.1.length≤256) (g:Nat→Option Blk) (n:Nat) (s1 s2 r1 r2:AV) (h1:RepW g n u.1 s1) (h2:RepW g n u.2 s2) (h3:RepW g n t.1 r1) (h4:RepW g n t.2 r2) :
  WC 0 Tryz.prog 135 [.agg [s1,s2],.agg [r1,r2]] ⟨.fn g,n⟩ fun r=>r=.ret (.lit (.int .i64 (stepI u t))) ⟨.fn g,n⟩:=by
 refine WC.drop1 rfl ?_
 have hlen1:=@lenV Tryz.prog _ _ _ _ _ h1
 have hlen2:=@lenV Tryz.prog _ _ _ _ _ h2
 have hlen3:=@lenV Tryz.prog _ _ _ _ _ h3
 have hlen4:=@lenV Tryz.prog _ _ _ _ _ h4
 have e1:oneC s1=true:=h1.one
 have e2:oneC s2=true:=h2.one
 have e3:oneC r1=true:=h3.one
 have e4:oneC r2=true:=h4.one
 have hone1:allOne [s1,s2]=true:=by simp [e1,e2]
 have hone2:allOne [r1,r2]=true:=by simp [e3,e4]
 have H1:=Hide.mk h1
 have H2:=Hide.mk h2
 have H3:=Hide.mk h3
 have H4:=Hide.mk h4
 clear h1 h2 h3 h4
 obtain ⟨z,hz⟩ : ∃ z,z=stepI u t:=⟨_,rfl⟩
 rw [← hz]
 have HZ:=Hide.mk hz
 clear hz
 rw [hu] at hlen2
 rw [ht] at hlen4
 by_cases hut:(t.1.length:Int) < (u.1.length:Int)
 all_goals
  refine WC.enterP (noO_ok _ _) hG pl135 Tryz.func135 rfl (by decide +kernel) (Nat.le_of_ble_eq_true (by kernel_rfl)) ?_
  iterate 8 all_goals try first|with_reducible refine splitI (fun h=>?_) fun h=>?_|with_reducible refine splitBI (fun h=>?_) fun h=>?_|simp (maxSteps:=999999) (disch:=first|assumption|omega|(simp;done)|fail) [Tryz.results135, *]
  refine LX.ind (fun m gf H'=>∃ (k:Nat),k≤u.1.length∧k≤t.1.length∧m=u.1.length - k∧H'=⟨.fn (gput (gput g n (some (.cells [s1,s2] true 0))) (n+1) (some (.cells [r1,r2] true 0))),n+1+1⟩ ∧
   Hide (z=optI (stepL (u.1.drop k) (u.2.drop k) (t.1.drop k) (t.2.drop k) k))∧gf 2=some (.ptr n 0)∧gf 3=some (.ptr (n+1) 0)∧gf 5=some (.lit (.int .i64 k))) (m0:=u.1.length) ?_ ?_
  ·exact ⟨0,Nat.zero_le _,Nat.zero_le _,rfl,rfl,HZ,by simp,by simp,by simp⟩
  rintro m gf H' ⟨k,hku,hkt,rfl,rfl,HP,w2,w3,w5⟩ ih
  refine LX.roundP (noO_ok _ _) hG pl135 (by decide +kernel) ?_
  by_cases hlu:k < u.1.length
  ·have hluI:(k:Int) < (u.1.length:Int):=by omega
   by_cases hlt:k < t.1.length
   ·have hltI:(k:Int) < (t.1.length:Int):=by omega
    obtain ⟨b1,o1,hb1,hia1,hc1⟩:=RepW.at H1.out hlu
    obtain ⟨b2,o2,hb2,hia2,hc2⟩:=RepW.at H2.out (by omega:k < u.2.length)
    obtain ⟨b3,o3,hb3,hia3,hc3⟩:=RepW.at H3.out hlt
    obtain ⟨b4,o4,hb4,hia4,hc4⟩:=RepW.at H4.out (by omega:k < t.2.length)
    have HST:=Hide.mk (HP.out.trans (congrArg optI (stepL_at hlu (by omega:k < u.2.length) hlt (by omega:k < t.2.length))))
    generalize u.1[k]=i at *
    generalize u.2[k]=a at *
    generalize t.1[k]=j at *
    generalize t.2[k]=b at *
    by_cases hij:i=j
    ·rw [if_pos hij] at HST
     subst hij
     by_cases hab:a=b
     ·rw [if_pos hab] at HST
      subst hab
      iterate 8 all_goals try first|with_reducible refine splitI (fun h=>?_) fun h=>?_|with_reducible refine splitBI (fun h=>?_) fun h=>?_|simp (maxSteps:=999999) (disch:=first|assumption|omega|(simp;done)|fail) [Tryz.results135, *]
      exact ih.out (u.1.length - (k+1)) _ _ (by omega) ⟨k+1,by omega,by omega,rfl,rfl,HST,by simp [*],by simp [*],by simp⟩
     ·rw [if_neg hab] at HST
      have hz:z=k:=HST.out
      clear HST HP HZ
      subst hz
      iterate 8 all_goals try first|with_reducible refine splitI (fun h=>?_) fun h=>?_|with_reducible refine splitBI (fun h=>?_) fun h=>?_|simp (maxSteps:=999999) (disch:=first|assumption|omega|(simp;done)|fail) [Tryz.results135, *]
      all_goals exact ⟨by show n≤n+1+1; omega,fun b (hb:b < n)=>(gput_lt (by omega)).trans (gput_lt hb)⟩
    ·rw [if_neg hij] at HST
     have hz:z = -1:=HST.out
     clear HST HP HZ
     subst hz
     iterate 8 all_goals try first|with_reducible refine splitI (fun h=>?_) fun h=>?_|with_reducible refine splitBI (fun h=>?_) fun h=>?_|simp (maxSteps:=999999) (disch:=first|assumption|omega|(simp;done)|fail) [Tryz.results135, *]
     all_goals exact ⟨by show n≤n+1+1; omega,fun b (hb:b < n)=>(gput_lt (by omega)).trans (gput_lt hb)⟩
   ·have hltI:¬(k:Int) < (t.1.length:Int):=by omega
    have hz:z = -1:=by rw [HP.out,List.drop_eq_nil_of_le (by omega:t.1.length≤k)]; rw [stepL_nil]; rfl
    try (exfalso; omega)
    all_goals clear HP HZ
    all_goals subst hz
    iterate 8 all_goals try first|with_reducible refine splitI (fun h=>?_) fun h=>?_|with_reducible refine splitBI (fun h=>?_) fun h=>?_|simp (maxSteps:=999999) (disch:=first|assumption|omega|(simp;done)|fail) [Tryz.results135, *]
    all_goals exact ⟨by show n≤n+1+1; omega,fun b (hb:b < n)=>(gput_lt (by omega)).trans (gput_lt hb)⟩
  ·have hluI:¬(k:Int) < (u.1.length:Int):=by omega
   have hz:z = -1:=by rw [HP.out,List.drop_eq_nil_of_le (by omega:u.1.length≤k)]; rfl
   try (exfalso; omega)
   all_goals clear HP HZ
   all_goals subst hz
   iterate 8 all_goals try first|with_reducible refine splitI (fun h=>?_) fun h=>?_|with_reducible refine splitBI (fun h=>?_) fun h=>?_|simp (maxSteps:=999999) (disch:=first|assumption|omega|(simp;done)|fail) [Tryz.results135, *]
   all_goals exact ⟨by show n≤n+1+1; omega,fun b (hb:b < n)=>(gput_lt (by omega)).trans (gput_lt hb)⟩
theorem SliceV.cut {g:Nat→Option Blk} {b len:Nat} {sv:AV} {cs:List AV} (h:SliceV g b sv len cs) (hc:CapV sv) {t:TypeId} (he:(elSz Tryz.prog t).map (·.1)=some none) {k sz:Nat} (hk:k≤len) (h0:0 < len) :
  ∃ sv',(∀ {H:Mem} {ev:Ev} {d:Option Tmp} {ty:TypeId} {p:String} {af:Array Edge} {gd:Option (Nat×Bool)} {x hi:Operand} {hx:ev x=some sv} {hh:ev hi=some (.lit (.int .i64 (k:Int)))},
   ex2 Tryz.prog H ev ⟨d,.slice t x none (some hi) none,ty,p,af,gd⟩ x hi (some sv) (some (.lit (.int .i64 (k:Int)))) hx hh=.val sv' H)∧SliceV g b sv' k (cs.take (k * sz)):=by
 rcases h with ⟨h1,_⟩ | ⟨a,off,ha,⟨c,rfl⟩ | ⟨c,rfl⟩,hrow⟩
 ·omega
 ·have hcc:=hc _ _ _ _ rfl
  refine ⟨.sl a off k c,?_,.inr ⟨a,off,ha,.inl ⟨c,rfl⟩,hrow.takes _⟩⟩
  intro H ev d ty p af gd x hi hx hh
  rw [slice_sl_hi he (by omega) (by omega) (by omega)]
  simp
 ·refine ⟨.slq a off k c,?_,.inr ⟨a,off,ha,.inr ⟨c,rfl⟩,hrow.takes _⟩⟩
  intro H ev d ty p af gd x hi hx hh
  rw [slice_slq_hi he (by omega) (by omega) (by omega)]
  simp
theorem el22:(elSz Tryz.prog 52).map (·.1)=some none:=by kernel_rfl
theorem LogR.cut {g:Nat→Option Blk} {n:Nat} {ts:List (List Int×List Int)} {sv:AV} (h:LogR g n ts sv) (hc:CapV sv) {k:Nat} (hk:k≤ts.length) (h0:0 < ts.length) :
  ∃ sv',(∀ {H:Mem} {ev:Ev} {d:Option Tmp} {ty:TypeId} {p:String} {af:Array Edge} {gd:Option (Nat×Bool)} {x hi:Operand} {hx:ev x=some sv} {hh:ev hi=some (.lit (.int .i64 (k:Int)))},
   ex2 Tryz.prog H ev ⟨d,.slice 52 x none (some hi) none,ty,p,af,gd⟩ x hi (some sv) (some (.lit (.int .i64 (k:Int)))) hx hh=.val sv' H)∧LogR g n (ts.take k) sv':=by
 obtain ⟨cs,h1,h2⟩:=h
 obtain ⟨sv',h3,h4⟩:=h1.cut hc el22 (sz:=2) hk h0
 refine ⟨sv',h3,cs.take (k * 2),by rw [List.length_take,Nat.min_eq_left hk]; exact h4,?_,fun j hj=>?_⟩
 ·rw [List.length_take,List.length_take,h2.1]; omega
 ·have hj2:j < k∧j < ts.length:=by rw [List.length_take] at hj; omega
  obtain ⟨s1,s2,e1,e2,e3,e4⟩:=h2.2 j hj2.2
  exact ⟨s1,s2,by rw [List.getElem?_take,if_pos (by omega)]; exact e1,by rw [List.getElem?_take,if_pos (by omega)]; exact e2,by rw [List.getElem_take]; exact e3,by rw [List.getElem_take]; exact e4⟩
theorem conB_at {ts:List (List Int×List Int)} {k:Nat} (hk:k < ts.length) : conB ts (ts.drop k) k=match conA (ts[k]) (ts.take k) 0 with
  | some (a,j)=>some (a,k,j)
  | none=>conB ts (ts.drop (k+1)) (k+1):=by
 rw [List.drop_eq_getElem_cons hk]; rfl
theorem conA_at {t:List Int×List Int} {us:List (List Int×List Int)} {j:Nat} (hj:j < us.length) : conA t (us.drop j) j=match stepL (us[j]).1 (us[j]).2 t.1 t.2 0 with
  | some k=>some (j,k)
  | none=>conA t (us.drop (j+1)) (j+1):=by
 rw [List.drop_eq_getElem_cons hj]; rfl
def conC:Option (Nat×Nat×Nat)→AV
 | some (a,b,k)=>.agg [.lit (.int .i64 a),.lit (.int .i64 b),.lit (.int .i64 k)]
 | none=>.agg [.lit (.int .i64 0),.lit (.int .i64 0),.lit (.int .i64 0)]
theorem Contradiction_w {I O:Int} {ts:List (List Int×List Int)} (hL:LogOK I O ts) (g:Nat→Option Blk) (n:Nat) (sv:AV) (hT:LogR g n ts sv) (hcap:CapV sv) :
  WC 0 Tryz.prog 103 [.agg [.lit (.int .i64 I),.lit (.int .i64 O),sv]] ⟨.fn g,n⟩ fun r=>∃ gX n',r=.ret (.tup [conC (conB ts ts 0),.lit (.bool (conB ts ts 0).isSome),.lit (.int .i64 0)]) ⟨.fn gX,n'⟩∧n≤n'∧∀ b,b < n→gX b=g b:=by
 have hlen:=@lenV Tryz.prog _ _ _ _ _ hT.choose_spec.1
 have h1s:=hT.choose_spec.1.one
 have hone:allOne [.lit (.int .i64 I),.lit (.int .i64 O),sv]=true:=by simp [h1s]
 have HCK:=Hide.mk fun (gX:Nat→Option Blk) (n2:Nat) (hn:n≤n2) (hX:∀ b,b < n→gX b=g b)=>Check_w I O ts hL.small gX n2 sv (hT.mono hn hX)
 rw [hL.err] at HCK
 have HT:=Hide.mk hT
 have HL:=Hide.mk hL
 have HCAP:=Hide.mk hcap
 have htl:=hL.len
 clear hT hL hcap
 obtain ⟨D,hD⟩ : ∃ D,D=conB ts ts 0:=⟨_,rfl⟩
 rw [← hD]
 have HD:=Hide.mk hD
 clear hD
 refine WC.enterP (noO_ok _ _) hG [] Tryz.func103 rfl (by decide +kernel) (Nat.le_of_ble_eq_true (by kernel_rfl)) ?_
 iterate 8 all_goals try first|with_reducible refine splitI (fun h=>?_) fun h=>?_|with_reducible refine splitBI (fun h=>?_) fun h=>?_|simp (maxSteps:=999999) (disch:=first|assumption|omega|(simp;done)|fail) [Tryz.results103, *]
 refine WC.mono (HCK.out _ _ (by omega) fun b (hb:b < n)=>by simp (disch:=omega) only [gput_lt]) ?_
 rintro _ rfl
 iterate 8 all_goals try first|with_reducible refine splitI (fun h=>?_) fun h=>?_|with_reducible refine splitBI (fun h=>?_) fun h=>?_|simp (maxSteps:=999999) (disch:=first|assumption|omega|(simp;done)|fail) [Tryz.results103, *]
 refine LX.ind (fun m gf H'=>∃ (k n' : Nat) (gL:Nat→Option Blk),k≤ts.length∧m=ts.length - k∧H'=⟨.fn gL,n'⟩∧n+1+1≤n'∧Hide (∀ b,b < n→gL b=g b)∧gL n=some (.cells [.lit (.int .i64 I),.lit (.int .i64 O),sv] true 0)∧gL (n+1)=some (.cells [.lit (.int .i64 0),.lit (.int .i64 0),.lit (.int .i64 0)] true 0) ∧
  Hide (D=conB ts (ts.drop k) k)∧gf 1=some (.ptr n 0)∧gf 2=some (.ptr (n+1) 0)∧gf 18=some sv∧gf 19=some (.lit (.int .i64 ts.length))∧gf 20=some (.lit (.int .i64 k))) (m0:=ts.length) ?_ ?_
 ·refine ⟨0,_,_,Nat.zero_le _,rfl,rfl,Nat.le_refl _,⟨fun b hb=>?_⟩,?_,gput_eq,⟨HD.out⟩,by simp,by simp,by simp,by simp,by simp⟩
  ·simp (disch:=omega) only [gput_lt]
  ·simp (disch:=omega) only [gput_lt,gput_eq]
 rintro m gf H' ⟨k,n',gL,hk,rfl,rfl,hn',HG,hgn,hgp,HP,w1,w2,w18,w19,w20⟩ ih
 refine LX.roundP (noO_ok _ _) hG [] (by decide +kernel) ?_
 by_cases hlt:k < ts.length
 ·have hltI:(k:Int) < (ts.length:Int):=by omega
  obtain ⟨a2,off,r1,r2,HAT0⟩:=(HT.out.mono (show n≤n' by omega) HG.out).at hlt
  have HAT:=Hide.mk HAT0
  clear HAT0
  have hia:∀ {H:Mem} {ev:Ev} {o:Oper} {ty:TypeId},iaS Tryz.prog H ev o ty (some (none,2)) (some sv) (some (.lit (.int .i64 (k:Int))))=.val (.ptr a2 (off+k * 2)) H:=fun {H ev o ty}=>HAT.out.ia
  have han:a2 < n':=HAT.out.an
  have hagg:=HAT.out.agg
  have h1r1:oneC r1=true:=HAT.out.r1.one
  have h1r2:oneC r2=true:=HAT.out.r2.one
  have honeR:allOne [r1,r2]=true:=by simp [h1r1,h1r2]
  obtain ⟨cut,hcut,hcv⟩:=HT.out.cut HCAP.out (Nat.le_of_lt hlt) (by omega)
  have hcl:=@lenV Tryz.prog _ _ _ _ _ hcv.choose_spec.1
  rw [List.length_take,Nat.min_eq_left hk] at hcl
  have HCV:=Hide.mk (hcv.mono (show n≤n' by omega) HG.out)
  have HDE:=Hide.mk (HP.out.trans (conB_at hlt))
  have HLT:=Hide.mk (HL.out.lens (List.getElem_mem hlt))
  have HWT:=Hide.mk (HL.out.wl _ (List.getElem_mem hlt))
  have HR1:=Hide.mk HAT.out.r1
  have HR2:=Hide.mk HAT.out.r2
  clear HAT hcv
  generalize ts[k]=t at *
  iterate 8 all_goals try first|with_reducible refine splitI (fun h=>?_) fun h=>?_|with_reducible refine splitBI (fun h=>?_) fun h=>?_|simp (maxSteps:=999999) (disch:=first|assumption|omega|(simp;done)|fail) [Tryz.results103, *]
  refine LX.ind (fun m gf H'=>∃ (j n2:Nat) (g2:Nat→Option Blk),j≤k∧m=k - j∧H'=⟨.fn g2,n2⟩∧n'+1≤n2∧Hide (∀ b,b < n'→g2 b=gL b)∧g2 n'=some (.cells [r1,r2] true 0)∧Hide (conA t (ts.take k) 0=conA t ((ts.take k).drop j) j) ∧
   gf 1=some (.ptr n 0)∧gf 2=some (.ptr (n+1) 0)∧gf 18=some sv∧gf 19=some (.lit (.int .i64 ts.length))∧gf 20=some (.lit (.int .i64 k))∧gf 6=some (.lit (.int .i64 k))∧gf 7=some (.ptr n' 0)∧gf 28=some cut∧gf 29=some (.lit (.int .i64 k))∧gf 30=some (.lit (.int .i64 j))) (m0:=k) ?_ ?_
  ·refine ⟨0,_,_,Nat.zero_le _,rfl,rfl,Nat.le_refl _,⟨fun b hb=>?_⟩,gput_eq,⟨rfl⟩,by simp [*],by simp [*],by simp [*],by simp [*],by simp [*],by simp,by simp,by simp,by simp,by simp⟩
   exact gput_lt hb
  clear w1 w2 w18 w19 w20
  rintro m gf H' ⟨j,n2,g2,hj,rfl,rfl,hn2,HG2,hgt,HNE,w1,w2,w18,w19,w20,w6,w7,w28,w29,w30⟩ ih2
  have hgn2:=(HG2.out n (by omega)).trans hgn
  have hgp2:=(HG2.out (n+1) (by omega)).trans hgp
  refine LX.roundP (noO_ok _ _) hG [] (by decide +kernel) ?_
  by_cases hltj:j < k
  ·have hltjI:(j:Int) < (k:Int):=by omega
   have hjl:j < (ts.take k).length:=by rw [List.length_take]; omega
   obtain ⟨a3,o3,s1,s2,HAU0⟩:=(HCV.out.mono (show n'≤n2 by omega) HG2.out).at hjl
   have HAU:=Hide.mk HAU0
   clear HAU0
   have hia3:∀ {H:Mem} {ev:Ev} {o:Oper} {ty:TypeId},iaS Tryz.prog H ev o ty (some (none,2)) (some cut) (some (.lit (.int .i64 (j:Int))))=.val (.ptr a3 (o3+j * 2)) H:=fun {H ev o ty}=>HAU.out.ia
   have han3:a3 < n2:=HAU.out.an
   have hagg3:=HAU.out.agg
   have h1s1:oneC s1=true:=HAU.out.r1.one
   have h1s2:oneC s2=true:=HAU.out.r2.one
   have honeS:allOne [s1,s2]=true:=by simp [h1s1,h1s2]
   have HMU:Hide ((ts.take k)[j]∈ts):=⟨List.mem_of_mem_take (List.getElem_mem hjl)⟩
   have HLU:=Hide.mk (HL.out.lens HMU.out)
   have HWU:=Hide.mk (HL.out.wl _ HMU.out)
   have HNA:=Hide.mk (HNE.out.trans (conA_at hjl))
   have HS1:=Hide.mk HAU.out.r1
   have HS2:=Hide.mk HAU.out.r2
   clear HAU
   generalize (ts.take k)[j]=u at *
   have HST:=Hide.mk fun (gX:Nat→Option Blk) (n3:Nat) (hn:n2≤n3) (hX:∀ b,b < n2→gX b=g2 b)=>step_w (I:=I) (O:=O) HLU.out.1 HLT.out.1 HWU.out HWT.out gX n3 s1 s2 r1 r2 (SliceV.mono hn hX HS1.out) (SliceV.mono hn hX HS2.out) (SliceV.mono (by omega) (fun b hb=>(hX b (by omega)).trans (HG2.out b hb)) HR1.out) (SliceV.mono (by omega) (fun b hb=>(hX b (by omega)).trans (HG2.out b hb)) HR2.out)
   have HSI:Hide (stepI u t=optI (stepL u.1 u.2 t.1 t.2 0)):=⟨rfl⟩
   generalize stepI u t=z at *
   iterate 8 all_goals try first|with_reducible refine splitI (fun h=>?_) fun h=>?_|with_reducible refine splitBI (fun h=>?_) fun h=>?_|simp (maxSteps:=999999) (disch:=first|assumption|omega|(simp;done)|fail) [Tryz.results103, *]
   refine WC.mono (HST.out _ _ (by omega) fun b hb=>by simp (disch:=omega) only [gput_lt]) ?_
   rintro _ rfl
   cases hq:stepL u.1 u.2 t.1 t.2 0 with
   | none =>
    have hz:z = -1:=by rw [HSI.out,hq]; rfl
    rw [hq] at HNA
    have HNB:Hide (conA t (ts.take k) 0=conA t ((ts.take k).drop (j+1)) (j+1)):=⟨HNA.out⟩
    clear HNA hq HSI
    subst hz
    iterate 8 all_goals try first|with_reducible refine splitI (fun h=>?_) fun h=>?_|with_reducible refine splitBI (fun h=>?_) fun h=>?_|simp (maxSteps:=999999) (disch:=first|assumption|omega|(simp;done)|fail) [Tryz.results103, *]
    refine ih2.out (k - (j+1)) _ _ (by omega) ⟨j+1,_,_,by omega,rfl,rfl,?_,⟨fun b hb=>?_⟩,?_,HNB,by simp [*],by simp [*],by simp [*],by simp [*],by simp [*],by simp [*],by simp [*],by simp [*],by simp [*],by simp⟩
    ·omega
    ·simp (disch:=omega) only [gput_lt]; exact HG2.out b hb
    ·simp (disch:=omega) only [gput_lt]; exact hgt
   | some v =>
    have hz:z=v:=by rw [HSI.out,hq]; rfl
    rw [hq] at HNA
    have hDE:=HDE.out
    rw [HNA.out] at hDE
    have hDE2:D=some (j,k,v):=hDE
    clear HNA hq HSI hDE HDE HD HP
    subst hz hDE2
    iterate 8 all_goals try first|with_reducible refine splitI (fun h=>?_) fun h=>?_|with_reducible refine splitBI (fun h=>?_) fun h=>?_|simp (maxSteps:=999999) (disch:=first|assumption|omega|(simp;done)|fail) [Tryz.results103, *]
    refine ⟨_,_,⟨rfl,rfl,rfl⟩,by omega,fun b hb=>?_⟩
    simp (disch:=omega) only [gput_lt]
    exact (HG2.out b (by omega)).trans (HG.out b hb)
  ·have hltjI:¬(j:Int) < (k:Int):=by omega
   have hNN:=HNE.out.trans (by rw [List.drop_eq_nil_of_le (by rw [List.length_take]; omega)]; rfl:_=none)
   have hDE:=HDE.out
   rw [hNN] at hDE
   have HDN:Hide (D=conB ts (ts.drop (k+1)) (k+1)):=⟨hDE⟩
   clear hDE hNN
   iterate 8 all_goals try first|with_reducible refine splitI (fun h=>?_) fun h=>?_|with_reducible refine splitBI (fun h=>?_) fun h=>?_|simp (maxSteps:=999999) (disch:=first|assumption|omega|(simp;done)|fail) [Tryz.results103, *]
   refine ih.out (ts.length - (k+1)) _ _ (by omega) ⟨k+1,n2,g2,by omega,rfl,rfl,by omega,⟨fun b hb=>(HG2.out b (by omega)).trans (HG.out b hb)⟩,hgn2,hgp2,HDN,by simp [*],by simp [*],by simp [*],by simp [*],by simp⟩
 ·have hltI:¬(k:Int) < (ts.length:Int):=by omega
  have hDE:D=none:=by rw [HP.out,List.drop_eq_nil_of_le (by omega)]; rfl
  clear HP HD
  subst hDE
  iterate 8 all_goals try first|with_reducible refine splitI (fun h=>?_) fun h=>?_|with_reducible refine splitBI (fun h=>?_) fun h=>?_|simp (maxSteps:=999999) (disch:=first|assumption|omega|(simp;done)|fail) [Tryz.results103, *]
  refine ⟨_,_,⟨rfl,rfl,rfl⟩,by omega,fun b hb=>?_⟩
  simp (disch:=omega) only [gput_lt]
  exact HG.out b hb
def CloneV (g:Nat→Option Blk) (lo n:Nat) (w:List Int) (sv:AV) : Prop :=
 (w=[]∧(sv=.lit (.slice none 0 0)∨∃ m,lo≤m∧m < n∧sv=.sl m 0 0 0∧g m=some (.cells [] true 0)))∨(0 < w.length∧∃ m,lo≤m∧m < n∧sv=.slq m 0 w.length 0∧g m=some (.cells (wdC w) true 1))
theorem mk57 {H:Mem} {a b:Int} (h0:0≤a) (h1:a≤b) (h2:b≤1048576) : mksS Tryz.prog H 65 (mkI Tryz.prog 65) (some (.lit (.int .i64 a))) (some (.lit (.int .i64 b)))=.val (.sl H.next 0 a.toNat b.toNat) (H.add (.cells (rep [.lit (.int .i64 0)] b.toNat) true 0)):=by
 have hx:oMakeSlice Tryz.prog H 65 (some (.lit (.int .i64 a))) (some (.lit (.int .i64 b)))=_:=oMakeSlice_ok (e:=3) (size:=1) (bytes:=8) (z:=[.lit (.int .i64 0)]) (by kernel_rfl) (by decide) (by decide) (by kernel_rfl) h0 h1 h2
 unfold mksS
 split
 ·rename_i v a' b' hq e1 e2
  cases e1; cases e2
  split
  ·rename_i h
   obtain ⟨rfl,h3,h4⟩:=h
   have hv:mkI Tryz.prog 65=some (.lit (.int .i64 0)):=by kernel_rfl
   rw [hv] at hq
   cases hq
   rw [rep_one]
  ·exact hx
 ·exact hx
theorem mk57' {H:Mem} {a b:Int} (h0:0≤a) (h1:a≤b) (h2:b≤1048576) : mksS Tryz.prog H 65 (some (.lit (.int .i64 0))) (some (.lit (.int .i64 a))) (some (.lit (.int .i64 b)))=.val (.sl H.next 0 a.toNat b.toNat) (H.add (.cells (rep [.lit (.int .i64 0)] b.toNat) true 0)):=by
 have h:=mk57 (H:=H) h0 h1 h2
 rwa [mkI57] at h
attribute [simp] mk57'
def ListV (g:Nat→Option Blk) (n:Nat) (l:List (List Int)) (lv:AV) : Prop:=∃ svs,SliceV g n lv l.length svs∧RowsW g n l svs
theorem ListV.mono {g g' : Nat→Option Blk} {n n' : Nat} {l:List (List Int)} {lv:AV} (h:ListV g n l lv) (hn:n≤n') (hg:∀ a,a < n→g' a=g a) : ListV g' n' l lv :=
 let ⟨svs,h1,h2⟩:=h; ⟨svs,h1.mono hn hg,h2.ext hn fun a x ha hx=>(hg a ha).trans hx⟩
theorem ListV.at {g:Nat→Option Blk} {n:Nat} {l:List (List Int)} {lv:AV} (h:ListV g n l lv) {k:Nat} (hk:k < l.length) : ∃ a off q,a < n∧(∀ {H:Mem} {ev:Ev} {o:Oper} {t:TypeId},iaS Tryz.prog H ev o t (some (none,1)) (some lv) (some (.lit (.int .i64 (k:Int))))=.val (.ptr a (off+k)) H)∧loadB (some (false,1)) (g a) (off+k)=some q∧RepW g n l[k] q:=by
 obtain ⟨svs,h1,h2,h3⟩:=h
 obtain ⟨q,e1,e2⟩:=h3 k hk
 obtain ⟨a,off,ha,hrow,hia⟩:=h1.ia (P:=Tryz.prog) hk 1
 simp only [Nat.mul_one] at hia
 have hc:=hrow.one (k:=k) (s:=1) (by omega)
 rw [(List.getElem?_eq_some_iff.1 e1).2] at hc
 exact ⟨a,off,q,ha,hia,hc,e2⟩
theorem el93:(elSz Tryz.prog 22).map (·.1)=some none:=by kernel_rfl
theorem ListV.cut {g:Nat→Option Blk} {n:Nat} {l:List (List Int)} {lv:AV} (h:ListV g n l lv) (hc:CapV lv) :
  ∃ sv',(∀ {H:Mem} {ev:Ev} {d:Option Tmp} {ty:TypeId} {p:String} {af:Array Edge} {gd:Option (Nat×Bool)} {x hi:Operand} {hx:ev x=some lv} {hh:ev hi=some (.lit (.int .i64 (l.length:Int)))},
   ex2 Tryz.prog H ev ⟨d,.slice 22 x none (some hi) none,ty,p,af,gd⟩ x hi (some lv) (some (.lit (.int .i64 (l.length:Int)))) hx hh=.val sv' H)∧ListV g n l sv':=by
 obtain ⟨svs,h1,h2⟩:=h
 obtain ⟨sv',h3,h4,_⟩:=SliceV.cutP (P:=Tryz.prog) h1 hc el93 (k:=l.length) (sz:=1) (Nat.le_refl _)
 refine ⟨sv',h3,svs,?_,h2⟩
 rw [Nat.mul_one,← h2.1,List.take_length] at h4
 rw [h2.1] at h4
 exact h4
theorem SafeW.nil {g:Nat→Option Blk} {lo n B:Nat} : SafeW g lo n B [] (.lit (.slice none 0 0)):=⟨fun _=>none,fun a z h=>(by cases h),.inl ⟨rfl,rfl,.inl rfl⟩⟩
structure RoomT (g:Nat→Option Blk) (n B c k:Nat) (ts:List (List Int×List Int)) (R:List AV) : Prop where
 blk:g B=some (.cells R true 0)
 len:R.length=c * 2
 kl:k≤c
 rows:RowsF g 0 n B ts (R.take (k * 2))
 tl:ts.length=k
theorem RowsF.upd {g:Nat→Option Blk} {lo n B:Nat} {ts:List (List Int×List Int)} {cs cs' : List AV} (h:RowsF g lo n B ts cs) {i:Nat} {t:List Int×List Int} {s1 s2:AV} (hl:cs'.length=cs.length) (h1:cs'[i * 2]?=some s1) (h2:cs'[i * 2+1]?=some s2) (ho:∀ j,j≠i * 2→j≠i * 2+1→cs'[j]?=cs[j]?) (w1:SafeW g lo n B t.1 s1) (w2:SafeW g lo n B t.2 s2) : RowsF g lo n B (ts.set i t) cs':=by
 refine ⟨by rw [hl,List.length_set]; exact h.1,fun k hk=>?_⟩
 rw [List.length_set] at hk
 by_cases hki:i=k
 ·subst hki
  exact ⟨s1,s2,h1,h2,by simpa using w1,by simpa using w2⟩
 ·obtain ⟨r1,r2,e1,e2,e3,e4⟩:=h.2 k hk
  exact ⟨r1,r2,(ho _ (by omega) (by omega)).trans e1,(ho _ (by omega) (by omega)).trans e2,by rw [List.getElem_set_ne hki]; exact e3,by rw [List.getElem_set_ne hki]; exact e4⟩
theorem CloneV.keep {g g' : Nat→Option Blk} {lo n:Nat} {w:List Int} {sv:AV} (h:CloneV g lo n w sv) (hg:∀ a,lo≤a→a < n→g' a=g a) : CloneV g' lo n w sv:=by
 rcases h with ⟨rfl,rfl | ⟨m,h1,h2,rfl,h3⟩⟩ | ⟨hl,m,h1,h2,rfl,h3⟩
 ·exact .inl ⟨rfl,.inl rfl⟩
 ·exact .inl ⟨rfl,.inr ⟨m,h1,h2,rfl,(hg m h1 h2).trans h3⟩⟩
 ·exact .inr ⟨hl,m,h1,h2,rfl,(hg m h1 h2).trans h3⟩
theorem CloneV.one {g:Nat→Option Blk} {lo n:Nat} {w:List Int} {sv:AV} (h:CloneV g lo n w sv) : oneC sv=true∧cellsOf sv=[sv]:=by
 rcases h with ⟨rfl,rfl | ⟨m,h1,h2,rfl,h3⟩⟩ | ⟨hl,m,h1,h2,rfl,h3⟩ <;> exact ⟨rfl,rfl⟩
end Go.Ai
end
section
namespace Go.Ai
set_option maxRecDepth 10000
def valT:List (List Int×List Int)→List Int→Option Int
 | [],_=>none
 | t :: ts,w=>if w≠[]∧w.length≤t.1.length∧t.1.take w.length=w then some (t.2.getD (w.length - 1) 0) else valT ts w
def entT (V:List Int→Option Int) (ws:List (List Int)) (w:List Int) (i:Nat) : Int×Int:=match V (w++[(i:Int)]) with
 | none=>(-1,-1)
 | some o=>if o = -1 then (-1,-2) else (((ws.idxOf (w++[(i:Int)]) : Nat) : Int),o)
def rowW (V:List Int→Option Int) (ws:List (List Int)) (I:Nat) (w:List Int) : List (Int×Int):=(List.range I).map (entT V ws w)
def rowsT (V:List Int→Option Int) (ws:List (List Int)) (I:Nat) : List (List (Int×Int)):=ws.map (rowW V ws I)
structure Nod (V:List Int→Option Int) (ws:List (List Int)) : Prop where
 nd:ws.Nodup
 mem:∀ w,w∈ws↔w=[]∨∃ o,V w=some o∧o ≠ -1
 clo:∀ x j o,V (x++[j])=some o→x=[]∨∃ o',V x=some o'∧(o ≠ -1→o' ≠ -1)
theorem rowW_len {V:List Int→Option Int} {ws:List (List Int)} {I:Nat} {w:List Int} : (rowW V ws I w).length=I:=by simp [rowW]
theorem rowW_at {V:List Int→Option Int} {ws:List (List Int)} {I:Nat} {w:List Int} {i:Nat} (h:i < I) : (rowW V ws I w)[i]?=some (entT V ws w i):=by
 unfold rowW
 rw [List.getElem?_map,List.getElem?_range h]; rfl
theorem rowsT_len {V:List Int→Option Int} {ws:List (List Int)} {I:Nat} : (rowsT V ws I).length=ws.length:=by simp [rowsT]
theorem rowsT_at {V:List Int→Option Int} {ws:List (List Int)} {I k:Nat} (h:k < ws.length) : (rowsT V ws I).getD k []=rowW V ws I ws[k]:=by
 unfold rowsT
 rw [List.getD_eq_getElem?_getD,List.getElem?_map,List.getElem?_eq_getElem h]; rfl
theorem idx_at {ws:List (List Int)} {w:List Int} (h:w∈ws) : ∃ hl:ws.idxOf w < ws.length,ws[ws.idxOf w]=w:=by
 have hl:=List.idxOf_lt_length_of_mem h
 exact ⟨hl,List.getElem_idxOf hl⟩
theorem idx_app {ws us:List (List Int)} {w:List Int} (h:w∈ws) : (ws++us).idxOf w=ws.idxOf w:=by
 rw [List.idxOf_append,if_pos h]
theorem idx_new {ws:List (List Int)} {w:List Int} (h:w ∉ ws) : (ws++[w]).idxOf w=ws.length:=by
 rw [List.idxOf_append,if_neg h]; simp
def updV (V:List Int→Option Int) (x:List Int) (o:Int) : List Int→Option Int:=fun y=>if y=x then some ((V x).getD o) else V y
theorem updV_known {V:List Int→Option Int} {x:List Int} {o o' : Int} (h:V x=some o') : updV V x o=V:=by
 funext y
 unfold updV
 split
 ·rename_i h1; rw [h1,h]; rfl
 ·rfl
theorem updV_self {V:List Int→Option Int} {x:List Int} {o:Int} (h:V x=none) : updV V x o x=some o:=by unfold updV; rw [if_pos rfl,h]; rfl
theorem updV_ne {V:List Int→Option Int} {x y:List Int} {o:Int} (h:y≠x) : updV V x o y=V y:=if_neg h
theorem ent_upd {V:List Int→Option Int} {ws us:List (List Int)} {x w:List Int} {o:Int} {i:Nat} (hN:Nod V ws) (hw:w++[(i:Int)]≠x) : entT (updV V x o) (ws++us) w i=entT V ws w i:=by
 unfold entT
 rw [updV_ne hw]
 cases h:V (w++[(i:Int)]) with
 | none=>rfl
 | some o' =>
  dsimp only
  split
  ·rfl
  ·rename_i h1
   rw [idx_app ((hN.mem _).2 (.inr ⟨o',h,h1⟩))]
theorem snoc_inj {a b:List Int} {i j:Int} (h:a++[i]=b++[j]) : a=b∧i=j:=by
 have h1:=List.append_inj' h rfl
 exact ⟨h1.1,by have:=h1.2; simpa using this⟩
theorem row_other {V:List Int→Option Int} {ws us:List (List Int)} {I:Nat} {p w:List Int} {i:Int} {o:Int} (hN:Nod V ws) (hw:w≠p) : rowW (updV V (p++[i]) o) (ws++us) I w=rowW V ws I w:=by
 unfold rowW
 apply List.map_congr_left
 intro j hj
 exact ent_upd hN fun h=>hw (snoc_inj h).1
theorem row_self {V:List Int→Option Int} {ws us:List (List Int)} {I:Nat} {p:List Int} {i:Nat} {o:Int} (hN:Nod V ws) (hi:i < I) : rowW (updV V (p++[(i:Int)]) o) (ws++us) I p=(rowW V ws I p).set i (entT (updV V (p++[(i:Int)]) o) (ws++us) p i):=by
 apply List.ext_getElem?
 intro j
 by_cases hji:i=j
 ·subst hji
  rw [List.getElem?_set_self (by rw [rowW_len]; exact hi),rowW_at hi]
 ·rw [List.getElem?_set_ne hji]
  by_cases hj:j < I
  ·rw [rowW_at hj,rowW_at hj,ent_upd hN]
   intro h
   have:=(snoc_inj h).2
   omega
  ·rw [List.getElem?_eq_none (by rw [rowW_len]; omega),List.getElem?_eq_none (by rw [rowW_len]; omega)]
theorem rows_upd {V:List Int→Option Int} {ws:List (List Int)} {I:Nat} {p:List Int} {i:Nat} {o:Int} (us:List (List Int)) (hN:Nod V ws) (hp:p∈ws) (hi:i < I) :
  ws.map (rowW (updV V (p++[(i:Int)]) o) (ws++us) I)=(rowsT V ws I).set (ws.idxOf p) (((rowsT V ws I).getD (ws.idxOf p) []).set i (entT (updV V (p++[(i:Int)]) o) (ws++us) p i)):=by
 obtain ⟨hl,hat⟩:=idx_at hp
 apply List.ext_getElem?
 intro k
 by_cases hk:ws.idxOf p=k
 ·subst hk
  rw [List.getElem?_set_self (by rw [rowsT_len]; exact hl),List.getElem?_map,List.getElem?_eq_getElem hl,rowsT_at hl,hat]
  exact congrArg some (row_self hN hi)
 ·rw [List.getElem?_set_ne hk]
  by_cases hk2:k < ws.length
  ·unfold rowsT
   rw [List.getElem?_map,List.getElem?_map,List.getElem?_eq_getElem hk2]
   refine congrArg some (row_other hN fun h=>hk ?_)
   have:ws[ws.idxOf p]=ws[k]:=by rw [hat,h]
   exact (List.getElem_inj hN.nd).1 this
  ·rw [List.getElem?_eq_none (by rw [List.length_map]; omega),List.getElem?_eq_none (by rw [rowsT_len]; omega)]
theorem Nod.none_of {V:List Int→Option Int} {ws:List (List Int)} (hN:Nod V ws) {x:List Int} (hx:x≠[]) (h:V x=none) (j:Int) : V (x++[j])=none:=by
 cases h2:V (x++[j]) with
 | none=>rfl
 | some o =>
  rcases hN.clo x j o h2 with h3 | ⟨o',h3,_⟩
  ·exact absurd h3 hx
  ·rw [h] at h3; cases h3
theorem Nod.up {V:List Int→Option Int} {ws:List (List Int)} (hN:Nod V ws) {x:List Int} {j:Int} (h:x++[j]∈ws) : x∈ws:=by
 rcases (hN.mem _).1 h with h1 | ⟨o,h1,h2⟩
 ·simp at h1
 ·rcases hN.clo x j o h1 with h3 | ⟨o',h3,h4⟩
  ·exact (hN.mem x).2 (.inl h3)
  ·exact (hN.mem x).2 (.inr ⟨o',h3,h4 h2⟩)
theorem Nod.pre {V:List Int→Option Int} {ws:List (List Int)} (hN:Nod V ws) {x:List Int} : ∀ (n:Nat) (u:List Int),u.length=n→x++u∈ws→x∈ws
 | 0,u,hu,h=>by
  have:=List.length_eq_zero_iff.1 hu
  subst this
  rwa [List.append_nil] at h
 | n+1,u,hu,h=>by
  have hne:u≠[]:=fun e=>by rw [e] at hu; cases hu
  have e:=List.dropLast_concat_getLast hne
  rw [← e,← List.append_assoc] at h
  exact hN.pre n u.dropLast (by rw [List.length_dropLast]; omega) (hN.up h)
theorem Nod.updDead {V:List Int→Option Int} {ws:List (List Int)} (hN:Nod V ws) {p:List Int} {i:Int} (hp:p∈ws) (h:V (p++[i])=none) : Nod (updV V (p++[i]) (-1)) ws:=by
 refine ⟨hN.nd,fun w=>?_,fun y j o hy=>?_⟩
 ·by_cases hw:w=p++[i]
  ·subst hw
   rw [updV_self h]
   constructor
   ·intro h1
    rcases (hN.mem _).1 h1 with h2 | ⟨o,h2,_⟩
    ·simp at h2
    ·rw [h] at h2; cases h2
   ·rintro (h1 | ⟨o,h1,h2⟩)
    ·simp at h1
    ·cases h1; exact absurd rfl h2
  ·rw [updV_ne hw]; exact hN.mem w
 ·by_cases hyx:y++[j]=p++[i]
  ·obtain ⟨rfl,rfl⟩:=snoc_inj hyx
   rcases (hN.mem _).1 hp with h1 | ⟨o',h1,h2⟩
   ·exact .inl h1
   ·refine .inr ⟨o',?_,fun _=>h2⟩
    rw [updV_ne (fun e=>by have:=congrArg List.length e; simp at this)]; exact h1
  ·rw [updV_ne hyx] at hy
   rcases hN.clo y j o hy with h1 | ⟨o',h1,h2⟩
   ·exact .inl h1
   ·refine .inr ⟨o',?_,h2⟩
    rw [updV_ne (fun e=>by rw [e,h] at h1; cases h1)]; exact h1
theorem Nod.updNew {V:List Int→Option Int} {ws:List (List Int)} (hN:Nod V ws) {p:List Int} {i o:Int} (hp:p∈ws) (h:V (p++[i])=none) (ho:o ≠ -1) : Nod (updV V (p++[i]) o) (ws++[p++[i]]):=by
 have hx:p++[i] ∉ ws:=fun h1=>by
  rcases (hN.mem _).1 h1 with h2 | ⟨o,h2,_⟩
  ·simp at h2
  ·rw [h] at h2; cases h2
 refine ⟨?_,fun w=>?_,fun y j o' hy=>?_⟩
 ·rw [List.nodup_append]
  refine ⟨hN.nd,by simp,fun a ha b hb e=>?_⟩
  rw [List.mem_singleton] at hb
  rw [← hb,← e] at hx
  exact hx ha
 ·rw [List.mem_append,List.mem_singleton]
  by_cases hw:w=p++[i]
  ·subst hw
   rw [updV_self h]
   exact ⟨fun _=>.inr ⟨o,rfl,ho⟩,fun _=>.inr rfl⟩
  ·rw [updV_ne hw]
   constructor
   ·rintro (h1 | h1)
    ·exact (hN.mem w).1 h1
    ·exact absurd h1 hw
   ·intro h1; exact .inl ((hN.mem w).2 h1)
 ·by_cases hyx:y++[j]=p++[i]
  ·obtain ⟨rfl,rfl⟩:=snoc_inj hyx
   rcases (hN.mem _).1 hp with h1 | ⟨o',h1,h2⟩
   ·exact .inl h1
   ·refine .inr ⟨o',?_,fun _=>h2⟩
    rw [updV_ne (fun e=>by have:=congrArg List.length e; simp at this)]; exact h1
  ·rw [updV_ne hyx] at hy
   rcases hN.clo y j o' hy with h1 | ⟨o'',h1,h2⟩
   ·exact .inl h1
   ·refine .inr ⟨o'',?_,h2⟩
    rw [updV_ne (fun e=>by rw [e,h] at h1; cases h1)]; exact h1
def addV:(List Int→Option Int)→List Int→List Int→List Int→List Int→Option Int
 | V,p,i :: w,o :: r=>addV (updV V (p++[i]) o) (p++[i]) w r
 | V,_,_,_=>V
theorem addV_keep:∀ (w r:List Int) (V:List Int→Option Int) (p y:List Int) (o:Int),V y=some o→addV V p w r y=some o
 | [],_,_,_,_,_,h=>h
 | _ :: _,[],_,_,_,_,h=>h
 | i :: w,o' :: r,V,p,y,o,h=>by
  refine addV_keep w r _ _ y o ?_
  by_cases hy:y=p++[i]
  ·rw [updV_known (hy ▸ h)]; exact h
  ·rw [updV_ne hy]; exact h
theorem take_cons_app {p:List Int} {i:Int} {w:List Int} {k:Nat} : p++(i :: w).take (k+1)=(p++[i])++w.take k:=by
 rw [List.take_succ_cons,List.append_assoc]; rfl
theorem addV_some:∀ (w r:List Int) (V:List Int→Option Int) (p:List Int) (k:Nat),r.length=w.length→k < w.length→∃ o,addV V p w r (p++w.take (k+1))=some o
 | [],_,_,_,_,_,h=>by cases h
 | _ :: _,[],_,_,_,h,_=>by cases h
 | i :: w,o :: r,V,p,0,_,_=>by
  show ∃ o',addV (updV V (p++[i]) o) (p++[i]) w r _=some o'
  rw [take_cons_app,List.take_zero,List.append_nil]
  cases h:V (p++[i]) with
  | none=>exact ⟨o,addV_keep _ _ _ _ _ _ (updV_self h)⟩
  | some o'=>exact ⟨o',addV_keep _ _ _ _ _ _ (by rw [updV_known h]; exact h)⟩
 | i :: w,o :: r,V,p,k+1,hl,hk=>by
  show ∃ o',addV (updV V (p++[i]) o) (p++[i]) w r _=some o'
  rw [take_cons_app]
  exact addV_some w r _ _ k (by simpa using hl) (by simpa using hk)
theorem addV_dead:∀ (w r:List Int) (V:List Int→Option Int) (p y:List Int),r.length=w.length→(∀ k,k < r.length→r.getD k 0 = -1)→addV V p w r y=V y∨(V y=none∧addV V p w r y=some (-1)∧∃ k,k < w.length∧y=p++w.take (k+1))
 | [],_,_,_,_,_,_=>.inl rfl
 | _ :: _,[],_,_,_,h,_=>by cases h
 | i :: w,o :: r,V,p,y,hl,hd=>by
  have ho:o = -1:=hd 0 (by simp)
  subst ho
  show addV (updV V (p++[i]) (-1)) (p++[i]) w r y=V y∨(V y=none∧addV (updV V (p++[i]) (-1)) (p++[i]) w r y=some (-1)∧_)
  rcases addV_dead w r (updV V (p++[i]) (-1)) (p++[i]) y (by simpa using hl) (fun k hk=>hd (k+1) (by simpa using hk)) with h | ⟨h1,h2,k,hk,h3⟩
  ·by_cases hy:y=p++[i]
   ·cases hv:V y with
    | none =>
     refine .inr ⟨rfl,?_,0,by simp,by rw [take_cons_app,List.take_zero,List.append_nil]; exact hy⟩
     rw [h,hy,updV_self (hy ▸ hv)]
    | some o=>left; rw [h,updV_known (hy ▸ hv),hv]
   ·left; rw [h,updV_ne hy]
  ·have hy:y≠p++[i]:=fun e=>by
    have h4:=congrArg List.length (h3.symm.trans e)
    rw [List.length_append,List.length_take] at h4
    omega
   rw [updV_ne hy] at h1
   exact .inr ⟨h1,h2,k+1,by simpa using hk,by rw [take_cons_app]; exact h3⟩
theorem okR_all {O:Int} : ∀ (r:List Int) (k:Nat),okR O true r=true→k < r.length→r.getD k 0 = -1
 | [],_,_,hk=>by cases hk
 | o :: r,0,h,_=>(okR_inv h).2.2.1 rfl
 | o :: r,k+1,h,hk=>by
  obtain ⟨_,_,h3,h4⟩:=okR_inv h
  rw [h3 rfl] at h4
  exact okR_all r k h4 (by simpa using hk)
theorem dead_rows {V:List Int→Option Int} {ws:List (List Int)} {I:Nat} (hN:Nod V ws) {x w r:List Int} (hx:V x=some (-1)) (hx0:x≠[]) (hl:r.length=w.length) (hd:∀ k,k < r.length→r.getD k 0 = -1) : rowsT (addV V x w r) ws I=rowsT V ws I∧Nod (addV V x w r) ws:=by
 have hxw:x ∉ ws:=fun h=>by
  rcases (hN.mem _).1 h with h1 | ⟨o,h1,h2⟩
  ·exact hx0 h1
  ·rw [hx] at h1; cases h1; exact h2 rfl
 have key:∀ v∈ws,∀ j:Int,addV V x w r (v++[j])=V (v++[j]):=fun v hv j=>by
  rcases addV_dead w r V x (v++[j]) hl hd with h | ⟨h1,h2,k,hk,h3⟩
  ·exact h
  ·exfalso
   have h4:v=x++w.take k:=by
    have h5:w.take (k+1)=w.take k++[w[k]]:=take_snoc hk
    rw [h5,← List.append_assoc] at h3
    exact (snoc_inj h3).1
   rw [h4] at hv
   exact hxw (hN.pre _ _ rfl hv)
 constructor
 ·unfold rowsT
  apply List.map_congr_left
  intro v hv
  unfold rowW
  apply List.map_congr_left
  intro j hj
  unfold entT
  rw [key v hv]
 ·refine ⟨hN.nd,fun v=>?_,fun y j o hy=>?_⟩
  ·rw [hN.mem v]
   rcases addV_dead w r V x v hl hd with h | ⟨h1,h2,_⟩
   ·rw [h]
   ·rw [h1,h2]
    constructor
    ·rintro (h | ⟨o,h,_⟩)
     ·exact .inl h
     ·cases h
    ·rintro (h | ⟨o,h,h3⟩)
     ·exact .inl h
     ·cases h; exact absurd rfl h3
  ·rcases addV_dead w r V x (y++[j]) hl hd with h | ⟨h1,h2,k,hk,h3⟩
   ·rw [h] at hy
    rcases hN.clo y j o hy with h1 | ⟨o',h1,h2⟩
    ·exact .inl h1
    ·exact .inr ⟨o',addV_keep _ _ _ _ _ _ h1,h2⟩
   ·rw [h2] at hy
    cases hy
    have h4:y=x++w.take k:=by
     have h5:w.take (k+1)=w.take k++[w[k]]:=take_snoc hk
     rw [h5,← List.append_assoc] at h3
     exact (snoc_inj h3).1
    cases k with
    | zero =>
     rw [List.take_zero,List.append_nil] at h4
     rw [h4]
     exact .inr ⟨-1,addV_keep _ _ _ _ _ _ hx,fun h=>absurd rfl h⟩
    | succ k =>
     obtain ⟨o',ho'⟩:=addV_some w r V x k hl (by omega)
     rw [← h4] at ho'
     exact .inr ⟨o',ho',fun h=>absurd rfl h⟩
def enterM (I:Nat) : List (List (Int×Int))→Nat→List Int→List Int→List (List (Int×Int))
 | rows,at',i :: w,o :: r =>
  if o = -1 then rows.set at' ((rows.getD at' []).set i.toNat (-1,-2))
  else if ((rows.getD at' []).getD i.toNat (-1,-1)).1 = -1 then enterM I (rows.set at' ((rows.getD at' []).set i.toNat ((rows.length:Int),o))++[List.replicate I (-1,-1)]) rows.length w r
  else enterM I rows ((rows.getD at' []).getD i.toNat (-1,-1)).1.toNat w r
 | rows,_,_,_=>rows
theorem enter_ok {O:Int} {I:Nat} : ∀ (w r:List Int) (V:List Int→Option Int) (ws:List (List Int)) (p:List Int),Nod V ws→p∈ws→inW w I=true→okR O false r=true→r.length=w.length →
  (∀ k,k < w.length→∀ o',V (p++w.take (k+1))=some o'→o'=r.getD k 0)→∃ us,Nod (addV V p w r) (ws++us)∧enterM I (rowsT V ws I) (ws.idxOf p) w r=rowsT (addV V p w r) (ws++us) I
 | [],_,V,ws,p,hN,_,_,_,_,_=>⟨[],by rw [List.append_nil]; exact hN,by rw [List.append_nil]; rfl⟩
 | _ :: _,[],_,_,_,_,_,_,_,h,_=>by cases h
 | i :: w,o :: r,V,ws,p,hN,hp,hw,hr,hl,hc=>by
  unfold inW at hw
  rw [List.all_cons,Bool.and_eq_true] at hw
  have hi:=of_decide_eq_true hw.1
  obtain ⟨a,rfl⟩ : ∃ a:Nat,i=a:=⟨i.toNat,by omega⟩
  have ha:a < I:=by omega
  obtain ⟨hr1,hr2,_,hr4⟩:=okR_inv hr
  have hl' : r.length=w.length:=by simpa using hl
  obtain ⟨hpl,hpat⟩:=idx_at hp
  have hc0:∀ o',V (p++[(a:Int)])=some o'→o'=o:=fun o' h=>by
   have:=hc 0 (by simp) o' (by rw [take_cons_app,List.take_zero,List.append_nil]; exact h)
   exact this
  have hrow:(rowsT V ws I).getD (ws.idxOf p) []=rowW V ws I p:=by rw [rowsT_at hpl,hpat]
  have hent:(rowW V ws I p).getD a (-1,-1)=entT V ws p a:=by rw [List.getD_eq_getElem?_getD,rowW_at ha]; rfl
  have hxne:p++[(a:Int)]≠[]:=by simp
  have hc1:∀ k,k < w.length→∀ o',updV V (p++[(a:Int)]) o ((p++[(a:Int)])++w.take (k+1))=some o'→o'=r.getD k 0:=fun k hk o' h=>by
   rw [updV_ne (fun e=>by have h4:=congrArg List.length e; rw [List.length_append,List.length_take] at h4; omega)] at h
   have:=hc (k+1) (by simpa using hk) o' (by rw [take_cons_app]; exact h)
   exact this
  show ∃ us,Nod (addV (updV V (p++[(a:Int)]) o) (p++[(a:Int)]) w r) (ws++us)∧(if o = -1 then (rowsT V ws I).set (ws.idxOf p) (((rowsT V ws I).getD (ws.idxOf p) []).set (a:Int).toNat (-1,-2))
   else if (((rowsT V ws I).getD (ws.idxOf p) []).getD (a:Int).toNat (-1,-1)).1 = -1 then enterM I ((rowsT V ws I).set (ws.idxOf p) (((rowsT V ws I).getD (ws.idxOf p) []).set (a:Int).toNat (((rowsT V ws I).length:Int),o))++[List.replicate I (-1,-1)]) (rowsT V ws I).length w r
   else enterM I (rowsT V ws I) (((rowsT V ws I).getD (ws.idxOf p) []).getD (a:Int).toNat (-1,-1)).1.toNat w r)=rowsT (addV (updV V (p++[(a:Int)]) o) (p++[(a:Int)]) w r) (ws++us) I
  rw [Int.toNat_natCast]
  by_cases ho:o = -1
  ·subst ho
   rw [if_pos rfl]
   have hd:∀ k,k < r.length→r.getD k 0 = -1:=fun k hk=>okR_all r k (by rw [decide_eq_true rfl] at hr4; exact hr4) hk
   have hx1:updV V (p++[(a:Int)]) (-1) (p++[(a:Int)])=some (-1):=by
    cases h:V (p++[(a:Int)]) with
    | none=>exact updV_self h
    | some o'=>rw [updV_known h,h,hc0 o' h]
   have hN1:Nod (updV V (p++[(a:Int)]) (-1)) ws:=by
    cases h:V (p++[(a:Int)]) with
    | none=>exact hN.updDead hp h
    | some o'=>rw [updV_known h]; exact hN
   obtain ⟨d1,d2⟩:=dead_rows (I:=I) hN1 hx1 hxne hl' hd
   refine ⟨[],by rw [List.append_nil]; exact d2,?_⟩
   rw [List.append_nil,d1]
   have h1:=rows_upd (I:=I) (o:=-1) [] hN hp ha
   rw [List.append_nil] at h1
   have h2:entT (updV V (p++[(a:Int)]) (-1)) ws p a=(-1,-2):=by unfold entT; rw [hx1]; rfl
   rw [h2] at h1
   exact h1.symm
  ·rw [if_neg ho,hrow,hent]
   have hr4' : okR O false r=true:=by rw [decide_eq_false ho] at hr4; exact hr4
   cases h:V (p++[(a:Int)]) with
   | none =>
    have he:entT V ws p a=(-1,-1):=by unfold entT; rw [h]
    rw [he,if_pos rfl]
    have hxw:p++[(a:Int)] ∉ ws:=fun h1=>by
     rcases (hN.mem _).1 h1 with h2 | ⟨o',h2,_⟩
     ·simp at h2
     ·rw [h] at h2; cases h2
    have hN1:=hN.updNew hp h ho
    have h1:=rows_upd (I:=I) (o:=o) [p++[(a:Int)]] hN hp ha
    have h2:entT (updV V (p++[(a:Int)]) o) (ws++[p++[(a:Int)]]) p a=((ws.length:Int),o):=by
     unfold entT; rw [updV_self h]; dsimp only; rw [if_neg ho,idx_new hxw]
    rw [h2,hrow] at h1
    have h3:rowW (updV V (p++[(a:Int)]) o) (ws++[p++[(a:Int)]]) I (p++[(a:Int)])=List.replicate I (-1,-1):=by
     unfold rowW
     rw [List.eq_replicate_iff]
     refine ⟨by simp,fun b hb=>?_⟩
     obtain ⟨j,_,rfl⟩:=List.mem_map.1 hb
     unfold entT
     rw [updV_ne (by intro e; have:=congrArg List.length e; simp at this),hN.none_of hxne h]
    have h4:(rowsT V ws I).set (ws.idxOf p) ((rowW V ws I p).set a (((rowsT V ws I).length:Int),o))++[List.replicate I (-1,-1)]=rowsT (updV V (p++[(a:Int)]) o) (ws++[p++[(a:Int)]]) I:=by
     rw [rowsT_len,← h1,← h3]
     unfold rowsT
     rw [List.map_append]; rfl
    rw [h4]
    have h5:(rowsT V ws I).length=(ws++[p++[(a:Int)]]).idxOf (p++[(a:Int)]):=by rw [rowsT_len,idx_new hxw]
    rw [h5]
    obtain ⟨us,e1,e2⟩:=enter_ok w r _ _ (p++[(a:Int)]) hN1 (by simp) hw.2 hr4' hl' hc1
    exact ⟨[p++[(a:Int)]]++us,by rw [← List.append_assoc]; exact e1,by rw [← List.append_assoc]; exact e2⟩
   | some o' =>
    have hoo:=hc0 o' h
    subst hoo
    have hxw:p++[(a:Int)]∈ws:=(hN.mem _).2 (.inr ⟨o',h,ho⟩)
    have he:entT V ws p a=(((ws.idxOf (p++[(a:Int)]) : Nat) : Int),o'):=by unfold entT; rw [h]; dsimp only; rw [if_neg ho]
    rw [he,if_neg (by show ¬((ws.idxOf (p++[(a:Int)]) : Nat) : Int) = -1; omega)]
    rw [updV_known h] at hc1 ⊢
    obtain ⟨us,e1,e2⟩:=enter_ok w r V ws (p++[(a:Int)]) hN hxw hw.2 hr4' hl' hc1
    exact ⟨us,e1,by rw [show ((ws.idxOf (p++[(a:Int)]) : Nat) : Int).toNat=ws.idxOf (p++[(a:Int)]) from Int.toNat_natCast _]; exact e2⟩
end Go.Ai
end
