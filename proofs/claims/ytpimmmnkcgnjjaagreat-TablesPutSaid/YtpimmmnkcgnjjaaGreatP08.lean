/- A small verified interpreter over names, its proofs, and what was proved with it. No condition. -/
import Derived.Test.YtpimmmnkcgnjjaaGreatRows
import Derived.Test.YtpimmmnkcgnjjaaGreatP05
import Derived.Test.YtpimmmnkcgnjjaaGreatP06
set_option linter.all false
set_option linter.deprecated false
section
namespace Go.Ai
open Go.Proofs
set_option maxRecDepth 100000
attribute [simp] Tryz.underlying0 Tryz.underlying1 Tryz.underlying2 Tryz.underlying3 Tryz.underlying4 Tryz.underlying5 Tryz.underlying6 Tryz.underlying7 Tryz.underlying8 Tryz.underlying9 Tryz.underlying10 Tryz.underlying11 Tryz.underlying12 Tryz.underlying13 Tryz.underlying14 Tryz.underlying15 Tryz.underlying16 Tryz.underlying17 Tryz.underlying18 Tryz.underlying19 Tryz.underlying20 Tryz.underlying21 Tryz.underlying22 Tryz.underlying23 Tryz.underlying24 Tryz.underlying25 Tryz.underlying26 Tryz.underlying27 Tryz.underlying28 Tryz.underlying29 Tryz.underlying30 Tryz.underlying31 Tryz.underlying32 Tryz.underlying33 Tryz.underlying34 Tryz.underlying35 Tryz.underlying36 Tryz.underlying37 Tryz.underlying38 Tryz.underlying39 Tryz.underlying40 Tryz.underlying41 Tryz.underlying42 Tryz.underlying43 Tryz.underlying44 Tryz.underlying45 Tryz.underlying46 Tryz.underlying47 Tryz.underlying48 Tryz.underlying49 Tryz.underlying50 Tryz.underlying51 Tryz.underlying52 Tryz.underlying53 Tryz.underlying54 Tryz.underlying55 Tryz.underlying56 Tryz.underlying57 Tryz.underlying58 Tryz.underlying59 Tryz.underlying60 Tryz.underlying61 Tryz.underlying62 Tryz.underlying63 Tryz.underlying64 Tryz.underlying65 Tryz.underlying66 Tryz.underlying67 Tryz.underlying68 Tryz.underlying69 Tryz.underlying70 Tryz.underlying71 Tryz.underlying72 Tryz.underlying73 Tryz.underlying74 Tryz.underlying75 Tryz.underlying76 Tryz.underlying77 Tryz.underlying78 Tryz.underlying79 Tryz.underlying80 Tryz.underlying81 Tryz.underlying82 Tryz.underlying83 Tryz.underlying84 Tryz.underlying85 Tryz.underlying86 Tryz.underlying87 Tryz.underlying88 Tryz.underlying89 Tryz.underlying90 Tryz.underlying91 Tryz.underlying92 Tryz.underlying93 Tryz.underlying94 Tryz.underlying95 Tryz.underlying96 Tryz.underlying97 Tryz.underlying98 Tryz.underlying99 Tryz.underlying100 Tryz.underlying101 Tryz.underlying102 Tryz.underlying103 Tryz.underlying104 Tryz.underlying105 Tryz.underlying106 Tryz.underlying107 Tryz.underlying108 Tryz.underlying109 Tryz.underlying110 Tryz.underlying111 Tryz.underlying112 Tryz.underlying113 Tryz.underlying114 Tryz.underlying115 Tryz.underlying116 Tryz.underlying117 Tryz.underlying118 Tryz.underlying119 Tryz.underlying120 Tryz.underlying121 Tryz.underlying122 Tryz.underlying123 Tryz.underlying124 Tryz.underlying125 Tryz.underlying126 Tryz.underlying127 Tryz.underlying128 Tryz.underlying129 Tryz.underlying130 Tryz.underlying131 Tryz.underlying132 Tryz.underlying133 Tryz.underlying134 Tryz.underlying135 Tryz.underlying136 Tryz.underlying137 Tryz.underlying138 Tryz.underlying139 Tryz.underlying140 Tryz.underlying141 Tryz.underlying142 Tryz.underlying143 Tryz.underlying144 Tryz.underlying145 Tryz.underlying146 Tryz.underlying147 Tryz.underlying148 Tryz.underlying149 Tryz.underlying150 Tryz.underlying151 Tryz.underlying152 Tryz.underlying153 Tryz.underlying154 Tryz.underlying155 Tryz.underlying156 Tryz.underlying157 Tryz.underlying158 Tryz.underlying159 Tryz.underlying160 Tryz.underlying161 Tryz.underlying162 Tryz.underlying163 Tryz.underlying164 Tryz.underlying165 Tryz.underlying166 Tryz.underlying167 Tryz.underlying168 Tryz.underlying169 Tryz.underlying170 Tryz.underlying171 Tryz.underlying172 Tryz.underlying173 Tryz.underlying174 Tryz.underlying175 Tryz.underlying176 Tryz.underlying177 Tryz.underlying178 Tryz.underlying179 Tryz.underlying180 Tryz.underlying181 Tryz.underlying182 Tryz.underlying183 Tryz.underlying184 Tryz.underlying185 Tryz.underlying186 Tryz.underlying187 Tryz.underlying188 Tryz.underlying189 Tryz.underlying190 Tryz.underlying191 Tryz.underlying192 Tryz.underlying193 Tryz.underlying194 Tryz.underlying195 Tryz.underlying196 Tryz.underlying197 Tryz.underlying198 Tryz.underlying199 Tryz.underlying200 Tryz.underlying201 Tryz.underlying202 Tryz.underlying203 Tryz.underlying204 Tryz.underlying205 Tryz.underlying206 Tryz.underlying207 Tryz.underlying208 Tryz.underlying209 Tryz.underlying210 Tryz.underlying211 Tryz.underlying212 Tryz.underlying213 Tryz.underlying214 Tryz.underlying215 Tryz.underlying216 Tryz.underlying217 Tryz.underlying218 Tryz.underlying219 Tryz.underlying220 Tryz.underlying221 Tryz.underlying222 Tryz.underlying223 Tryz.underlying224
theorem hb3:hasBody Tryz.prog 3=true:=by kernel_rfl
theorem hb6:hasBody Tryz.prog 6=true:=by kernel_rfl
theorem hb12:hasBody Tryz.prog 12=true:=by kernel_rfl
theorem hb13:hasBody Tryz.prog 13=true:=by kernel_rfl
theorem hb15:hasBody Tryz.prog 15=true:=by kernel_rfl
theorem hb16:hasBody Tryz.prog 16=true:=by kernel_rfl
theorem hb17:hasBody Tryz.prog 17=true:=by kernel_rfl
theorem hb20:hasBody Tryz.prog 20=true:=by kernel_rfl
theorem hb23:hasBody Tryz.prog 23=true:=by kernel_rfl
theorem hb25:hasBody Tryz.prog 25=true:=by kernel_rfl
theorem hb26:hasBody Tryz.prog 26=true:=by kernel_rfl
theorem hb29:hasBody Tryz.prog 29=true:=by kernel_rfl
theorem hb33:hasBody Tryz.prog 33=true:=by kernel_rfl
theorem hb35:hasBody Tryz.prog 35=true:=by kernel_rfl
theorem hb37:hasBody Tryz.prog 37=true:=by kernel_rfl
theorem hb38:hasBody Tryz.prog 38=true:=by kernel_rfl
theorem hb39:hasBody Tryz.prog 39=true:=by kernel_rfl
theorem hb42:hasBody Tryz.prog 42=true:=by kernel_rfl
theorem hb43:hasBody Tryz.prog 43=true:=by kernel_rfl
theorem hb44:hasBody Tryz.prog 44=true:=by kernel_rfl
theorem hb45:hasBody Tryz.prog 45=true:=by kernel_rfl
theorem hb52:hasBody Tryz.prog 52=true:=by kernel_rfl
theorem hb53:hasBody Tryz.prog 53=true:=by kernel_rfl
theorem hb54:hasBody Tryz.prog 54=true:=by kernel_rfl
theorem hb59:hasBody Tryz.prog 59=true:=by kernel_rfl
theorem hb60:hasBody Tryz.prog 60=true:=by kernel_rfl
theorem hb61:hasBody Tryz.prog 61=true:=by kernel_rfl
theorem hb62:hasBody Tryz.prog 62=true:=by kernel_rfl
theorem hb69:hasBody Tryz.prog 69=true:=by kernel_rfl
theorem hb71:hasBody Tryz.prog 71=true:=by kernel_rfl
theorem hb73:hasBody Tryz.prog 73=true:=by kernel_rfl
theorem hb74:hasBody Tryz.prog 74=true:=by kernel_rfl
theorem hb75:hasBody Tryz.prog 75=true:=by kernel_rfl
theorem hb76:hasBody Tryz.prog 76=true:=by kernel_rfl
theorem hb77:hasBody Tryz.prog 77=true:=by kernel_rfl
theorem hb78:hasBody Tryz.prog 78=true:=by kernel_rfl
theorem hb80:hasBody Tryz.prog 80=true:=by kernel_rfl
theorem hb88:hasBody Tryz.prog 88=true:=by kernel_rfl
theorem hb89:hasBody Tryz.prog 89=true:=by kernel_rfl
theorem hb90:hasBody Tryz.prog 90=true:=by kernel_rfl
theorem hb91:hasBody Tryz.prog 91=true:=by kernel_rfl
theorem hb92:hasBody Tryz.prog 92=true:=by kernel_rfl
theorem hb93:hasBody Tryz.prog 93=true:=by kernel_rfl
theorem hb94:hasBody Tryz.prog 94=true:=by kernel_rfl
theorem hb97:hasBody Tryz.prog 97=true:=by kernel_rfl
theorem hb112:hasBody Tryz.prog 112=true:=by kernel_rfl
theorem hb120:hasBody Tryz.prog 120=true:=by kernel_rfl
theorem hb121:hasBody Tryz.prog 121=true:=by kernel_rfl
theorem hb122:hasBody Tryz.prog 122=true:=by kernel_rfl
theorem hb123:hasBody Tryz.prog 123=true:=by kernel_rfl
theorem hb124:hasBody Tryz.prog 124=true:=by kernel_rfl
theorem hb125:hasBody Tryz.prog 125=true:=by kernel_rfl
theorem hb127:hasBody Tryz.prog 127=true:=by kernel_rfl
theorem hb128:hasBody Tryz.prog 128=true:=by kernel_rfl
theorem hb143:hasBody Tryz.prog 143=true:=by kernel_rfl
theorem hb145:hasBody Tryz.prog 145=true:=by kernel_rfl
attribute [simp] hb3 hb6 hb12 hb13 hb15 hb16 hb17 hb20 hb23 hb25 hb26 hb29 hb33 hb35 hb37 hb38 hb39 hb42 hb43 hb44 hb45 hb52 hb53 hb54 hb59 hb60 hb61 hb62 hb69 hb71 hb73 hb74 hb75 hb76 hb77 hb78 hb80 hb88 hb89 hb90 hb91 hb92 hb93 hb94 hb97 hb112 hb120 hb121 hb122 hb123 hb124 hb125 hb127 hb128 hb143 hb145
theorem ag_3:tIsAgg Tryz.prog 3=some (false,1):=by kernel_rfl
theorem ag_84:tIsAgg Tryz.prog 84=some (true,2):=by kernel_rfl
theorem ag_65:tIsAgg Tryz.prog 65=some (false,1):=by kernel_rfl
theorem ag_97:tIsAgg Tryz.prog 97=some (true,2):=by kernel_rfl
theorem ag_22:tIsAgg Tryz.prog 22=some (false,1):=by kernel_rfl
theorem ag_98:tIsAgg Tryz.prog 98=some (false,1):=by kernel_rfl
theorem ag_23:tIsAgg Tryz.prog 23=some (false,1):=by kernel_rfl
theorem ag_49:tIsAgg Tryz.prog 49=some (true,3):=by kernel_rfl
theorem ag_52:tIsAgg Tryz.prog 52=some (false,1):=by kernel_rfl
theorem ag_54:tIsAgg Tryz.prog 54=some (true,3):=by kernel_rfl
theorem ag_25:tIsAgg Tryz.prog 25=some (true,3):=by kernel_rfl
theorem ag_27:tIsAgg Tryz.prog 27=some (true,7):=by kernel_rfl
theorem ag_4:tIsAgg Tryz.prog 4=some (false,1):=by kernel_rfl
theorem ag_42:tIsAgg Tryz.prog 42=some (false,1):=by kernel_rfl
theorem ag_39:tIsAgg Tryz.prog 39=some (false,1):=by kernel_rfl
theorem ag_38:tIsAgg Tryz.prog 38=some (true,5):=by kernel_rfl
theorem ag_5:tIsAgg Tryz.prog 5=some (false,1):=by kernel_rfl
theorem ag_41:tIsAgg Tryz.prog 41=some (true,9):=by kernel_rfl
theorem ag_113:tIsAgg Tryz.prog 113=some (false,1):=by kernel_rfl
theorem ag_36:tIsAgg Tryz.prog 36=some (false,1):=by kernel_rfl
theorem ag_44:tIsAgg Tryz.prog 44=some (true,12):=by kernel_rfl
theorem zl_97:zeroL Tryz.prog 97=some [.lit (.int .i64 0),.lit (.int .i64 0)]:=by kernel_rfl
theorem zl_84:zeroL Tryz.prog 84=some [.lit (.slice none 0 0),.lit (.slice none 0 0)]:=by kernel_rfl
theorem zl_27:zeroL Tryz.prog 27=some [.lit (.int .i64 0),.lit (.int .i64 0),.lit (.slice none 0 0),.lit (.slice none 0 0),.lit (.int .i64 0),.lit (.int .i64 0),.lit (.slice none 0 0)]:=by kernel_rfl
theorem zl_54:zeroL Tryz.prog 54=some [.lit (.int .i64 0),.lit (.int .i64 0),.lit (.slice none 0 0)]:=by kernel_rfl
theorem zl_49:zeroL Tryz.prog 49=some [.lit (.int .i64 0),.lit (.int .i64 0),.lit (.slice none 0 0)]:=by kernel_rfl
theorem zl_25:zeroL Tryz.prog 25=some [.lit (.int .i64 0),.lit (.int .i64 0),.lit (.slice none 0 0)]:=by kernel_rfl
theorem fo_27_0:fldOff Tryz.prog 27 0=some 0:=by kernel_rfl
theorem fo_27_2:fldOff Tryz.prog 27 2=some 2:=by kernel_rfl
theorem fo_84_1:fldOff Tryz.prog 84 1=some 1:=by kernel_rfl
theorem fo_84_0:fldOff Tryz.prog 84 0=some 0:=by kernel_rfl
theorem fo_97_0:fldOff Tryz.prog 97 0=some 0:=by kernel_rfl
theorem fo_97_1:fldOff Tryz.prog 97 1=some 1:=by kernel_rfl
theorem fo_49_2:fldOff Tryz.prog 49 2=some 2:=by kernel_rfl
theorem fo_49_1:fldOff Tryz.prog 49 1=some 1:=by kernel_rfl
theorem fo_25_2:fldOff Tryz.prog 25 2=some 2:=by kernel_rfl
theorem fo_54_0:fldOff Tryz.prog 54 0=some 0:=by kernel_rfl
theorem fo_54_2:fldOff Tryz.prog 54 2=some 2:=by kernel_rfl
theorem fo_49_0:fldOff Tryz.prog 49 0=some 0:=by kernel_rfl
theorem fo_54_1:fldOff Tryz.prog 54 1=some 1:=by kernel_rfl
theorem fo_27_4:fldOff Tryz.prog 27 4=some 4:=by kernel_rfl
theorem fo_25_1:fldOff Tryz.prog 25 1=some 1:=by kernel_rfl
theorem fo_25_0:fldOff Tryz.prog 25 0=some 0:=by kernel_rfl
theorem fo_27_3:fldOff Tryz.prog 27 3=some 3:=by kernel_rfl
theorem fo_41_1:fldOff Tryz.prog 41 1=some 5:=by kernel_rfl
theorem fo_41_0:fldOff Tryz.prog 41 0=some 0:=by kernel_rfl
theorem fo_27_1:fldOff Tryz.prog 27 1=some 1:=by kernel_rfl
theorem fo_38_3:fldOff Tryz.prog 38 3=some 3:=by kernel_rfl
theorem fo_38_4:fldOff Tryz.prog 38 4=some 4:=by kernel_rfl
theorem fo_38_2:fldOff Tryz.prog 38 2=some 2:=by kernel_rfl
theorem fo_38_1:fldOff Tryz.prog 38 1=some 1:=by kernel_rfl
theorem fo_38_0:fldOff Tryz.prog 38 0=some 0:=by kernel_rfl
theorem fo_44_3:fldOff Tryz.prog 44 3=some 11:=by kernel_rfl
theorem fo_44_2:fldOff Tryz.prog 44 2=some 10:=by kernel_rfl
theorem fo_44_1:fldOff Tryz.prog 44 1=some 9:=by kernel_rfl
theorem fo_44_0:fldOff Tryz.prog 44 0=some 0:=by kernel_rfl
theorem es_52:elSz Tryz.prog 52=some (none,2):=by kernel_rfl
theorem es_22:elSz Tryz.prog 22=some (none,1):=by kernel_rfl
theorem es_98:elSz Tryz.prog 98=some (none,2):=by kernel_rfl
theorem es_65:elSz Tryz.prog 65=some (none,1):=by kernel_rfl
theorem es_23:elSz Tryz.prog 23=some (none,1):=by kernel_rfl
theorem es_39:elSz Tryz.prog 39=some (none,1):=by kernel_rfl
theorem es_42:elSz Tryz.prog 42=some (none,1):=by kernel_rfl
theorem es_36:elSz Tryz.prog 36=some (none,1):=by kernel_rfl
theorem is_102:isSet Tryz.prog 102=true:=by kernel_rfl
theorem bi_97:bldI Tryz.prog 97=some ([.lit (.int .i64 0),.lit (.int .i64 0)],[(0,1),(1,1)]):=by kernel_rfl
theorem bi_49:bldI Tryz.prog 49=some ([.lit (.int .i64 0),.lit (.int .i64 0),.lit (.slice none 0 0)],[(0,1),(1,1),(2,1)]):=by kernel_rfl
theorem bi_54:bldI Tryz.prog 54=some ([.lit (.int .i64 0),.lit (.int .i64 0),.lit (.slice none 0 0)],[(0,1),(1,1),(2,1)]):=by kernel_rfl
theorem bi_84:bldI Tryz.prog 84=some ([.lit (.slice none 0 0),.lit (.slice none 0 0)],[(0,1),(1,1)]):=by kernel_rfl
theorem bi_25:bldI Tryz.prog 25=some ([.lit (.int .i64 0),.lit (.int .i64 0),.lit (.slice none 0 0)],[(0,1),(1,1),(2,1)]):=by kernel_rfl
theorem bi_27:bldI Tryz.prog 27=some ([.lit (.int .i64 0),.lit (.int .i64 0),.lit (.slice none 0 0),.lit (.slice none 0 0),.lit (.int .i64 0),.lit (.int .i64 0),.lit (.slice none 0 0)],[(0,1),(1,1),(2,1),(3,1),(4,3)]):=by kernel_rfl
theorem bs_65:bsI Tryz.prog 65=some ([.lit (.int .i64 0)],1):=by kernel_rfl
theorem bs_98:bsI Tryz.prog 98=some ([.lit (.int .i64 0),.lit (.int .i64 0)],2):=by kernel_rfl
theorem bs_23:bsI Tryz.prog 23=some ([.lit (.slice none 0 0)],1):=by kernel_rfl
theorem bs_22:bsI Tryz.prog 22=some ([.lit (.slice none 0 0)],1):=by kernel_rfl
theorem bs_52:bsI Tryz.prog 52=some ([.lit (.slice none 0 0),.lit (.slice none 0 0)],2):=by kernel_rfl
theorem ap_65_65:apI Tryz.prog 65 65=some (1,8):=by kernel_rfl
theorem ap_98_98:apI Tryz.prog 98 98=some (2,16):=by kernel_rfl
theorem ap_23_23:apI Tryz.prog 23 23=some (1,24):=by kernel_rfl
theorem ap_22_22:apI Tryz.prog 22 22=some (1,24):=by kernel_rfl
theorem ap_52_52:apI Tryz.prog 52 52=some (2,48):=by kernel_rfl
attribute [simp] ag_3 ag_84 ag_65 ag_97 ag_22 ag_98 ag_23 ag_49 ag_52 ag_54 ag_25 ag_27 ag_4 ag_42 ag_39 ag_38 ag_5 ag_41 ag_113 ag_36 ag_44 zl_97 zl_84 zl_27 zl_54 zl_49 zl_25 fo_27_0 fo_27_2 fo_84_1 fo_84_0 fo_97_0 fo_97_1 fo_49_2 fo_49_1 fo_25_2 fo_54_0 fo_54_2 fo_49_0 fo_54_1 fo_27_4 fo_25_1 fo_25_0 fo_27_3 fo_41_1 fo_41_0 fo_27_1 fo_38_3 fo_38_4 fo_38_2 fo_38_1 fo_38_0 fo_44_3 fo_44_2 fo_44_1 fo_44_0 es_52 es_22 es_98 es_65 es_23 es_39 es_42 es_36 is_102 bi_97 bi_49 bi_54 bi_84 bi_25 bi_27 bs_65 bs_98 bs_23 bs_22 bs_52 ap_65_65 ap_98_98 ap_23_23 ap_22_22 ap_52_52
theorem gsize:Tryz.prog.globals.size=0:=by kernel_rfl
end Go.Ai
end
section
namespace Go.Ai
def pl9:List (Nat×List It):=[(7,[.run 0,.run 1,.run 2,.run 3,.run 4,.run 6,.run 7,.run 8,.run 10,.run 5,.run 9,.gate [8,7] [],.run 11,.run 12,.run 13]),(24,[.run 0,.run 1,.run 2,.run 3,.run 4,.run 5,.run 6,.run 7,.run 8,.run 9,.run 10,.run 11,.run 12,.run 13])]
theorem pl9_at_7:planAt pl9 7=[.run 0,.run 1,.run 2,.run 3,.run 4,.run 6,.run 7,.run 8,.run 10,.run 5,.run 9,.gate [8,7] [],.run 11,.run 12,.run 13]:=(rfl)
attribute [simp] pl9_at_7
theorem pl9_at_24:planAt pl9 24=[.run 0,.run 1,.run 2,.run 3,.run 4,.run 5,.run 6,.run 7,.run 8,.run 9,.run 10,.run 11,.run 12,.run 13]:=(rfl)
attribute [simp] pl9_at_24
def pl16:List (Nat×List It):=[(11,[.run 0,.run 1,.run 2,.run 3,.run 4,.run 5,.run 6,.run 7,.run 8,.run 9,.run 10,.run 11,.run 12,.run 13,.run 14,.run 15]),(12,[.run 0,.run 1,.mk 2,.run 3,.run 5,.run 6,.run 7,.run 8,.run 9,.run 10,.run 11,.run 12,.run 13,.mk 14,.gate [12,9,6,1] [2],.run 4,.gate [12,9,6,1] [14],.run 15,.gate [1] [],.run 16,.run 17,.run 18]),(16,[.run 0,.run 1,.run 2,.run 3,.run 4,.run 5,.run 6,.run 7,.run 8]),(26,[.mk 0,.run 1,.run 2,.run 3,.run 4,.run 6,.run 7,.run 8,.run 9,.run 10,.run 5,.gate [10,7] [],.run 11,.run 12]),(27,[.run 0,.run 1,.run 2,.run 3,.run 4,.run 5,.run 6,.mk 7,.gate [1] [],.run 8,.run 9,.run 10])]
theorem pl16_at_11:planAt pl16 11=[.run 0,.run 1,.run 2,.run 3,.run 4,.run 5,.run 6,.run 7,.run 8,.run 9,.run 10,.run 11,.run 12,.run 13,.run 14,.run 15]:=(rfl)
attribute [simp] pl16_at_11
theorem pl16_at_12:planAt pl16 12=[.run 0,.run 1,.mk 2,.run 3,.run 5,.run 6,.run 7,.run 8,.run 9,.run 10,.run 11,.run 12,.run 13,.mk 14,.gate [12,9,6,1] [2],.run 4,.gate [12,9,6,1] [14],.run 15,.gate [1] [],.run 16,.run 17,.run 18]:=(rfl)
attribute [simp] pl16_at_12
theorem pl16_at_16:planAt pl16 16=[.run 0,.run 1,.run 2,.run 3,.run 4,.run 5,.run 6,.run 7,.run 8]:=(rfl)
attribute [simp] pl16_at_16
theorem pl16_at_26:planAt pl16 26=[.mk 0,.run 1,.run 2,.run 3,.run 4,.run 6,.run 7,.run 8,.run 9,.run 10,.run 5,.gate [10,7] [],.run 11,.run 12]:=(rfl)
attribute [simp] pl16_at_26
theorem pl16_at_27:planAt pl16 27=[.run 0,.run 1,.run 2,.run 3,.run 4,.run 5,.run 6,.mk 7,.gate [1] [],.run 8,.run 9,.run 10]:=(rfl)
attribute [simp] pl16_at_27
def pl17:List (Nat×List It):=[(6,[.run 0,.run 1,.run 2,.run 3,.run 4,.run 5,.run 6,.run 7,.run 8,.run 9])]
theorem pl17_at_6:planAt pl17 6=[.run 0,.run 1,.run 2,.run 3,.run 4,.run 5,.run 6,.run 7,.run 8,.run 9]:=(rfl)
attribute [simp] pl17_at_6
def pl20:List (Nat×List It):=[(16,[.run 0,.run 1,.run 2,.run 3,.run 4,.run 5,.run 6,.run 7,.run 8,.run 9,.run 10,.run 11,.run 12,.mk 13,.gate [10] [],.run 14,.run 15])]
theorem pl20_at_16:planAt pl20 16=[.run 0,.run 1,.run 2,.run 3,.run 4,.run 5,.run 6,.run 7,.run 8,.run 9,.run 10,.run 11,.run 12,.mk 13,.gate [10] [],.run 14,.run 15]:=(rfl)
attribute [simp] pl20_at_16
def pl33:List (Nat×List It):=[(6,[.run 0,.run 1,.run 2,.run 3,.run 4,.run 5,.run 6,.run 7,.run 8,.run 9,.run 10,.run 11,.run 12]),(11,[.run 0,.run 1,.run 2,.run 3,.run 4,.run 5,.run 6,.run 7,.run 8,.run 9,.run 10,.run 11,.run 12,.run 13,.run 14,.run 15,.run 16])]
theorem pl33_at_6:planAt pl33 6=[.run 0,.run 1,.run 2,.run 3,.run 4,.run 5,.run 6,.run 7,.run 8,.run 9,.run 10,.run 11,.run 12]:=(rfl)
attribute [simp] pl33_at_6
theorem pl33_at_11:planAt pl33 11=[.run 0,.run 1,.run 2,.run 3,.run 4,.run 5,.run 6,.run 7,.run 8,.run 9,.run 10,.run 11,.run 12,.run 13,.run 14,.run 15,.run 16]:=(rfl)
attribute [simp] pl33_at_11
def pl38:List (Nat×List It):=[(4,[.run 0,.run 1,.run 2,.run 3,.run 4,.run 5,.run 6,.run 7,.run 8,.run 9,.run 10,.run 11,.run 12,.run 13,.run 14,.run 15,.run 16,.run 17,.run 18,.run 19,.run 20,.run 21,.run 22,.run 23,.run 24,.run 25,.run 26,.run 27,.run 28,.run 29,.run 30,.run 31,.run 32,.run 33]),(9,[.run 0,.run 1,.run 2,.run 3,.gate [1] [],.run 4,.mk 5,.gate [1] [],.run 6,.run 7,.run 8,.run 9])]
theorem pl38_at_4:planAt pl38 4=[.run 0,.run 1,.run 2,.run 3,.run 4,.run 5,.run 6,.run 7,.run 8,.run 9,.run 10,.run 11,.run 12,.run 13,.run 14,.run 15,.run 16,.run 17,.run 18,.run 19,.run 20,.run 21,.run 22,.run 23,.run 24,.run 25,.run 26,.run 27,.run 28,.run 29,.run 30,.run 31,.run 32,.run 33]:=(rfl)
attribute [simp] pl38_at_4
theorem pl38_at_9:planAt pl38 9=[.run 0,.run 1,.run 2,.run 3,.gate [1] [],.run 4,.mk 5,.gate [1] [],.run 6,.run 7,.run 8,.run 9]:=(rfl)
attribute [simp] pl38_at_9
def pl39:List (Nat×List It):=[(12,[.run 0,.run 1,.run 2,.run 3,.gate [1] [],.run 4,.mk 5,.gate [1] [],.run 6,.run 7,.run 8,.run 9])]
theorem pl39_at_12:planAt pl39 12=[.run 0,.run 1,.run 2,.run 3,.gate [1] [],.run 4,.mk 5,.gate [1] [],.run 6,.run 7,.run 8,.run 9]:=(rfl)
attribute [simp] pl39_at_12
def pl45:List (Nat×List It):=[(5,[.run 0,.run 1,.run 2,.run 3,.run 4,.run 5,.mk 7,.gate [5,0] [],.run 6,.gate [] [7],.run 8])]
theorem pl45_at_5:planAt pl45 5=[.run 0,.run 1,.run 2,.run 3,.run 4,.run 5,.mk 7,.gate [5,0] [],.run 6,.gate [] [7],.run 8]:=(rfl)
attribute [simp] pl45_at_5
def pl59:List (Nat×List It):=[(6,[.run 0,.run 1,.run 2,.run 3,.run 4,.run 5,.run 6,.run 7,.run 8]),(7,[.run 0,.run 1,.run 2,.run 3,.run 4,.run 5,.run 6,.mk 7,.gate [1] [],.run 8,.run 9,.run 10])]
theorem pl59_at_6:planAt pl59 6=[.run 0,.run 1,.run 2,.run 3,.run 4,.run 5,.run 6,.run 7,.run 8]:=(rfl)
attribute [simp] pl59_at_6
theorem pl59_at_7:planAt pl59 7=[.run 0,.run 1,.run 2,.run 3,.run 4,.run 5,.run 6,.mk 7,.gate [1] [],.run 8,.run 9,.run 10]:=(rfl)
attribute [simp] pl59_at_7
def pl61:List (Nat×List It):=[(8,[.run 0,.run 1,.run 2,.run 3,.run 4,.run 5,.run 6,.run 7,.run 8]),(10,[.run 0,.run 1,.run 2,.run 3,.run 4,.run 5,.run 6,.run 7,.run 8])]
theorem pl61_at_8:planAt pl61 8=[.run 0,.run 1,.run 2,.run 3,.run 4,.run 5,.run 6,.run 7,.run 8]:=(rfl)
attribute [simp] pl61_at_8
theorem pl61_at_10:planAt pl61 10=[.run 0,.run 1,.run 2,.run 3,.run 4,.run 5,.run 6,.run 7,.run 8]:=(rfl)
attribute [simp] pl61_at_10
def pl69:List (Nat×List It):=[(1,[.run 0,.run 1,.run 3,.run 4,.run 6,.run 7,.run 8,.run 2,.run 10,.gate [8,4] [],.run 5,.gate [8] [],.run 9,.run 11,.run 12,.run 13,.run 14,.run 15,.run 16]),(5,[.run 0,.run 1,.run 2,.run 3,.run 4,.gate [1] [],.run 5,.run 6,.gate [1] [],.run 7]),(10,[.run 0,.run 1,.run 2,.run 3,.run 4,.gate [1] [],.run 5,.run 6,.gate [1] [],.run 7]),(15,[.run 0,.run 1,.run 2,.run 3,.run 4,.run 5,.gate [2] [],.run 6,.run 7,.gate [2] [],.run 8]),(17,[.run 0,.run 1,.run 3,.run 4,.run 6,.run 7,.run 8,.run 2,.run 10,.gate [8,4] [],.run 5,.gate [8] [],.run 9,.run 11,.run 12,.run 13,.run 14,.run 15,.run 16])]
theorem pl69_at_1:planAt pl69 1=[.run 0,.run 1,.run 3,.run 4,.run 6,.run 7,.run 8,.run 2,.run 10,.gate [8,4] [],.run 5,.gate [8] [],.run 9,.run 11,.run 12,.run 13,.run 14,.run 15,.run 16]:=(rfl)
attribute [simp] pl69_at_1
theorem pl69_at_5:planAt pl69 5=[.run 0,.run 1,.run 2,.run 3,.run 4,.gate [1] [],.run 5,.run 6,.gate [1] [],.run 7]:=(rfl)
attribute [simp] pl69_at_5
theorem pl69_at_10:planAt pl69 10=[.run 0,.run 1,.run 2,.run 3,.run 4,.gate [1] [],.run 5,.run 6,.gate [1] [],.run 7]:=(rfl)
attribute [simp] pl69_at_10
theorem pl69_at_15:planAt pl69 15=[.run 0,.run 1,.run 2,.run 3,.run 4,.run 5,.gate [2] [],.run 6,.run 7,.gate [2] [],.run 8]:=(rfl)
attribute [simp] pl69_at_15
theorem pl69_at_17:planAt pl69 17=[.run 0,.run 1,.run 3,.run 4,.run 6,.run 7,.run 8,.run 2,.run 10,.gate [8,4] [],.run 5,.gate [8] [],.run 9,.run 11,.run 12,.run 13,.run 14,.run 15,.run 16]:=(rfl)
attribute [simp] pl69_at_17
def pl80:List (Nat×List It):=[(8,[.run 0,.run 1,.run 2,.run 3,.run 4,.run 5,.run 6,.run 7,.run 8]),(10,[.run 0,.run 1,.run 2,.run 3,.run 4,.run 5,.run 6,.run 7,.run 8])]
theorem pl80_at_8:planAt pl80 8=[.run 0,.run 1,.run 2,.run 3,.run 4,.run 5,.run 6,.run 7,.run 8]:=(rfl)
attribute [simp] pl80_at_8
theorem pl80_at_10:planAt pl80 10=[.run 0,.run 1,.run 2,.run 3,.run 4,.run 5,.run 6,.run 7,.run 8]:=(rfl)
attribute [simp] pl80_at_10
def pl90:List (Nat×List It):=[(1,[.run 0,.run 1,.run 2,.run 3,.run 4,.run 5,.run 6,.run 7,.run 8,.run 9,.run 10,.run 11,.run 12,.run 15,.run 16,.run 13,.run 14,.gate [16] [],.run 17,.run 18,.run 19,.run 20])]
theorem pl90_at_1:planAt pl90 1=[.run 0,.run 1,.run 2,.run 3,.run 4,.run 5,.run 6,.run 7,.run 8,.run 9,.run 10,.run 11,.run 12,.run 15,.run 16,.run 13,.run 14,.gate [16] [],.run 17,.run 18,.run 19,.run 20]:=(rfl)
attribute [simp] pl90_at_1
def pl112:List (Nat×List It):=[(6,[.run 0,.run 1,.run 2,.run 3,.run 4,.run 5,.run 6,.run 7,.run 8])]
theorem pl112_at_6:planAt pl112 6=[.run 0,.run 1,.run 2,.run 3,.run 4,.run 5,.run 6,.run 7,.run 8]:=(rfl)
attribute [simp] pl112_at_6
end Go.Ai
end
section
namespace Go.Ai
open Go.Proofs
attribute [simp] gsize
theorem hG:0=Tryz.prog.globals.size:=gsize.symm
end Go.Ai
end
section
namespace Go.Ai
open Go.Proofs
set_option maxRecDepth 10000
set_option maxHeartbeats 40000000
def inW (w:List Int) (q:Int) : Bool:=w.all fun i=>decide (0≤i∧i < q)
end Go.Ai
end
section
namespace Go.Ai
open Go.Proofs
set_option maxRecDepth 10000
set_option maxHeartbeats 40000000
def RowsT (g:Nat→Option Blk) (n:Nat) (ts:List (List Int×List Int)) (cs:List AV) : Prop :=
 cs.length=ts.length * 2∧∀ (k:Nat) (h:k < ts.length),∃ s1 s2,cs[k * 2]?=some s1∧cs[k * 2+1]?=some s2∧RepW g n ts[k].1 s1∧RepW g n ts[k].2 s2
theorem RowsT.ext {g g' : Nat→Option Blk} {b b' : Nat} {ts:List (List Int×List Int)} {cs:List AV} (h:RowsT g b ts cs) (hb:b≤b') (hg:∀ a x,a < b→g a=some x→g' a=some x) : RowsT g' b' ts cs :=
 ⟨h.1,fun k hk=>let ⟨s1,s2,h1,h2,h3,h4⟩:=h.2 k hk; ⟨s1,s2,h1,h2,SliceV.ext hb hg h3,SliceV.ext hb hg h4⟩⟩
def LogR (g:Nat→Option Blk) (n:Nat) (ts:List (List Int×List Int)) (sv:AV) : Prop:=∃ cs,SliceV g n sv ts.length cs∧RowsT g n ts cs
theorem LogR.mono {g g' : Nat→Option Blk} {n n' : Nat} {ts:List (List Int×List Int)} {sv:AV} (h:LogR g n ts sv) (hn:n≤n') (hg:∀ a,a < n→g' a=g a) : LogR g' n' ts sv :=
 let ⟨cs,h1,h2⟩:=h; ⟨cs,h1.mono hn hg,h2.ext hn fun a x ha hx=>(hg a ha).trans hx⟩
theorem drop2 {cs:List AV} {k:Nat} {s1 s2:AV} (h1:cs[k]?=some s1) (h2:cs[k+1]?=some s2) : (cs.drop k).take 2=[s1,s2]:=by
 obtain ⟨a1,b1⟩:=List.getElem?_eq_some_iff.1 h1
 obtain ⟨a2,b2⟩:=List.getElem?_eq_some_iff.1 h2
 rw [List.drop_eq_getElem_cons a1,List.drop_eq_getElem_cons a2,b1,b2]
 rfl
structure AtT (g:Nat→Option Blk) (n:Nat) (sv:AV) (k:Nat) (t:List Int×List Int) (a off:Nat) (s1 s2:AV) : Prop where
 an:a < n
 ia:∀ {H:Mem} {ev:Ev} {o:Oper} {ty:TypeId},iaS Tryz.prog H ev o ty (some (none,2)) (some sv) (some (.lit (.int .i64 (k:Int))))=.val (.ptr a (off+k * 2)) H
 agg:loadB (some (true,2)) (g a) (off+k * 2)=some (.agg [s1,s2])
 c0:loadB (some (false,1)) (g a) (off+k * 2)=some s1
 c1:loadB (some (false,1)) (g a) (off+k * 2+1)=some s2
 r1:RepW g n t.1 s1
 r2:RepW g n t.2 s2
theorem LogR.at {g:Nat→Option Blk} {n:Nat} {ts:List (List Int×List Int)} {sv:AV} (h:LogR g n ts sv) {k:Nat} (hk:k < ts.length) : ∃ a off s1 s2,AtT g n sv k ts[k] a off s1 s2:=by
 obtain ⟨cs,h1,h2⟩:=h
 obtain ⟨s1,s2,e1,e2,r1,r2⟩:=h2.2 k hk
 obtain ⟨a,off,ha,hrow,hia⟩:=SliceV.ia (P:=Tryz.prog) h1 hk 2
 have hl:=h2.1
 refine ⟨a,off,s1,s2,ha,hia,?_,?_,?_,r1,r2⟩
 ·rw [hrow.agg (k:=k * 2) (s:=2) (by omega),drop2 e1 e2]
 ·have:=hrow.one (k:=k * 2) (s:=1) (by omega)
  rwa [(List.getElem?_eq_some_iff.1 e1).2] at this
 ·have:=hrow.one (k:=k * 2+1) (s:=1) (by omega)
  rw [(List.getElem?_eq_some_iff.1 e2).2] at this
  rw [Nat.add_assoc]; exact this
def withinB (I O:Int) (ts:List (List Int×List Int)) : Bool:=(ts.all fun t=>decide (t.1.length≤256)) && decide (I≤16) && decide (O≤16)
end Go.Ai
end
section
namespace Go.Ai
open Go.Proofs
set_option maxRecDepth 10000
set_option maxHeartbeats 40000000
def okR (O:Int) : Bool→List Int→Bool
 | _,[]=>true
 | p,o :: r=>!(decide (o < -1) || (decide (O≤o) || (p && decide (¬o = -1)))) && okR O (decide (o = -1)) r
def validB (I O:Int) (t:List Int×List Int) : Bool:=decide (t.2.length=t.1.length) && inW t.1 I && okR O false t.2
end Go.Ai
end
section
namespace Go.Ai
open Go.Proofs
set_option maxRecDepth 10000
set_option maxHeartbeats 40000000
def logErr (I O:Int) (ts:List (List Int×List Int)) : Int:=if withinB I O ts=false then 3 else if I < 1∨O < 1 then 1 else if ts.all (validB I O)=true then 0 else 1
structure SmallL (ts:List (List Int×List Int)) : Prop where
 len:ts.length≤200
 w1:∀ t∈ts,t.1.length≤300
 w2:∀ t∈ts,t.2.length≤300
end Go.Ai
end
section
namespace Go.Ai
open Go.Proofs
set_option maxRecDepth 10000
set_option maxHeartbeats 40000000
theorem RepW.at {g:Nat→Option Blk} {n:Nat} {w:List Int} {q1:AV} (h:RepW g n w q1) {k:Nat} (hk:k < w.length) : ∃ a off,a < n∧(∀ {H:Mem} {ev:Ev} {o:Oper} {t:TypeId},iaS Tryz.prog H ev o t (some (none,1)) (some q1) (some (.lit (.int .i64 (k:Int))))=.val (.ptr a (off+k)) H)∧loadB (some (false,1)) (g a) (off+k)=some (.lit (.int .i64 w[k])):=by
 obtain ⟨a2,off,ha2,hrow,hia⟩:=SliceV.ia (P:=Tryz.prog) h hk 1
 simp only [Nat.mul_one] at hia
 have hcell:=hrow.one (k:=k) (s:=1) (by rw [wdC_len]; exact hk)
 rw [(List.getElem?_eq_some_iff.1 (wdC_at w k hk)).2] at hcell
 exact ⟨a2,off,ha2,hia,hcell⟩
end Go.Ai
end
section
namespace Go.Ai
open Go.Proofs
set_option maxRecDepth 10000
set_option maxHeartbeats 40000000
def u16Cells (l:List Nat) : List AV:=l.map fun (c:Nat)=>.lit (.int .u16 (c:Int))
theorem MOf_w (st inp out:Nat) (part:Bool) (es:List Nat) (ev:AV) (g:Nat→Option Blk) (n:Nat) (hst:st < 256) (hinp:inp < 256) (hout:out < 256) (hes:SliceA g n ev es.length (u16Cells es)) (heb:∀ c∈es,c < 65536) :
  WC 0 Tryz.prog 20 [.agg [.lit (.int .u8 st),.lit (.int .u8 inp),.lit (.int .u8 out),.lit (.bool part),ev]] ⟨.fn g,n⟩ fun r=>∃ cs g' n',r=.ret (.agg cs) ⟨.fn g',n'⟩∧n≤n'∧(∀ b,b < n→g' b=g b)∧FreshM g' n n' (machOf st inp out part es) cs:=by
 have h1e:=hes.one
 have h1a:allOne [.lit (.int .u8 st),.lit (.int .u8 inp),.lit (.int .u8 out),.lit (.bool part),ev]=true:=by simp [h1e]
 have HE:=Hide.mk hes
 have HB:=Hide.mk heb
 clear hes heb
 have hm1:(st:Int).tmod 6=((st % 6:Nat) : Int):=(Int.ofNat_tmod st 6).symm
 have hm2:(inp:Int).tmod 3=((inp % 3:Nat) : Int):=(Int.ofNat_tmod inp 3).symm
 have hm3:(out:Int).tmod 3=((out % 3:Nat) : Int):=(Int.ofNat_tmod out 3).symm
 have HM:Hide (machOf st inp out part es=⟨1+((inp % 3:Nat) : Int),1+((out % 3:Nat) : Int),(List.range (1+st % 6)).map (rowM part es (1+st % 6) (1+inp % 3) (1+out % 3))⟩):=⟨rfl⟩
 have ha:=Nat.mod_lt st (show 0 < 6 by omega)
 have hb:=Nat.mod_lt inp (show 0 < 3 by omega)
 have hc:=Nat.mod_lt out (show 0 < 3 by omega)
 generalize machOf st inp out part es=M at *
 generalize st % 6=a at *
 generalize inp % 3=b at *
 generalize out % 3=c at *
 refine WC.enterP (noO_ok _ _) hG pl20 Tryz.func20 rfl (by decide +kernel) (Nat.le_of_ble_eq_true (by kernel_rfl)) ?_
 iterate 6 (all_goals try (first | with_reducible refine splitI (fun h=>?_) (fun h=>?_) | with_reducible refine splitBI (fun h=>?_) (fun h=>?_) | simp (config:={ maxSteps:=1000000 }) (disch:=first | assumption | omega | (simp; done) | fail) [Tryz.results20, *]))
 refine LX.ind (fun m gf H'=>∃ (s n' : Nat) (g' gk:Nat→Option Blk) (A:Nat) (rv:AV) (svs:List AV),s≤1+a∧m=1+a - s∧H'=⟨.fn g',n'⟩∧n+1+1+1≤n'∧(∀ b,b < n→g' b=g b)∧g' n=some (.cells [.lit (.int .u8 st),.lit (.int .u8 inp),.lit (.int .u8 out),.lit (.bool part),ev] true 0)∧g' (n+1)=some (.cells [.lit (.int .i64 0),.lit (.int .i64 0),.lit (.slice none 0 0)] true 0)∧g' (n+1+1)=some (.cells [.lit (.int .i64 (1+(b:Int))),.lit (.int .i64 (1+(c:Int))),rv] true 0) ∧
  GrowV g' (n+1+1+1) n' A rv s 1 svs∧RowsE gk n' ((List.range s).map (rowM part es (1+a) (1+b) (1+c))) svs∧(∀ q z,gk q=some z→g' q=some z∧q≠A∧n+1+1+1≤q∧q < n')∧gf 1=some (.ptr n 0)∧gf 2=some (.ptr (n+1) 0)∧gf 3=some (.lit (.int .i64 (1+(a:Int))))∧gf 4=some (.ptr (n+1+1) 0)∧gf 5=some (.lit (.int .i64 s))) (m0:=1+a) ?_ ?_
 ·refine ⟨0,_,_,fun _=>none,0,_,[],by omega,rfl,rfl,by omega,fun q hq=>?_,?_,?_,?_,.inl ⟨rfl,rfl,rfl⟩,rfl,fun q z h=>(by cases h),by simp,by simp,by simp,by simp,by simp⟩
  ·simp (disch:=omega) only [gput_lt]
  ·simp (disch:=omega) only [gput_lt,gput_eq]
  ·simp (disch:=omega) only [gput_lt,gput_eq]
  ·simp (disch:=omega) only [gput_lt,gput_eq]
 rintro m gf H' ⟨s,n1,g1,gk,A,rv,svs,hs,rfl,rfl,hn1,hg1,e0,e1,e2,hA,hrows,hk,w1,w2,w3,w4,w5⟩ ih
 have HG1:=Hide.mk hg1
 have HA:=Hide.mk hA
 have HK:=Hide.mk hk
 have HR:=Hide.mk hrows
 clear hg1 hA hk hrows
 refine LX.roundP (noO_ok _ _) hG pl20 (by decide +kernel) ?_
 by_cases hlt:s < 1+a
 ·have hltI:(s:Int) < 1+(a:Int):=by omega
  iterate 6 (all_goals try (first | with_reducible refine splitI (fun h=>?_) (fun h=>?_) | with_reducible refine splitBI (fun h=>?_) (fun h=>?_) | simp (config:={ maxSteps:=1000000 }) (disch:=first | assumption | omega | (simp; done) | fail) [Tryz.results20, *]))
  refine LX.ind (fun m gf H'=>∃ (j n' : Nat) (g' : Nat→Option Blk) (B:Nat) (sv:AV) (rr:List AV),j≤1+b∧m=1+b - j∧H'=⟨.fn g',n'⟩∧n1≤n'∧(∀ q,q < n1→g' q=g1 q) ∧
   GrowV g' n1 n' B sv j 2 rr∧Hide (rr=rowC ((List.range j).map fun i=>edgeM part (1+a) (1+c) (es.getD (s * (1+b)+i) 0)))∧gf 1=some (.ptr n 0)∧gf 2=some (.ptr (n+1) 0)∧gf 3=some (.lit (.int .i64 (1+(a:Int))))∧gf 4=some (.ptr (n+1+1) 0)∧gf 5=some (.lit (.int .i64 s))∧gf 6=some sv∧gf 7=some (.lit (.int .i64 j))) (m0:=1+b) ?_ ?_
  ·refine ⟨0,_,_,0,_,_,by omega,rfl,rfl,by omega,fun q hq=>rfl,.inl ⟨rfl,rfl,rfl⟩,⟨rfl⟩,by simp [*],by simp [*],by simp [*],by simp [*],by simp [*],by simp,by simp⟩
  rintro m gf H' ⟨j,n',g',B,sv,rr,hj,rfl,rfl,hn',hg',hB,hrr,v1,v2,v3,v4,v5,v6,v7⟩ ihj
  have HG:=Hide.mk hg'
  have HBv:=Hide.mk hB
  clear hg' hB
  have f0:=(HG.out n (by omega)).trans e0
  have f2:=(HG.out (n+1+1) (by omega)).trans e2
  refine LX.roundP (noO_ok _ _) hG pl20 (by decide +kernel) ?_
  by_cases hjt:j < 1+b
  ·have hjtI:(j:Int) < 1+(b:Int):=by omega
   have hp:s * (1+b)≤15:=Nat.le_trans (Nat.mul_le_mul (show s≤5 by omega) (show 1+b≤3 by omega)) (by omega)
   have hmul:(s:Int) * (1+(b:Int))=((s * (1+b) : Nat) : Int):=by simp
   generalize hpe:s * (1+b)=p at *
   have hvl:es.getD (p+j) 0 < 65536:=by
    rw [List.getD_eq_getElem?_getD]
    cases hq:es[p+j]? with
    | none=>simp
    | some x=>exact HB.out x (List.mem_of_getElem? hq)
   generalize hv:es.getD (p+j) 0=v at *
   have hq4:(v:Int).tdiv 4=((v / 4:Nat) : Int):=rfl
   have hr4:(v:Int).tmod 4=((v % 4:Nat) : Int):=(Int.ofNat_tmod v 4).symm
   generalize hqe:v / 4=q at *
   generalize hre:v % 4=r at *
   have hqa:(q:Int).tmod (1+(a:Int))=((q % (1+a) : Nat) : Int):=by rw [show (1+(a:Int))=((1+a:Nat) : Int) by omega]; exact (Int.ofNat_tmod q (1+a)).symm
   have hqb:(q:Int).tdiv (1+(a:Int))=((q / (1+a) : Nat) : Int):=by rw [show (1+(a:Int))=((1+a:Nat) : Int) by omega]; rfl
   have hql:q / (1+a)≤q:=Nat.div_le_self _ _
   generalize hde:q / (1+a)=d at *
   have hdc:(d:Int).tmod (1+(c:Int))=((d % (1+c) : Nat) : Int):=by rw [show (1+(c:Int))=((1+c:Nat) : Int) by omega]; exact (Int.ofNat_tmod d (1+c)).symm
   have hEd:Hide (edgeM part (1+a) (1+c) v=if part=true∧r=3 then (-1,-1) else (((q % (1+a) : Nat) : Int),((d % (1+c) : Nat) : Int))):=⟨by rw [← hre,← hde,← hqe]; rfl⟩
   have hz:v=0→q % (1+a)=0∧d % (1+c)=0∧r=0:=fun e=>by
    have e1:q=0:=by rw [← hqe,e]
    have e2:d=0:=by rw [← hde,e1]; simp
    have e3:r=0:=by rw [← hre,e]
    exact ⟨by rw [e1]; simp,by rw [e2]; simp,e3⟩
   have HZ:=Hide.mk hz
   clear hz
   generalize q % (1+a)=x at *
   generalize d % (1+c)=y at *
   have hql2:q≤v:=by omega
   have hlen:∀ {H:Mem} {e' : Ev} {o:Oper} {c' : Call} {e:TypeId},lenS Tryz.prog H e' o c' (some (.slice e)) (some [ev])=.val (.lit (.int .i64 es.length)) H:=by
    intro H e' o c' e
    rcases HE.out with ⟨h1,rfl | rfl⟩ | ⟨a2,off,c2,_,rfl,_⟩
    ·rw [h1]; rfl
    ·rw [h1]; rfl
    ·rfl
   have hEr:Hide (rowC (List.map (fun i=>edgeM part (1+a) (1+c) (es.getD (p+i) 0)) (List.range (j+1)))=rr++[.lit (.int .i64 (edgeM part (1+a) (1+c) v).1),.lit (.int .i64 (edgeM part (1+a) (1+c) v).2)]):=⟨by rw [List.range_succ,List.map_append,List.map_singleton,hv,rowC_snoc,hrr.out]⟩
   have hdv:d≤v:=by omega
   clear hqe hre hde hql
   by_cases hin:p+j < es.length
   ·have hinI:(p:Int)+(j:Int) < (es.length:Int):=by omega
    rcases HE.out with ⟨h1,_⟩ | ⟨a2,off,c2,ha2,rfl,hrow⟩
    ·omega
    have hnum:=(hrow.mono ((HG.out a2 (by omega)).trans (HG1.out a2 ha2))).one (k:=p+j) (s:=1) (by simp only [u16Cells,List.length_map]; exact hin)
    have hcell:(u16Cells es)[p+j]'(by simp only [u16Cells,List.length_map]; exact hin)=.lit (.int .u16 (v:Int)):=by simp only [u16Cells,List.getElem_map]; rw [← hv,List.getD_eq_getElem?_getD,List.getElem?_eq_getElem hin]; rfl
    rw [hcell] at hnum
    clear hv hcell hrow
    have htn:((p:Int)+(j:Int)).toNat=p+j:=by omega
    rcases HBv.out with hB0 | ⟨hpos,hsv,hB1,hB2,hB3,hB4⟩
    ·obtain ⟨hj0,hnil,hsv⟩:=hB0
     subst hsv
     have HJ:=Hide.mk (And.intro hj0 hnil)
     clear hj0 hnil
     cases part <;> by_cases hr3:r=3
     all_goals
      first
       | have hrI:(r:Int)=3:=by omega
       | have hrI:¬(r:Int)=3:=by omega
      iterate 6 (all_goals try (first | with_reducible refine splitI (fun h=>?_) (fun h=>?_) | with_reducible refine splitBI (fun h=>?_) (fun h=>?_) | simp (config:={ maxSteps:=1000000 }) (disch:=first | assumption | omega | (simp; done) | fail) [Tryz.results20, *]))
      refine ihj.out (1+b - (j+1)) _ _ (by omega) ⟨j+1,n'+1+1,_,n'+1,.slq (n'+1) 0 (j+1) 0,_,by omega,rfl,rfl,by omega,fun q hq=>?_,.mk gput_eq (by omega) (by omega) ?_,⟨?_⟩,by simp [*],by simp [*],by simp [*],by simp [*],by simp [*],by rw [HJ.out.1]; simp [*],by simp⟩
      ·simp (disch:=omega) only [gput_lt,gput_ne]
       exact HG.out q hq
      ·rw [HJ.out.1]; simp [*]
      ·rw [hEr.out,hEd.out]
       rw [HJ.out.2]; simp [*]
    ·subst hsv
     have hj6:j≤1000000:=by omega
     cases part <;> by_cases hr3:r=3
     all_goals
      first
       | have hrI:(r:Int)=3:=by omega
       | have hrI:¬(r:Int)=3:=by omega
      iterate 6 (all_goals try (first | with_reducible refine splitI (fun h=>?_) (fun h=>?_) | with_reducible refine splitBI (fun h=>?_) (fun h=>?_) | simp (config:={ maxSteps:=1000000 }) (disch:=first | assumption | omega | (simp; done) | fail) [Tryz.results20, *]))
      refine ihj.out (1+b - (j+1)) _ _ (by omega) ⟨j+1,n'+1+1,_,n'+1,.slq (n'+1) 0 (j+1) 0,_,by omega,rfl,rfl,by omega,fun q hq=>?_,.mk gput_eq (by omega) (by omega) ?_,⟨?_⟩,by simp [*],by simp [*],by simp [*],by simp [*],by simp [*],by simp [*],by simp⟩
      ·simp (disch:=omega) only [gput_lt,gput_ne]
       exact HG.out q hq
      ·simp [*]; omega
      ·rw [hEr.out,hEd.out]
       simp [*]
   ·have hinI:¬(p:Int)+(j:Int) < (es.length:Int):=by omega
    have hv0:v=0:=by
     rw [← hv,List.getD_eq_getElem?_getD,List.getElem?_eq_none (by omega)]; rfl
    obtain ⟨hx0,hy0,hr0⟩:=HZ.out hv0
    clear hv hq4 hr4 hqa hqb hdc
    rcases HBv.out with hB0 | ⟨hpos,hsv,hB1,hB2,hB3,hB4⟩
    ·obtain ⟨hj0,hnil,hsv⟩:=hB0
     subst hsv
     have HJ:=Hide.mk (And.intro hj0 hnil)
     clear hj0 hnil
     cases part
     all_goals
      iterate 6 (all_goals try (first | with_reducible refine splitI (fun h=>?_) (fun h=>?_) | with_reducible refine splitBI (fun h=>?_) (fun h=>?_) | simp (config:={ maxSteps:=1000000 }) (disch:=first | assumption | omega | (simp; done) | fail) [Tryz.results20, *]))
      refine ihj.out (1+b - (j+1)) _ _ (by omega) ⟨j+1,n'+1+1,_,n'+1,.slq (n'+1) 0 (j+1) 0,_,by omega,rfl,rfl,by omega,fun q hq=>?_,.mk gput_eq (by omega) (by omega) ?_,⟨?_⟩,by simp [*],by simp [*],by simp [*],by simp [*],by simp [*],by rw [HJ.out.1]; simp [*],by simp⟩
      ·simp (disch:=omega) only [gput_lt,gput_ne]
       exact HG.out q hq
      ·rw [HJ.out.1]; simp [*]
      ·rw [hEr.out,hEd.out]
       rw [HJ.out.2]; simp [*]
    ·subst hsv
     have hj6:j≤1000000:=by omega
     cases part
     all_goals
      iterate 6 (all_goals try (first | with_reducible refine splitI (fun h=>?_) (fun h=>?_) | with_reducible refine splitBI (fun h=>?_) (fun h=>?_) | simp (config:={ maxSteps:=1000000 }) (disch:=first | assumption | omega | (simp; done) | fail) [Tryz.results20, *]))
      refine ihj.out (1+b - (j+1)) _ _ (by omega) ⟨j+1,n'+1+1,_,n'+1,.slq (n'+1) 0 (j+1) 0,_,by omega,rfl,rfl,by omega,fun q hq=>?_,.mk gput_eq (by omega) (by omega) ?_,⟨?_⟩,by simp [*],by simp [*],by simp [*],by simp [*],by simp [*],by simp [*],by simp⟩
      ·simp (disch:=omega) only [gput_lt,gput_ne]
       exact HG.out q hq
      ·simp [*]; omega
      ·rw [hEr.out,hEd.out]
       simp [*]
  ·have Hj2:Hide (j=1+b):=⟨by omega⟩
   have hjtI:¬(j:Int) < 1+(b:Int):=by omega
   have hs6:s≤1000000:=by omega
   rcases HBv.out with ⟨h0,_⟩ | ⟨hpos,hsv,hB1,hB2,hB3,hB4⟩
   ·omega
   subst hsv
   have HB4:=Hide.mk hB4
   clear hB4
   have HR2:Hide (RowsE (gput gk B (some (.cells rr true 2))) (n'+1+1) ((List.range (s+1)).map (rowM part es (1+a) (1+b) (1+c))) (svs++[.slq B 0 j 0])):=⟨by
    rw [List.range_succ,List.map_append,List.map_singleton]
    refine RowsE.snoc ?_ (HR.out.ext (by omega) fun q z hq hz=>(gput_lt (by omega)).trans hz)
    rw [show (rowM part es (1+a) (1+b) (1+c) s).length=j by unfold rowM; simp [Hj2.out]]
    refine .inr ⟨B,0,by omega,.inr ⟨0,rfl⟩,rr,true,2,gput_eq,?_,?_⟩
    ·rw [show rowC (rowM part es (1+a) (1+b) (1+c) s)=rr by rw [hrr.out,Hj2.out]; rfl]; simp
    ·rw [show rowC (rowM part es (1+a) (1+b) (1+c) s)=rr by rw [hrr.out,Hj2.out]; rfl]; simp⟩
   have HK2:Hide (∀ q z,gput gk B (some (.cells rr true 2)) q=some z→g' q=some z∧q≠n'∧q≠n'+1∧q≠n+1+1∧n+1+1+1≤q∧q < n'∧(A < n1→q≠A)):=⟨fun q z hz=>by
    rcases gput_v hz with ⟨rfl,h⟩ | ⟨_,hz⟩
    ·cases h; exact ⟨hB3,by omega,by omega,by omega,by omega,hB2,by omega⟩
    ·obtain ⟨k1,k2,k3,k4⟩:=HK.out q z hz
     exact ⟨(HG.out q k4).trans k1,by omega,by omega,by omega,k3,by omega,fun _=>k2⟩⟩
   rcases HA.out with hA0 | ⟨hspos,hrv,hA1,hA2,hA3,hA4⟩
   ·obtain ⟨hs0,hnil,hrv⟩:=hA0
    subst hrv
    have HJ:=Hide.mk (And.intro hs0 hnil)
    clear hs0 hnil
    iterate 6 (all_goals try (first | with_reducible refine splitI (fun h=>?_) (fun h=>?_) | with_reducible refine splitBI (fun h=>?_) (fun h=>?_) | simp (config:={ maxSteps:=1000000 }) (disch:=first | assumption | omega | (simp; done) | fail) [Tryz.results20, *]))
    refine ih.out (1+a - (s+1)) _ _ (by omega) ⟨s+1,n'+1+1,_,_,n'+1,.slq (n'+1) 0 (s+1) 0,svs++[.slq B 0 j 0],by omega,rfl,rfl,by omega,fun q hq=>?_,?_,?_,?_,.mk ?_ (by omega) (by omega) ?_,HR2.out,fun q z hz=>?_,by simp [*],by simp [*],by simp [*],by simp [*],by simp [*]⟩
    ·simp (disch:=omega) only [gput_lt,gput_ne]
     rw [HG.out q (by omega)]
     exact HG1.out q hq
    ·simp (disch:=omega) only [gput_lt,gput_ne]
     exact f0
    ·simp (disch:=omega) only [gput_lt,gput_ne]
     rw [HG.out (n+1) (by omega)]
     exact e1
    ·rw [HJ.out.1]; simp [*]
    ·rw [HJ.out.2]; simp (disch:=omega) [gput_ne,gput_eq]
    ·rw [HJ.out.1,HJ.out.2]; simp [*]
    ·obtain ⟨k1,k2,k3,k4,k5,k6,k7⟩:=HK2.out q z hz
     refine ⟨?_,k3,k5,by omega⟩
     simp (disch:=omega) only [gput_lt,gput_ne]
     exact k1
   ·subst hrv
    have hA5:=(HG.out A hA2).trans hA3
    iterate 6 (all_goals try (first | with_reducible refine splitI (fun h=>?_) (fun h=>?_) | with_reducible refine splitBI (fun h=>?_) (fun h=>?_) | simp (config:={ maxSteps:=1000000 }) (disch:=first | assumption | omega | (simp; done) | fail) [Tryz.results20, *]))
    refine ih.out (1+a - (s+1)) _ _ (by omega) ⟨s+1,n'+1+1,_,_,n'+1,.slq (n'+1) 0 (s+1) 0,svs++[.slq B 0 j 0],by omega,rfl,rfl,by omega,fun q hq=>?_,?_,?_,?_,.mk ?_ (by omega) (by omega) ?_,HR2.out,fun q z hz=>?_,by simp [*],by simp [*],by simp [*],by simp [*],by simp [*]⟩
    ·simp (disch:=omega) only [gput_lt,gput_ne]
     rw [HG.out q (by omega)]
     exact HG1.out q hq
    ·simp (disch:=omega) only [gput_lt,gput_ne]
     exact f0
    ·simp (disch:=omega) only [gput_lt,gput_ne]
     rw [HG.out (n+1) (by omega)]
     exact e1
    ·simp [*]
    ·simp (disch:=omega) [gput_ne,gput_eq]
    ·simp [*]
    ·obtain ⟨k1,k2,k3,k4,k5,k6,k7⟩:=HK2.out q z hz
     refine ⟨?_,k3,k5,by omega⟩
     have k8:=k7 hA2
     simp (disch:=omega) only [gput_lt,gput_ne]
     exact k1
 ·have hltI:¬(s:Int) < 1+(a:Int):=by omega
  have hs2:s=1+a:=by omega
  have h1r:=HA.out.one
  have h1m:allOne [.lit (.int .i64 (1+(b:Int))),.lit (.int .i64 (1+(c:Int))),rv]=true:=by simp [h1r]
  have hlen:svs.length=s:=by rw [HR.out.len]; simp
  have HREP:Hide (RepM (fun q=>if q=A∧n+1+1+1≤A∧A < n1 then g1 A else gk q) n1 M [.lit (.int .i64 (1+(b:Int))),.lit (.int .i64 (1+(c:Int))),rv]):=⟨by
   rw [HM.out]
   refine ⟨rv,svs,rfl,?_,?_⟩
   ·show RowsE _ n1 ((List.range (1+a)).map _) svs
    have hrs:=HR.out
    rw [hs2] at hrs
    refine hrs.ext (Nat.le_refl _) fun q z _ hz=>?_
    obtain ⟨k1,k2,k3,k4⟩:=HK.out q z hz
    show (if q=A∧n+1+1+1≤A∧A < n1 then g1 A else gk q)=some z
    rw [if_neg (fun h=>k2 h.1)]; exact hz
   ·show SliceV _ n1 rv ((List.range (1+a)).map _).length svs
    rw [List.length_map,List.length_range,← hs2]
    refine HA.out.slice.ext (Nat.le_refl _) fun q z _ hz=>?_
    have hz' : (if q=A∧n+1+1+1≤A∧A < n1 then g1 q else none)=some z:=hz
    show (if q=A∧n+1+1+1≤A∧A < n1 then g1 A else gk q)=some z
    split at hz'
    ·rename_i h
     rw [if_pos h,← h.1]; exact hz'
    ·cases hz'⟩
  clear hs2 hlen
  iterate 6 (all_goals try (first | with_reducible refine splitI (fun h=>?_) (fun h=>?_) | with_reducible refine splitBI (fun h=>?_) (fun h=>?_) | simp (config:={ maxSteps:=1000000 }) (disch:=first | assumption | omega | (simp; done) | fail) [Tryz.results20, *]))
  refine ⟨_,_,_,⟨rfl,rfl,rfl⟩,by omega,fun q hq=>?_,_,fun q z hz=>?_,HREP.out⟩
  ·rw [gput_lt (by omega)]; exact HG1.out q hq
  ·have hz' : (if q=A∧n+1+1+1≤A∧A < n1 then g1 A else gk q)=some z:=hz
   split at hz'
   ·rename_i h
    obtain ⟨rfl,h2,h3⟩:=h
    exact ⟨by rw [gput_ne (by omega)]; exact hz',by omega,h3⟩
   ·obtain ⟨k1,k2,k3,k4⟩:=HK.out q z hz'
    exact ⟨by rw [gput_ne (by omega)]; exact k1,by omega,k4⟩
end Go.Ai
end
section
namespace Go.Ai
open Go.Proofs
set_option maxRecDepth 10000
set_option maxHeartbeats 40000000
theorem stood97:Tryz.prog.stoodInHeld 97=false:=by kernel_rfl
theorem equal_int {P:Program} {d:Nat} {t:TypeId} {k:IntKind} {a b:Int} (ht:P.underlying t=some (.int k)) : pureV P (Op.equalIn (d+1) t (.int k a) (.int k b))=some (a == b):=by
 unfold Op.equalIn
 refine (pureV_then (m:=underlying t) (pureV_underlying ht)).trans ?_
 dsimp only
 rw [if_pos rfl]
 rfl
theorem equal_edge (a b c d:Int) : pureV Tryz.prog (Op.equal 97 (.agg #[.int .i64 a,.int .i64 b]) (.agg #[.int .i64 c,.int .i64 d]))=some (a == c && b == d):=by
 unfold Op.equal
 show pureV Tryz.prog (Op.equalIn (9998+1+1) 97 _ _)=_
 rw [Op.equalIn]
 refine (pureV_then (m:=underlying 97) (pureV_underlying Tryz.underlying97)).trans ?_
 dsimp only
 refine (pureV_then (m:=program) (a:=Tryz.prog) rfl).trans ?_
 rw [if_neg (by rw [stood97]; decide)]
 have p0:∀ x y:Int,pureV Tryz.prog (part 3 #[Value.int IntKind.i64 x,Value.int IntKind.i64 y] 0)=some (.int .i64 x):=fun x y=>rfl
 have p1:∀ x y:Int,pureV Tryz.prog (part 3 #[Value.int IntKind.i64 x,Value.int IntKind.i64 y] 1)=some (.int .i64 y):=fun x y=>rfl
 simp only [List.forIn_toArray,List.forIn_cons,List.forIn_nil]
 have key:∀ (nm:String) (u v:Int) (m1 m2:Sem Value),nm ≠ "_"→pureV Tryz.prog m1=some (.int .i64 u)→pureV Tryz.prog m2=some (.int .i64 v) →
   pureV Tryz.prog (if nm ≠ "_" then do
    let x ← m1
    let y ← m2
    let z ← Op.equalIn (9998+1) 3 x y
    if (!z)=true then pure (ForInStep.done (some false,())) else pure (ForInStep.yield ((none:Option Bool),()))
   else pure (ForInStep.yield (none,())))=some (if (u == v)=true then ForInStep.yield (none,()) else ForInStep.done (some false,())):=by
  intro nm u v m1 m2 hn h1 h2
  rw [if_pos hn]
  refine (pureV_then h1).trans ((pureV_then h2).trans ((pureV_then (equal_int Tryz.underlying3)).trans ?_))
  cases (u == v) <;> rfl
 refine (pureV_then (a:=if (a == c && b == d)=true then ((none:Option Bool),()) else (some false,())) ?_).trans ?_
 ·refine (pureV_then (key "To" a c _ _ (by decide) (p0 a b) (p0 c d))).trans ?_
  cases (a == c)
  ·rfl
  ·refine (pureV_then (key "Out" b d _ _ (by decide) (p1 a b) (p1 c d))).trans ?_
   cases (b == d) <;> rfl
 ·cases (a == c) <;> cases (b == d) <;> rfl
end Go.Ai
end
section
namespace Go.Ai
open Go.Proofs
set_option maxRecDepth 10000
set_option maxHeartbeats 40000000
end Go.Ai
end
section
namespace Go.Ai
open Go.Proofs
set_option maxRecDepth 10000
set_option maxHeartbeats 40000000
end Go.Ai
end
section
namespace Go.Ai
open Go.Proofs
set_option maxRecDepth 10000
set_option maxHeartbeats 40000000
def nextM (M:MachM) (s i:Int) : Int×Int:=if s < 0 then (-1,-1) else (M.rows.getD s.toNat []).getD i.toNat (-1,-1)
def runM (M:MachM) : Int→List Int→List Int
 | _,[]=>[]
 | s,i :: w=>(nextM M s i).2 :: runM M (nextM M s i).1 w
def aftM (M:MachM) : Int→List Int→Int
 | s,[]=>s
 | s,i :: w=>aftM M (nextM M s i).1 w
theorem runM_len {M:MachM} : ∀ (w:List Int) (s:Int),(runM M s w).length=w.length
 | [],_=>rfl
 | _ :: w,s=>by unfold runM; rw [List.length_cons,List.length_cons,runM_len w]
theorem runM_app {M:MachM} : ∀ (a b:List Int) (s:Int),runM M s (a++b)=runM M s a++runM M (aftM M s a) b
 | [],_,_=>rfl
 | i :: a,b,s=>by
  show (nextM M s i).2 :: runM M (nextM M s i).1 (a++b)=_
  rw [runM_app a b]; rfl
theorem aftM_app {M:MachM} : ∀ (a b:List Int) (s:Int),aftM M s (a++b)=aftM M (aftM M s a) b
 | [],_,_=>rfl
 | i :: a,b,s=>aftM_app a b _
def stOK (M:MachM) (s:Int) : Prop:=s = -1∨∃ k:Nat,s=k∧k < M.rows.length
theorem edgeOK_st {M:MachM} {e:Int×Int} (h:edgeOK M.rows.length M.out e=true) : stOK M e.1 ∧ -1≤e.2∧(e.2 = -1∨e.2 < M.out)∧(e.2 = -1→e.1 = -1):=by
 unfold edgeOK at h
 rcases Bool.or_eq_true_iff.1 h with h | h
 ·have h:=of_decide_eq_true h
  subst h
  exact ⟨.inl rfl,by decide,.inl rfl,fun _=>rfl⟩
 ·simp only [Bool.and_eq_true,decide_eq_true_eq] at h
  exact ⟨.inr ⟨e.1.toNat,by omega,by omega⟩,by omega,.inr h.2.2.2,fun h2=>by omega⟩
theorem nextM_at {M:MachM} (hM:M.ok) {k:Nat} {i:Int} (hk:k < M.rows.length) (h0:0≤i) (h1:i < M.inp) : ∃ (hi:i.toNat < (M.rows[k]).length),nextM M k i=(M.rows[k])[i.toNat]∧edgeOK M.rows.length M.out (nextM M k i)=true:=by
 have hr:=hM.2.2.2.2.2.2 _ (List.getElem_mem hk)
 have hi:i.toNat < (M.rows[k]).length:=by omega
 have e:nextM M k i=(M.rows[k])[i.toNat]:=by
  unfold nextM
  rw [if_neg (by omega),show ((k:Int)).toNat=k from rfl]
  have h3:M.rows.getD k []=M.rows[k]:=by rw [List.getD_eq_getElem?_getD,List.getElem?_eq_getElem hk]; rfl
  rw [h3,List.getD_eq_getElem?_getD,List.getElem?_eq_getElem hi]
  rfl
 exact ⟨hi,e,by rw [e]; exact hr.2 _ (List.getElem_mem hi)⟩
theorem nextM_neg {M:MachM} {s i:Int} (h:s < 0) : nextM M s i=(-1,-1):=if_pos h
theorem nextM_ok {M:MachM} (hM:M.ok) {s i:Int} (hs:stOK M s) (h0:0≤i) (h1:i < M.inp) : edgeOK M.rows.length M.out (nextM M s i)=true:=by
 rcases hs with rfl | ⟨k,rfl,hk⟩
 ·rw [nextM_neg (by decide)]; rfl
 ·exact (nextM_at hM hk h0 h1).2.2
structure EdgeAt (g:Nat→Option Blk) (n:Nat) (rv:AV) (k i:Nat) (e:Int×Int) (a off a2 off2:Nat) (q:AV) : Prop where
 an:a < n
 an2:a2 < n
 ia:∀ {H:Mem} {ev:Ev} {o:Oper} {t:TypeId},iaS Tryz.prog H ev o t (some (none,1)) (some rv) (some (.lit (.int .i64 (k:Int))))=.val (.ptr a (off+k)) H
 cell:loadB (some (false,1)) (g a) (off+k)=some q
 ia2:∀ {H:Mem} {ev:Ev} {o:Oper} {t:TypeId},iaS Tryz.prog H ev o t (some (none,2)) (some q) (some (.lit (.int .i64 (i:Int))))=.val (.ptr a2 (off2+i * 2)) H
 cell2:loadB (some (true,2)) (g a2) (off2+i * 2)=some (.agg [.lit (.int .i64 e.1),.lit (.int .i64 e.2)])
theorem RepM.edge {g:Nat→Option Blk} {n:Nat} {M:MachM} {a0 b0 rv:AV} (h:RepM g n M [a0,b0,rv]) {k:Nat} (hk:k < M.rows.length) {i:Nat} (hi:i < (M.rows[k]).length) : ∃ a off a2 off2 q,EdgeAt g n rv k i (M.rows[k])[i] a off a2 off2 q:=by
 obtain ⟨sv,svs,e,hr,hs⟩:=h
 injection e with _ e; injection e with _ e; injection e with e _
 subst e
 have hkl:k < svs.length:=by rw [hr.len]; exact hk
 obtain ⟨a,off,ha,hrow,hia⟩:=hs.ia (P:=Tryz.prog) hk 1
 simp only [Nat.mul_one] at hia
 have hc:=hrow.one (k:=k) (s:=1) hkl
 obtain ⟨a2,off2,ha2,hrow2,hia2⟩:=SliceV.ia (P:=Tryz.prog) (hr.at k hk hkl) hi 2
 have hc2:=hrow2.agg (k:=i * 2) (s:=2) (by rw [rowC_len]; omega)
 rw [rowC_at _ i hi] at hc2
 exact ⟨a,off,a2,off2,svs[k],ha,ha2,hia,hc,hia2,hc2⟩
theorem rNext_w {M:MachM} (hM:M.ok) (s i:Int) (hs:stOK M s) (h0:0≤i) (h1:i < M.inp) (g:Nat→Option Blk) (n:Nat) (ms:List AV) (hr:RepM g n M ms) :
  WC 0 Tryz.prog 97 [.agg ms,.lit (.int .i64 s),.lit (.int .i64 i)] ⟨.fn g,n⟩ fun r=>∃ g' n',r=.ret (.agg [.lit (.int .i64 (nextM M s i).1),.lit (.int .i64 (nextM M s i).2)]) ⟨.fn g',n'⟩∧n≤n'∧∀ b,b < n→g' b=g b:=by
 obtain ⟨rv,rfl,h1r⟩:=hr.one
 have h1a:allOne [.lit (.int .i64 M.inp),.lit (.int .i64 M.out),rv]=true:=by simp [h1r]
 have HR:=Hide.mk hr
 clear hr
 rcases hs with rfl | ⟨k,rfl,hk⟩
 ·rw [nextM_neg (by decide)]
  refine WC.enterP (noO_ok _ _) hG [] Tryz.func97 rfl (by decide +kernel) (Nat.le_of_ble_eq_true (by kernel_rfl)) ?_
  iterate 8 (all_goals try (first | with_reducible refine splitI (fun h=>?_) (fun h=>?_) | with_reducible refine splitBI (fun h=>?_) (fun h=>?_) | simp (config:={ maxSteps:=1000000 }) (disch:=first | assumption | omega | (simp; done) | fail) [Tryz.results97, *]))
  refine ⟨_,_,⟨rfl,rfl⟩,by omega,fun b (hb:b < n)=>by simp (disch:=omega) [gput_lt]⟩
 ·obtain ⟨hi,he,_⟩:=nextM_at hM hk h0 h1
  obtain ⟨a,off,a2,off2,q,HE0⟩:=HR.out.edge hk hi
  rw [← he] at HE0
  obtain ⟨j,rfl⟩ : ∃ j:Nat,i=j:=⟨i.toNat,by omega⟩
  have HE:=Hide.mk HE0
  clear HE0 he
  have han:=HE.out.an
  have han2:=HE.out.an2
  have hia:∀ {H:Mem} {ev:Ev} {o:Oper} {t:TypeId},iaS Tryz.prog H ev o t (some (none,1)) (some rv) (some (.lit (.int .i64 (k:Int))))=.val (.ptr a (off+k)) H:=fun {H ev o t}=>HE.out.ia
  have hc:=HE.out.cell
  have hia2:∀ {H:Mem} {ev:Ev} {o:Oper} {t:TypeId},iaS Tryz.prog H ev o t (some (none,2)) (some q) (some (.lit (.int .i64 (j:Int))))=.val (.ptr a2 (off2+j * 2)) H:=fun {H ev o t}=>HE.out.ia2
  have hc2:loadB (some (true,2)) (g a2) (off2+j * 2)=_:=HE.out.cell2
  have hk0:¬(k:Int) < 0:=by omega
  clear HE
  generalize (nextM M k j).1=x at *
  generalize (nextM M k j).2=y at *
  refine WC.enterP (noO_ok _ _) hG [] Tryz.func97 rfl (by decide +kernel) (Nat.le_of_ble_eq_true (by kernel_rfl)) ?_
  iterate 8 (all_goals try (first | with_reducible refine splitI (fun h=>?_) (fun h=>?_) | with_reducible refine splitBI (fun h=>?_) (fun h=>?_) | simp (config:={ maxSteps:=1000000 }) (disch:=first | assumption | omega | (simp; done) | fail) [Tryz.results97, *]))
  refine ⟨_,_,⟨rfl,rfl⟩,by omega,fun b (hb:b < n)=>by simp (disch:=omega) [gput_lt]⟩
theorem take_snoc {α:Type} {l:List α} {k:Nat} (h:k < l.length) : l.take (k+1)=l.take k++[l[k]]:=by rw [List.take_succ,List.getElem?_eq_getElem h]; rfl
def FreshW (g:Nat→Option Blk) (lo n:Nat) (w:List Int) (sv:AV) : Prop:=∃ gk:Nat→Option Blk,(∀ a z,gk a=some z→g a=some z∧lo≤a∧a < n)∧RepW gk n w sv
theorem FreshW.rep {g:Nat→Option Blk} {lo n:Nat} {w:List Int} {sv:AV} (h:FreshW g lo n w sv) : RepW g n w sv :=
 let ⟨_,h1,h3⟩:=h; SliceV.ext (Nat.le_refl _) (fun a z _ hz=>(h1 a z hz).1) h3
theorem FreshW.keep {g g' : Nat→Option Blk} {lo lo' n n' : Nat} {w:List Int} {sv:AV} (h:FreshW g lo n w sv) (h0:lo'≤lo) (h2:n≤n') (hg:∀ a,lo≤a→a < n→g' a=g a) : FreshW g' lo' n' w sv:=by
 obtain ⟨gk,h1,h3⟩:=h
 refine ⟨gk,fun a z hz=>?_,SliceV.ext h2 (fun a z _ hz=>hz) h3⟩
 obtain ⟨e1,e2,e3⟩:=h1 a z hz
 exact ⟨(hg a e2 e3).trans e1,by omega,by omega⟩
theorem GrowV.fresh {g:Nat→Option Blk} {lo n B len:Nat} {sv:AV} {w:List Int} (h:GrowV g lo n B sv len 1 (wdC w)) (hl:len=w.length) : FreshW g lo n w sv:=by
 subst hl
 refine ⟨_,fun a z hz=>?_,h.slice⟩
 have hz' : (if a=B∧lo≤B∧B < n then g a else none)=some z:=hz
 split at hz'
 ·rename_i h1
  obtain ⟨rfl,h2,h3⟩:=h1
  exact ⟨hz',h2,h3⟩
 ·cases hz'
theorem wdC_snoc (w:List Int) (x:Int) : wdC (w++[x])=wdC w++[.lit (.int .i64 x)]:=by simp [wdC]
end Go.Ai
end
section
namespace Go.Ai
open Go.Proofs
set_option maxRecDepth 10000
set_option maxHeartbeats 40000000
theorem wC2_w (x q:Int) (p:Nat) (g:Nat→Option Blk) (n:Nat) (hp:g p=some (.cells [.lit (.int .i64 q)] true 0)) (hpn:p < n) :
  WC 0 Tryz.prog 125 [.lit (.int .i64 x),.ptr p 0] ⟨.fn g,n⟩ fun r=>r=.ret (.lit (.bool (decide (¬(0≤x∧x < q))))) ⟨.fn g,n⟩:=by
 by_cases t1:x < 0
 ·have hd:decide (¬(0≤x∧x < q))=true:=decide_eq_true (by omega)
  rw [hd]
  refine WC.enterP (noO_ok _ _) hG [] Tryz.func125 rfl (by decide +kernel) (Nat.le_of_ble_eq_true (by kernel_rfl)) ?_
  iterate 6 (all_goals try (first | with_reducible refine splitI (fun h=>?_) (fun h=>?_) | with_reducible refine splitBI (fun h=>?_) (fun h=>?_) | simp (config:={ maxSteps:=1000000 }) (disch:=first | assumption | omega | (simp; done) | fail) [Tryz.results125, *]))
 by_cases t2:q≤x
 ·have hd:decide (¬(0≤x∧x < q))=true:=decide_eq_true (by omega)
  rw [hd]
  refine WC.enterP (noO_ok _ _) hG [] Tryz.func125 rfl (by decide +kernel) (Nat.le_of_ble_eq_true (by kernel_rfl)) ?_
  iterate 6 (all_goals try (first | with_reducible refine splitI (fun h=>?_) (fun h=>?_) | with_reducible refine splitBI (fun h=>?_) (fun h=>?_) | simp (config:={ maxSteps:=1000000 }) (disch:=first | assumption | omega | (simp; done) | fail) [Tryz.results125, *]))
 ·have hd:decide (¬(0≤x∧x < q))=false:=decide_eq_false (by omega)
  rw [hd]
  refine WC.enterP (noO_ok _ _) hG [] Tryz.func125 rfl (by decide +kernel) (Nat.le_of_ble_eq_true (by kernel_rfl)) ?_
  iterate 6 (all_goals try (first | with_reducible refine splitI (fun h=>?_) (fun h=>?_) | with_reducible refine splitBI (fun h=>?_) (fun h=>?_) | simp (config:={ maxSteps:=1000000 }) (disch:=first | assumption | omega | (simp; done) | fail) [Tryz.results125, *]))
theorem iFunc2_w (w:List Int) (hwl:w.length≤1000000) (q:Int) (sv:AV) (p:Nat) (g:Nat→Option Blk) (n:Nat) (hp:g p=some (.cells [.lit (.int .i64 q)] true 0)) (hpn:p < n) (hsv:RepW g n w sv) :
  WC 0 Tryz.prog 143 [sv,.func (.func 125) [] [.ptr p 0]] ⟨.fn g,n⟩ fun r=>∃ z:Int,r=.ret (.lit (.int .i64 z)) ⟨.fn g,n⟩∧decide (0≤z) = !(w.all fun i=>decide (0≤i∧i < q)):=by
 have hlen:=@lenV Tryz.prog _ _ _ _ _ hsv
 have HS:=Hide.mk hsv
 have HP:=Hide.mk hp
 clear hsv hp
 obtain ⟨ret,hret⟩ : ∃ b,b = !(w.all fun i=>decide (0≤i∧i < q)):=⟨_,rfl⟩
 rw [← hret]
 have HRET:=Hide.mk hret
 clear hret
 refine WC.enterP (noO_ok _ _) hG [] Tryz.func143 rfl (by decide +kernel) (Nat.le_of_ble_eq_true (by kernel_rfl)) ?_
 iterate 6 (all_goals try (first | with_reducible refine splitI (fun h=>?_) (fun h=>?_) | with_reducible refine splitBI (fun h=>?_) (fun h=>?_) | simp (config:={ maxSteps:=1000000 }) (disch:=first | assumption | omega | (simp; done) | fail) [Tryz.results143, *]))
 refine LX.ind (fun m gf H'=>∃ (k:Nat),k≤w.length∧m=w.length - k∧H'=⟨.fn g,n⟩∧Hide (∀ i∈w.take k,0≤i∧i < q) ∧
  gf 0=some sv∧gf 1=some (.func (.func 125) [] [.ptr p 0])∧gf 7=some (.lit (.int .i64 w.length))∧gf 8=some (.lit (.int .i64 k))) (m0:=w.length) ?_ ?_
 ·exact ⟨0,Nat.zero_le _,rfl,rfl,⟨by simp⟩,by simp,by simp,by simp,by simp⟩
 rintro m gf H' ⟨k,hk,rfl,rfl,HPRE,w0,w1,w7,w8⟩ ih
 refine LX.roundP (noO_ok _ _) hG [] (by decide +kernel) ?_
 by_cases hlt:k < w.length
 ·have hltI:(k:Int) < (w.length:Int):=by omega
  obtain ⟨a2,off,ha2,hrow,hia⟩:=SliceV.ia (P:=Tryz.prog) HS.out hlt 1
  simp only [Nat.mul_one] at hia
  have hcell:=hrow.one (k:=k) (s:=1) (by rw [wdC_len]; exact hlt)
  rw [(List.getElem?_eq_some_iff.1 (wdC_at w k hlt)).2] at hcell
  have htk:w.take (k+1)=w.take k++[w[k]]:=by rw [List.take_succ,List.getElem?_eq_getElem hlt]; rfl
  have HT:=Hide.mk htk
  have HM:=Hide.mk (List.getElem_mem hlt)
  clear htk hrow ha2
  generalize w[k]=x at *
  have HC:=Hide.mk (wC2_w x q p g n HP.out hpn)
  iterate 6 (all_goals try (first | with_reducible refine splitI (fun h=>?_) (fun h=>?_) | with_reducible refine splitBI (fun h=>?_) (fun h=>?_) | simp (config:={ maxSteps:=1000000 }) (disch:=first | assumption | omega | (simp; done) | fail) [Tryz.results143, *]))
  refine WC.mono HC.out ?_
  rintro _ rfl
  by_cases hb:0≤x∧x < q
  ·have hd:decide (¬(0≤x∧x < q))=false:=decide_eq_false (by omega)
   rw [hd]
   have HB:=Hide.mk hb
   clear hb
   iterate 6 (all_goals try (first | with_reducible refine splitI (fun h=>?_) (fun h=>?_) | with_reducible refine splitBI (fun h=>?_) (fun h=>?_) | simp (config:={ maxSteps:=1000000 }) (disch:=first | assumption | omega | (simp; done) | fail) [Tryz.results143, *]))
   refine ih.out (w.length - (k+1)) _ _ (by omega) ⟨k+1,by omega,rfl,rfl,⟨fun i hi=>?_⟩,by simp [*],by simp [*],by simp [*],by simp⟩
   rw [HT.out] at hi
   rcases List.mem_append.1 hi with h | h
   ·exact HPRE.out i h
   ·rw [List.mem_singleton.1 h]; exact HB.out
  ·have hd:decide (¬(0≤x∧x < q))=true:=decide_eq_true hb
   rw [hd]
   have hr:ret=true:=by
    rw [HRET.out,Bool.not_eq_true',List.all_eq_false]
    exact ⟨x,HM.out,by simpa using hb⟩
   clear hb
   iterate 6 (all_goals try (first | with_reducible refine splitI (fun h=>?_) (fun h=>?_) | with_reducible refine splitBI (fun h=>?_) (fun h=>?_) | simp (config:={ maxSteps:=1000000 }) (disch:=first | assumption | omega | (simp; done) | fail) [Tryz.results143, *]))
 ·have hltI:¬(k:Int) < (w.length:Int):=by omega
  have hk2:k=w.length:=by omega
  have hr:ret=false:=by
   rw [HRET.out,Bool.not_eq_false',List.all_eq_true]
   intro i hi
   have:=HPRE.out i (by rw [hk2,List.take_length]; exact hi)
   simpa using this
  clear hk2
  iterate 6 (all_goals try (first | with_reducible refine splitI (fun h=>?_) (fun h=>?_) | with_reducible refine splitBI (fun h=>?_) (fun h=>?_) | simp (config:={ maxSteps:=1000000 }) (disch:=first | assumption | omega | (simp; done) | fail) [Tryz.results143, *]))
theorem cFunc2_w (w:List Int) (hwl:w.length≤1000000) (q:Int) (sv:AV) (p:Nat) (g:Nat→Option Blk) (n:Nat) (hp:g p=some (.cells [.lit (.int .i64 q)] true 0)) (hpn:p < n) (hsv:RepW g n w sv) :
  WC 0 Tryz.prog 124 [sv,.func (.func 125) [] [.ptr p 0]] ⟨.fn g,n⟩ fun r=>r=.ret (.lit (.bool (!(w.all fun i=>decide (0≤i∧i < q))))) ⟨.fn g,n⟩:=by
 have HI:=Hide.mk (iFunc2_w w hwl q sv p g n hp hpn hsv)
 clear hp hsv
 generalize (!(w.all fun i=>decide (0≤i∧i < q)))=bb at *
 refine WC.enterP (noO_ok _ _) hG [] Tryz.func124 rfl (by decide +kernel) (Nat.le_of_ble_eq_true (by kernel_rfl)) ?_
 iterate 6 (all_goals try (first | with_reducible refine splitI (fun h=>?_) (fun h=>?_) | with_reducible refine splitBI (fun h=>?_) (fun h=>?_) | simp (config:={ maxSteps:=1000000 }) (disch:=first | assumption | omega | (simp; done) | fail) [Tryz.results124, *]))
 refine WC.mono HI.out ?_
 rintro _ ⟨z,rfl,hz⟩
 cases bb with
 | true =>
  have hz1:0≤z:=of_decide_eq_true hz
  clear hz
  iterate 6 (all_goals try (first | with_reducible refine splitI (fun h=>?_) (fun h=>?_) | with_reducible refine splitBI (fun h=>?_) (fun h=>?_) | simp (config:={ maxSteps:=1000000 }) (disch:=first | assumption | omega | (simp; done) | fail) [Tryz.results124, *]))
 | false =>
  have hz1:¬0≤z:=of_decide_eq_false hz
  clear hz
  iterate 6 (all_goals try (first | with_reducible refine splitI (fun h=>?_) (fun h=>?_) | with_reducible refine splitBI (fun h=>?_) (fun h=>?_) | simp (config:={ maxSteps:=1000000 }) (disch:=first | assumption | omega | (simp; done) | fail) [Tryz.results124, *]))
def wErr (w:List Int) (q:Int) : Int:=if q > 16∨w.length > 256 then 3 else if q < 1∨inW w q=false then 1 else 0
theorem wCheck_w (w:List Int) (hwl:w.length≤1000000) (q:Int) (g:Nat→Option Blk) (n:Nat) (sv:AV) (hsv:RepW g n w sv) :
  WC 0 Tryz.prog 77 [sv,.lit (.int .i64 q)] ⟨.fn g,n⟩ fun r=>r=.ret (.lit (.int .i64 (wErr w q))) ⟨.fn g,n⟩:=by
 refine WC.drop1 rfl ?_
 have hlen:=@lenV Tryz.prog _ _ _ _ _ hsv
 have HS:=Hide.mk hsv
 clear hsv
 by_cases t1:q > 16
 ·have he:wErr w q=3:=by unfold wErr; rw [if_pos (.inl t1)]
  rw [he]
  refine WC.enterP (noO_ok _ _) hG [] Tryz.func77 rfl (by decide +kernel) (Nat.le_of_ble_eq_true (by kernel_rfl)) ?_
  iterate 6 (all_goals try (first | with_reducible refine splitI (fun h=>?_) (fun h=>?_) | with_reducible refine splitBI (fun h=>?_) (fun h=>?_) | simp (config:={ maxSteps:=1000000 }) (disch:=first | assumption | omega | (simp; done) | fail) [Tryz.results77, *]))
  all_goals exact ⟨Nat.le_succ n,fun b hb=>gput_lt hb⟩
 by_cases t2:w.length > 256
 ·have he:wErr w q=3:=by unfold wErr; rw [if_pos (.inr t2)]
  rw [he]
  have t2I:256 < (w.length:Int):=by omega
  refine WC.enterP (noO_ok _ _) hG [] Tryz.func77 rfl (by decide +kernel) (Nat.le_of_ble_eq_true (by kernel_rfl)) ?_
  iterate 6 (all_goals try (first | with_reducible refine splitI (fun h=>?_) (fun h=>?_) | with_reducible refine splitBI (fun h=>?_) (fun h=>?_) | simp (config:={ maxSteps:=1000000 }) (disch:=first | assumption | omega | (simp; done) | fail) [Tryz.results77, *]))
  all_goals exact ⟨Nat.le_succ n,fun b hb=>gput_lt hb⟩
 have t2I:¬256 < (w.length:Int):=by omega
 by_cases t3:q < 1
 ·have he:wErr w q=1:=by unfold wErr; rw [if_neg (by omega),if_pos (.inl t3)]
  rw [he]
  refine WC.enterP (noO_ok _ _) hG [] Tryz.func77 rfl (by decide +kernel) (Nat.le_of_ble_eq_true (by kernel_rfl)) ?_
  iterate 6 (all_goals try (first | with_reducible refine splitI (fun h=>?_) (fun h=>?_) | with_reducible refine splitBI (fun h=>?_) (fun h=>?_) | simp (config:={ maxSteps:=1000000 }) (disch:=first | assumption | omega | (simp; done) | fail) [Tryz.results77, *]))
  all_goals exact ⟨Nat.le_succ n,fun b hb=>gput_lt hb⟩
 have HC:=Hide.mk (cFunc2_w w hwl q sv n (gput g n (some (.cells [.lit (.int .i64 q)] true 0))) (n+1) gput_eq (by omega) (HS.out.mono (by omega) fun a ha=>gput_lt ha))
 have he:wErr w q=if inW w q=false then 1 else 0:=by
  unfold wErr; rw [if_neg (by omega)]
  by_cases h:inW w q=false
  ·rw [if_pos (.inr h),if_pos h]
  ·rw [if_neg (fun h2=>h2.elim t3 h),if_neg h]
 rw [he]
 clear he
 have hin:(w.all fun i=>decide (0≤i∧i < q))=inW w q:=rfl
 rw [hin] at HC
 clear hin
 generalize inW w q=bb at *
 refine WC.enterP (noO_ok _ _) hG [] Tryz.func77 rfl (by decide +kernel) (Nat.le_of_ble_eq_true (by kernel_rfl)) ?_
 iterate 6 (all_goals try (first | with_reducible refine splitI (fun h=>?_) (fun h=>?_) | with_reducible refine splitBI (fun h=>?_) (fun h=>?_) | simp (config:={ maxSteps:=1000000 }) (disch:=first | assumption | omega | (simp; done) | fail) [Tryz.results77, *]))
 refine WC.mono HC.out ?_
 rintro _ rfl
 cases bb
 all_goals
  iterate 6 (all_goals try (first | with_reducible refine splitI (fun h=>?_) (fun h=>?_) | with_reducible refine splitBI (fun h=>?_) (fun h=>?_) | simp (config:={ maxSteps:=1000000 }) (disch:=first | assumption | omega | (simp; done) | fail) [Tryz.results77, *]))
  all_goals exact ⟨Nat.le_succ n,fun b hb=>gput_lt hb⟩
end Go.Ai
end
section
namespace Go.Ai
open Go.Proofs
set_option maxRecDepth 10000
set_option maxHeartbeats 40000000
def u8C (bs:List Nat) : List AV:=bs.map fun (b:Nat)=>.lit (.int .u8 (b:Int))
def RepB (g:Nat→Option Blk) (n:Nat) (bs:List Nat) (sv:AV) : Prop:=SliceV g n sv bs.length (u8C bs)
theorem RepB.at {g:Nat→Option Blk} {n:Nat} {w:List Nat} {q1:AV} (h:RepB g n w q1) {k:Nat} (hk:k < w.length) : ∃ a off,a < n∧(∀ {H:Mem} {ev:Ev} {o:Oper} {t:TypeId},iaS Tryz.prog H ev o t (some (none,1)) (some q1) (some (.lit (.int .i64 (k:Int))))=.val (.ptr a (off+k)) H)∧loadB (some (false,1)) (g a) (off+k)=some (.lit (.int .u8 (w[k] : Nat))):=by
 obtain ⟨a2,off,ha2,hrow,hia⟩:=SliceV.ia (P:=Tryz.prog) h hk 1
 simp only [Nat.mul_one] at hia
 have hcell:=hrow.one (k:=k) (s:=1) (by unfold u8C; rw [List.length_map]; exact hk)
 rw [show (u8C w)[k]'(by unfold u8C; rw [List.length_map]; exact hk)=.lit (.int .u8 (w[k] : Nat)) by simp [u8C]] at hcell
 exact ⟨a2,off,ha2,hia,hcell⟩
def wordG (bs:List Nat) (I most:Nat) : List Int:=(bs.take most).map fun b=>((b % I:Nat) : Int)
end Go.Ai
end
section
namespace Go.Ai
open Go.Proofs
set_option maxRecDepth 10000
set_option maxHeartbeats 40000000
theorem SliceV.cell {g:Nat→Option Blk} {b len:Nat} {sv:AV} {cs:List AV} : SliceV g b sv len cs→cellsOf sv=[sv]:=by
 rintro (⟨_,_,rfl | rfl⟩ | ⟨a,off,_,⟨c,rfl⟩ | ⟨c,rfl⟩,_⟩) <;> rfl
def SafeW (g:Nat→Option Blk) (lo n B:Nat) (w:List Int) (sv:AV) : Prop:=∃ gk:Nat→Option Blk,(∀ a z,gk a=some z→g a=some z∧lo≤a∧a < n∧a≠B)∧RepW gk n w sv
theorem SafeW.rep {g:Nat→Option Blk} {lo n B:Nat} {w:List Int} {sv:AV} (h:SafeW g lo n B w sv) : RepW g n w sv :=
 let ⟨_,h1,h3⟩:=h; SliceV.ext (Nat.le_refl _) (fun a z _ hz=>(h1 a z hz).1) h3
theorem SafeW.keep {g g' : Nat→Option Blk} {lo lo' n n' B B' : Nat} {w:List Int} {sv:AV} (h:SafeW g lo n B w sv) (h0:lo'≤lo) (h2:n≤n') (hB:n≤B'∨B'=B∨B' < lo) (hg:∀ a,lo≤a→a < n→a≠B→g' a=g a) : SafeW g' lo' n' B' w sv:=by
 obtain ⟨gk,h1,h3⟩:=h
 refine ⟨gk,fun a z hz=>?_,SliceV.ext h2 (fun a z _ hz=>hz) h3⟩
 obtain ⟨e1,e2,e3,e4⟩:=h1 a z hz
 exact ⟨(hg a e2 e3 e4).trans e1,by omega,by omega,by omega⟩
theorem FreshW.safe {g g' : Nat→Option Blk} {lo lo' n n' B:Nat} {w:List Int} {sv:AV} (h:FreshW g lo n w sv) (h0:lo'≤lo) (h2:n≤n') (hB:n≤B∨B < lo) (hg:∀ a,lo≤a→a < n→g' a=g a) : SafeW g' lo' n' B w sv:=by
 obtain ⟨gk,h1,h3⟩:=h
 refine ⟨gk,fun a z hz=>?_,SliceV.ext h2 (fun a z _ hz=>hz) h3⟩
 obtain ⟨e1,e2,e3⟩:=h1 a z hz
 exact ⟨(hg a e2 e3).trans e1,by omega,by omega,by omega⟩
def RowsF (g:Nat→Option Blk) (lo n B:Nat) (ts:List (List Int×List Int)) (cs:List AV) : Prop :=
 cs.length=ts.length * 2∧∀ (k:Nat) (h:k < ts.length),∃ s1 s2,cs[k * 2]?=some s1∧cs[k * 2+1]?=some s2∧SafeW g lo n B ts[k].1 s1∧SafeW g lo n B ts[k].2 s2
theorem RowsF.keep {g g' : Nat→Option Blk} {lo lo' n n' B B' : Nat} {ts:List (List Int×List Int)} {cs:List AV} (h:RowsF g lo n B ts cs) (h0:lo'≤lo) (h2:n≤n') (hB:n≤B'∨B'=B∨B' < lo) (hg:∀ a,lo≤a→a < n→a≠B→g' a=g a) : RowsF g' lo' n' B' ts cs :=
 ⟨h.1,fun k hk=>let ⟨s1,s2,h1,h3,h4,h5⟩:=h.2 k hk; ⟨s1,s2,h1,h3,h4.keep h0 h2 hB hg,h5.keep h0 h2 hB hg⟩⟩
theorem RowsF.nil {g:Nat→Option Blk} {lo n B:Nat} : RowsF g lo n B [] []:=⟨rfl,fun k hk=>by cases hk⟩
theorem RowsF.snoc {g:Nat→Option Blk} {lo n B:Nat} {ts:List (List Int×List Int)} {cs:List AV} (h:RowsF g lo n B ts cs) {t:List Int×List Int} {s1 s2:AV} (h1:SafeW g lo n B t.1 s1) (h2:SafeW g lo n B t.2 s2) : RowsF g lo n B (ts++[t]) (cs++[s1,s2]):=by
 have hl:=h.1
 refine ⟨by simp [hl]; omega,fun k hk=>?_⟩
 rw [List.length_append,List.length_singleton] at hk
 by_cases hlt:k < ts.length
 ·obtain ⟨t1,t2,e1,e2,e3,e4⟩:=h.2 k hlt
  refine ⟨t1,t2,?_,?_,?_,?_⟩
  ·rw [List.getElem?_append_left (by omega)]; exact e1
  ·rw [List.getElem?_append_left (by omega)]; exact e2
  ·rw [List.getElem_append_left hlt]; exact e3
  ·rw [List.getElem_append_left hlt]; exact e4
 ·have hk2:k=ts.length:=by omega
  subst hk2
  refine ⟨s1,s2,?_,?_,?_,?_⟩
  ·rw [List.getElem?_append_right (by omega),hl,Nat.sub_self]; rfl
  ·rw [List.getElem?_append_right (by omega),hl,show ts.length * 2+1 - ts.length * 2=1 by omega]; rfl
  ·simpa using h1
  ·simpa using h2
theorem RowsF.rows {g:Nat→Option Blk} {lo n B:Nat} {ts:List (List Int×List Int)} {cs:List AV} (h:RowsF g lo n B ts cs) : RowsT g n ts cs :=
 ⟨h.1,fun k hk=>let ⟨s1,s2,h1,h3,h4,h5⟩:=h.2 k hk; ⟨s1,s2,h1,h3,h4.rep,h5.rep⟩⟩
def LogF (g:Nat→Option Blk) (lo n B:Nat) (ts:List (List Int×List Int)) (sv:AV) : Prop:=∃ cs,GrowV g lo n B sv ts.length 2 cs∧RowsF g lo n B ts cs
theorem LogF.keep {g g' : Nat→Option Blk} {lo lo' n n' B:Nat} {ts:List (List Int×List Int)} {sv:AV} (h:LogF g lo n B ts sv) (h0:lo'≤lo) (h2:n≤n') (hg:∀ a,lo≤a→a < n→g' a=g a) : LogF g' lo' n' B ts sv:=by
 obtain ⟨cs,h1,h3⟩:=h
 refine ⟨cs,?_,h3.keep h0 h2 (.inr (.inl rfl)) fun a h4 h5 _=>hg a h4 h5⟩
 rcases h1 with h1 | ⟨k1,k2,k3,k4,k5,k6⟩
 ·exact .inl h1
 ·exact .inr ⟨k1,k2,by omega,by omega,(hg B k3 k4).trans k5,k6⟩
theorem LogF.one {g:Nat→Option Blk} {lo n B:Nat} {ts:List (List Int×List Int)} {sv:AV} (h:LogF g lo n B ts sv) : oneC sv=true:=let ⟨_,h1,_⟩:=h; h1.one
def ListB (g:Nat→Option Blk) (n:Nat) (l:List (List Nat)) (wv:AV) : Prop:=∃ svs,SliceV g n wv l.length svs∧svs.length=l.length∧∀ (k:Nat) (h:k < l.length),∃ sv,svs[k]?=some sv∧RepB g n l[k] sv
theorem ListB.mono {g g' : Nat→Option Blk} {n n' : Nat} {l:List (List Nat)} {wv:AV} (h:ListB g n l wv) (hn:n≤n') (hg:∀ a,a < n→g' a=g a) : ListB g' n' l wv :=
 let ⟨svs,h1,h2,h3⟩:=h; ⟨svs,h1.mono hn hg,h2,fun k hk=>let ⟨sv,e1,e2⟩:=h3 k hk; ⟨sv,e1,SliceV.mono hn hg e2⟩⟩
theorem ListB.at {g:Nat→Option Blk} {n:Nat} {l:List (List Nat)} {wv:AV} (h:ListB g n l wv) {k:Nat} (hk:k < l.length) : ∃ a off q,a < n∧(∀ {H:Mem} {ev:Ev} {o:Oper} {t:TypeId},iaS Tryz.prog H ev o t (some (none,1)) (some wv) (some (.lit (.int .i64 (k:Int))))=.val (.ptr a (off+k)) H)∧loadB (some (false,1)) (g a) (off+k)=some q∧RepB g n l[k] q:=by
 obtain ⟨svs,h1,h2,h3⟩:=h
 obtain ⟨q,e1,e2⟩:=h3 k hk
 obtain ⟨a,off,ha,hrow,hia⟩:=h1.ia (P:=Tryz.prog) hk 1
 simp only [Nat.mul_one] at hia
 have hc:=hrow.one (k:=k) (s:=1) (by omega)
 rw [(List.getElem?_eq_some_iff.1 e1).2] at hc
 exact ⟨a,off,q,ha,hia,hc,e2⟩
def oneM (M:MachM) (b:List Nat) : List Int×List Int:=(wordG b M.inp.toNat 10,runM M 0 (wordG b M.inp.toNat 10))
def runsM (M:MachM) (ws:List (List Nat)) : List (List Int×List Int):=(ws.take 12).map (oneM M)
theorem wordG_in {b:List Nat} {I:Int} {m:Nat} (h0:1≤I) : inW (wordG b I.toNat m) I=true:=by
 unfold inW wordG
 rw [List.all_eq_true]
 intro x hx
 obtain ⟨y,_,rfl⟩:=List.mem_map.1 hx
 have:=Nat.mod_lt y (show 0 < I.toNat by omega)
 exact decide_eq_true (by omega)
theorem wordG_len {b:List Nat} {I m:Nat} : (wordG b I m).length≤m:=by
 unfold wordG; rw [List.length_map,List.length_take]; omega
structure InG (g:Nat→Option Blk) (n:Nat) (st inp out:Nat) (es:List Nat) (ev:AV) (ws:List (List Nat)) (wv:AV) : Prop where
 b0:st < 256
 b1:inp < 256
 b2:out < 256
 se:SliceA g n ev es.length (u16Cells es)
 eb:∀ c∈es,c < 65536
 sw:ListB g n ws wv
 wb:∀ w∈ws,∀ b∈w,b < 256
theorem InG.mono {g g' : Nat→Option Blk} {n n' st inp out:Nat} {es:List Nat} {ev:AV} {ws:List (List Nat)} {wv:AV} (h:InG g n st inp out es ev ws wv) (hn:n≤n') (hg:∀ a,a < n→g' a=g a) : InG g' n' st inp out es ev ws wv :=
 ⟨h.b0,h.b1,h.b2,h.se.mono hn hg,h.eb,h.sw.mono hn hg,h.wb⟩
end Go.Ai
end
section
namespace Go.Ai
open Go.Proofs
set_option maxRecDepth 10000
theorem okR_cons {O:Int} {p:Bool} {o:Int} {r:List Int} (h1 : -1≤o) (h2:o < O) (h3:p=true→o = -1) (h4:okR O (decide (o = -1)) r=true) : okR O p (o :: r)=true:=by
 show (!(decide (o < -1) || (decide (O≤o) || (p && decide (¬o = -1)))) && okR O (decide (o = -1)) r)=true
 rw [decide_eq_false (by omega),decide_eq_false (by omega),h4]
 cases p with
 | false=>rfl
 | true=>rw [decide_eq_false (by simp [h3 rfl])]; rfl
theorem okR_inv {O:Int} {p:Bool} {o:Int} {r:List Int} (h:okR O p (o :: r)=true) : -1≤o∧o < O∧(p=true→o = -1)∧okR O (decide (o = -1)) r=true:=by
 have h' : (!(decide (o < -1) || (decide (O≤o) || (p && decide (¬o = -1)))) && okR O (decide (o = -1)) r)=true:=h
 rw [Bool.and_eq_true,Bool.not_eq_true',Bool.or_eq_false_iff,Bool.or_eq_false_iff] at h'
 obtain ⟨⟨h1,h2,h3⟩,h4⟩:=h'
 have h1:=of_decide_eq_false h1
 have h2:=of_decide_eq_false h2
 refine ⟨by omega,by omega,fun hp=>?_,h4⟩
 rw [hp,Bool.true_and] at h3
 have h3:=of_decide_eq_false h3
 omega
theorem okR_run {M:MachM} (hM:M.ok) : ∀ (w:List Int) (s:Int) (p:Bool),stOK M s→(p=true→s = -1)→inW w M.inp=true→okR M.out p (runM M s w)=true
 | [],_,_,_,_,_=>rfl
 | i :: w,s,p,hs,hp,hw=>by
  unfold inW at hw
  rw [List.all_cons,Bool.and_eq_true] at hw
  have hi:=of_decide_eq_true hw.1
  have he:=edgeOK_st (nextM_ok hM hs hi.1 hi.2)
  have hO:=hM.2.2.1
  show okR M.out p ((nextM M s i).2 :: runM M (nextM M s i).1 w)=true
  refine okR_cons he.2.1 (by rcases he.2.2.1 with h | h <;> omega) (fun h=>?_) (okR_run hM w _ _ he.1 (fun h=>he.2.2.2 (of_decide_eq_true h)) hw.2)
  rw [nextM_neg (by rw [hp h]; decide)]
theorem okR_at {O:Int} : ∀ (r:List Int) (k:Nat) (p:Bool),okR O p r=true→k < r.length → -1≤r.getD k 0∧r.getD k 0 < O
 | [],_,_,_,hk=>by cases hk
 | o :: r,0,p,h,_=>by obtain ⟨h1,h2,_,_⟩:=okR_inv h; exact ⟨h1,h2⟩
 | o :: r,k+1,p,h,hk=>by obtain ⟨_,_,_,h4⟩:=okR_inv h; exact okR_at r k _ h4 (by simpa using hk)
structure LogOK (I O:Int) (ts:List (List Int×List Int)) : Prop where
 len:ts.length≤200
 i1:1≤I
 i2:I≤16
 o1:1≤O
 o2:O≤16
 wl:∀ t∈ts,t.1.length≤256
 ok:∀ t∈ts,validB I O t=true
theorem LogOK.small {I O:Int} {ts:List (List Int×List Int)} (h:LogOK I O ts) : SmallL ts:=by
 refine ⟨h.len,fun t ht=>by have:=h.wl t ht; omega,fun t ht=>?_⟩
 have h1:=h.ok t ht
 unfold validB at h1
 rw [Bool.and_eq_true,Bool.and_eq_true] at h1
 have h2:=of_decide_eq_true h1.1.1
 have:=h.wl t ht
 omega
theorem LogOK.err {I O:Int} {ts:List (List Int×List Int)} (h:LogOK I O ts) : logErr I O ts=0:=by
 have h1:=h.i1; have h2:=h.i2; have h3:=h.o1; have h4:=h.o2
 unfold logErr
 have e:withinB I O ts=true:=by
  unfold withinB
  rw [decide_eq_true h2,decide_eq_true h4,Bool.and_true,Bool.and_true,List.all_eq_true]
  intro t ht
  have:=h.wl t ht
  exact decide_eq_true (by omega)
 rw [e,if_neg (by decide),if_neg (by omega),if_pos]
 rw [List.all_eq_true]
 exact h.ok
theorem LogOK.lens {I O:Int} {ts:List (List Int×List Int)} (h:LogOK I O ts) {t:List Int×List Int} (ht:t∈ts) : t.2.length=t.1.length∧inW t.1 I=true∧okR O false t.2=true:=by
 have h1:=h.ok t ht
 unfold validB at h1
 rw [Bool.and_eq_true,Bool.and_eq_true] at h1
 exact ⟨of_decide_eq_true h1.1.1,h1.1.2,h1.2⟩
theorem validB_of {I O:Int} {t:List Int×List Int} (h1:t.2.length=t.1.length) (h2:inW t.1 I=true) (h3:okR O false t.2=true) : validB I O t=true:=by
 unfold validB; rw [decide_eq_true h1,h2,h3]; rfl
theorem LogOK.set {I O:Int} {ts:List (List Int×List Int)} (h:LogOK I O ts) {i:Nat} {t:List Int×List Int} (h1:t.1.length≤256) (h2:validB I O t=true) : LogOK I O (ts.set i t) :=
 ⟨by rw [List.length_set]; exact h.len,h.i1,h.i2,h.o1,h.o2,fun u hu=>by rcases List.mem_or_eq_of_mem_set hu with h3 | rfl; exact h.wl u h3; exact h1,fun u hu=>by rcases List.mem_or_eq_of_mem_set hu with h3 | rfl; exact h.ok u h3; exact h2⟩
theorem getD_mem {α:Type} {l:List α} {k:Nat} {d:α} (h:k < l.length) : l.getD k d∈l∧l.getD k d=l[k]:=by
 have:l.getD k d=l[k]:=by rw [List.getD_eq_getElem?_getD,List.getElem?_eq_getElem h]; rfl
 exact ⟨this ▸ List.getElem_mem h,this⟩
def stepL:List Int→List Int→List Int→List Int→Nat→Option Nat
 | i :: x,a :: r,j :: y,b :: s,k=>if i=j then (if a=b then stepL x r y s (k+1) else some k) else none
 | _,_,_,_,_=>none
def conA (t:List Int×List Int) : List (List Int×List Int)→Nat→Option (Nat×Nat)
 | [],_=>none
 | u :: us,a=>match stepL u.1 u.2 t.1 t.2 0 with
  | some k=>some (a,k)
  | none=>conA t us (a+1)
def conB (ts:List (List Int×List Int)) : List (List Int×List Int)→Nat→Option (Nat×Nat×Nat)
 | [],_=>none
 | t :: us,b=>match conA t (ts.take b) 0 with
  | some (a,k)=>some (a,b,k)
  | none=>conB ts us (b+1)
theorem stepL_run {M:MachM} : ∀ (w v:List Int) (s:Int) (k:Nat),stepL w (runM M s w) v (runM M s v) k=none
 | [],_,_,_=>rfl
 | _ :: _,[],_,_=>rfl
 | i :: w,j :: v,s,k=>by
  show (if i=j then (if (nextM M s i).2=(nextM M s j).2 then _ else _) else none)=none
  by_cases h:i=j
  ·subst h
   rw [if_pos rfl,if_pos rfl]
   exact stepL_run w v _ _
  ·rw [if_neg h]
theorem conA_run {M:MachM} {t:List Int×List Int} (ht:t.2=runM M 0 t.1) : ∀ (us:List (List Int×List Int)) (a:Nat),(∀ u∈us,u.2=runM M 0 u.1)→conA t us a=none
 | [],_,_=>rfl
 | u :: us,a,h=>by
  unfold conA
  rw [h u (by simp),ht,stepL_run]
  exact conA_run ht us _ fun v hv=>h v (by simp [hv])
theorem conB_run {M:MachM} {ts:List (List Int×List Int)} (h:∀ u∈ts,u.2=runM M 0 u.1) : ∀ (us:List (List Int×List Int)) (b:Nat),(∀ u∈us,u.2=runM M 0 u.1)→conB ts us b=none
 | [],_,_=>rfl
 | t :: us,b,h2=>by
  unfold conB
  rw [conA_run (h2 t (by simp)) _ _ fun u hu=>h u (List.mem_of_mem_take hu)]
  exact conB_run h us _ fun v hv=>h2 v (by simp [hv])
end Go.Ai
end
section
namespace Go.Ai
open Go.Proofs
set_option maxRecDepth 10000
set_option maxHeartbeats 40000000
end Go.Ai
end
section
namespace Go.Ai
open Go.Proofs
set_option maxRecDepth 10000
set_option maxHeartbeats 40000000
end Go.Ai
end
section
namespace Go.Ai
open Go.Proofs
set_option maxRecDepth 10000
set_option maxHeartbeats 40000000
theorem SliceV.cut {g:Nat→Option Blk} {b len:Nat} {sv:AV} {cs:List AV} (h:SliceV g b sv len cs) (hc:CapV sv) {t:TypeId} (he:(elSz Tryz.prog t).map (·.1)=some none) {k sz:Nat} (hk:k≤len) (h0:0 < len) :
  ∃ sv',(∀ {H:Mem} {ev:Ev} {d:Option Tmp} {ty:TypeId} {p:String} {af:Array Edge} {gd:Option (Nat×Bool)} {x hi:Operand} {hx:ev x=some sv} {hh:ev hi=some (.lit (.int .i64 (k:Int)))},
   ex2 Tryz.prog H ev ⟨d,.slice t x none (some hi) none,ty,p,af,gd⟩ x hi (some sv) (some (.lit (.int .i64 (k:Int)))) hx hh=.val sv' H)∧SliceV g b sv' k (cs.take (k * sz)):=by
 rcases h with ⟨h1,_⟩ | ⟨a,off,ha,⟨c,rfl⟩ | ⟨c,rfl⟩,hrow⟩
 ·omega
 ·have hcc:=hc _ _ _ _ rfl
  refine ⟨.sl a off k c,?_,.inr ⟨a,off,ha,.inl ⟨c,rfl⟩,hrow.takes _⟩⟩
  intro H ev d ty p af gd x hi hx hh
  rw [slice_sl_hi he (by omega) (by omega) (by omega)]
  simp
 ·refine ⟨.slq a off k c,?_,.inr ⟨a,off,ha,.inr ⟨c,rfl⟩,hrow.takes _⟩⟩
  intro H ev d ty p af gd x hi hx hh
  rw [slice_slq_hi he (by omega) (by omega) (by omega)]
  simp
theorem el22:(elSz Tryz.prog 52).map (·.1)=some none:=by kernel_rfl
theorem LogR.cut {g:Nat→Option Blk} {n:Nat} {ts:List (List Int×List Int)} {sv:AV} (h:LogR g n ts sv) (hc:CapV sv) {k:Nat} (hk:k≤ts.length) (h0:0 < ts.length) :
  ∃ sv',(∀ {H:Mem} {ev:Ev} {d:Option Tmp} {ty:TypeId} {p:String} {af:Array Edge} {gd:Option (Nat×Bool)} {x hi:Operand} {hx:ev x=some sv} {hh:ev hi=some (.lit (.int .i64 (k:Int)))},
   ex2 Tryz.prog H ev ⟨d,.slice 52 x none (some hi) none,ty,p,af,gd⟩ x hi (some sv) (some (.lit (.int .i64 (k:Int)))) hx hh=.val sv' H)∧LogR g n (ts.take k) sv':=by
 obtain ⟨cs,h1,h2⟩:=h
 obtain ⟨sv',h3,h4⟩:=h1.cut hc el22 (sz:=2) hk h0
 refine ⟨sv',h3,cs.take (k * 2),by rw [List.length_take,Nat.min_eq_left hk]; exact h4,?_,fun j hj=>?_⟩
 ·rw [List.length_take,List.length_take,h2.1]; omega
 ·have hj2:j < k∧j < ts.length:=by rw [List.length_take] at hj; omega
  obtain ⟨s1,s2,e1,e2,e3,e4⟩:=h2.2 j hj2.2
  exact ⟨s1,s2,by rw [List.getElem?_take,if_pos (by omega)]; exact e1,by rw [List.getElem?_take,if_pos (by omega)]; exact e2,by rw [List.getElem_take]; exact e3,by rw [List.getElem_take]; exact e4⟩
end Go.Ai
end
section
namespace Go.Ai
open Go.Proofs
set_option maxRecDepth 10000
set_option maxHeartbeats 40000000
theorem sl57:sliceT Tryz.prog 65=true:=by kernel_rfl
theorem equal57nil:pureV Tryz.prog (Op.equal 65 (.slice none 0 0) (.slice none 0 0))=some true:=by kernel_rfl
theorem bin57nil {H:Mem} {ev:Ev} {d:Option Tmp} {ty rt:TypeId} {p:String} {af:Array Edge} {g:Option (Nat×Bool)} {x:Operand} (hx:ev x=some (.lit (.slice none 0 0))) (hy:ev (.const (.slice none 0 0))=some (.lit (.slice none 0 0))) :
  binS Tryz.prog H ev ⟨d,.binOp .eql 65 x (.const (.slice none 0 0)) rt,ty,p,af,g⟩ .eql 65 (some (.lit (.slice none 0 0))) (some (.lit (.slice none 0 0)))=.val (.lit (.bool true)) H:=by
 show oBin Tryz.prog H ev ⟨d,.binOp .eql 65 x (.const (.slice none 0 0)) rt,ty,p,af,g⟩ .eql 65 (some (.lit (.slice none 0 0))) (some (.lit (.slice none 0 0)))=_
 refine oBin_generic rfl ?_
 have h1:(Op.operands (.binOp .eql 65 x (.const (.slice none 0 0)) rt)).toList=[x,.const (.slice none 0 0)]:=rfl
 unfold generic
 dsimp only
 rw [h1]
 have l1:toLit (.lit (.slice none 0 0))=some (.slice none 0 0):=rfl
 simp only [List.all_cons,List.all_nil,hx,hy,l1,Bool.and_true,if_true]
 have h2:∀ ρ:Operand→Value,ρ x=.slice none 0 0→ρ (.const (.slice none 0 0))=.slice none 0 0→pureV Tryz.prog (execOp ρ ⟨d,.binOp .eql 65 x (.const (.slice none 0 0)) rt,ty,p,af,g⟩)=some (.value (.bool true)):=by
  intro ρ e1 e2
  refine execOp_bin e1 e2 ?_ ?_
  ·unfold eqGuard; kernel_rfl
  ·show pureV Tryz.prog (do pure (Value.bool (← Op.equal 65 _ _)))=_
   exact (pureV_then equal57nil).trans rfl
 rw [h2 _ (by simp only [hx,l1]) (by simp only [hy,l1])]
attribute [simp] sl57 bin57nil
def CloneV (g:Nat→Option Blk) (lo n:Nat) (w:List Int) (sv:AV) : Prop :=
 (w=[]∧(sv=.lit (.slice none 0 0)∨∃ m,lo≤m∧m < n∧sv=.sl m 0 0 0∧g m=some (.cells [] true 0)))∨(0 < w.length∧∃ m,lo≤m∧m < n∧sv=.slq m 0 w.length 0∧g m=some (.cells (wdC w) true 1))
theorem Clone_w (w:List Int) (hwl:w.length≤1000000) (g:Nat→Option Blk) (n:Nat) (sv:AV) (hv:RepW g n w sv) :
  WC 0 Tryz.prog 94 [sv] ⟨.fn g,n⟩ fun r=>∃ sv' g' n',r=.ret sv' ⟨.fn g',n'⟩∧n≤n'∧(∀ b,b < n→g' b=g b)∧CloneV g' n n' w sv':=by
 have hcase:(w=[]∧sv=.lit (.slice none 0 0))∨((∃ a o k c,sv=.sl a o k c)∨(∃ a o k c,sv=.slq a o k c)∨sv=.es):=by
  rcases hv with ⟨h1,_,rfl | rfl⟩ | ⟨a,off,_,⟨c,rfl⟩ | ⟨c,rfl⟩,_⟩
  ·exact .inl ⟨List.length_eq_zero_iff.1 h1,rfl⟩
  ·exact .inr (.inr (.inr rfl))
  ·exact .inr (.inl ⟨_,_,_,_,rfl⟩)
  ·exact .inr (.inr (.inl ⟨_,_,_,_,rfl⟩))
 rcases hcase with ⟨hw,rfl⟩ | hne
 ·subst hw
  clear hv
  refine WC.enterP (noO_ok _ _) hG [] Tryz.func94 rfl (by decide +kernel) (Nat.le_of_ble_eq_true (by kernel_rfl)) ?_
  iterate 8 (all_goals try (first | with_reducible refine splitI (fun h=>?_) (fun h=>?_) | with_reducible refine splitBI (fun h=>?_) (fun h=>?_) | simp (config:={ maxSteps:=1000000 }) (disch:=first | assumption | omega | (simp; done) | fail) [Tryz.results94, *]))
  refine ⟨_,_,_,⟨rfl,rfl,rfl⟩,Nat.le_refl _,fun b hb=>rfl,.inl ⟨rfl,.inl rfl⟩⟩
 ·by_cases hl:w.length=0
  ·have hw:w=[]:=List.length_eq_zero_iff.1 hl
   subst hw
   have hap:=fun {H:Mem} {ev:Ev} {d:Option Tmp} {ty:TypeId} {p:String} {af:Array Edge} {gd:Option (Nat×Bool)} {x y:Operand} {s t:TypeId} {a off:Nat} {hx:ev x=some (.sl a off 0 0)} {hy:ev y=some sv} (hp:(apI Tryz.prog s t).isSome=true)=>SliceV.ap00 (P:=Tryz.prog) hv (H:=H) (ev:=ev) (d:=d) (ty:=ty) (p:=p) (af:=af) (gd:=gd) (x:=x) (y:=y) (a:=a) (off:=off) (hx:=hx) (hy:=hy) hp
   clear hv
   rcases hne with ⟨a,o,k,c,rfl⟩ | ⟨a,o,k,c,rfl⟩ | rfl
   all_goals
    refine WC.enterP (noO_ok _ _) hG [] Tryz.func94 rfl (by decide +kernel) (Nat.le_of_ble_eq_true (by kernel_rfl)) ?_
    iterate 8 (all_goals try (first | with_reducible refine splitI (fun h=>?_) (fun h=>?_) | with_reducible refine splitBI (fun h=>?_) (fun h=>?_) | simp (config:={ maxSteps:=1000000 }) (disch:=first | assumption | omega | (simp; done) | fail) [Tryz.results94, *]))
    refine ⟨_,_,_,⟨rfl,rfl,rfl⟩,by omega,fun b hb=>?_,.inl ⟨rfl,.inr ⟨n,Nat.le_refl _,by omega,rfl,gput_eq⟩⟩⟩
    exact gput_lt hb
  ·obtain ⟨a2,blk,ha2,hga2,hap⟩:=SliceV.ap0 (P:=Tryz.prog) (sz:=1) hv (by omega) (by omega) (by rw [wdC_len]; omega)
   clear hv
   have hl0:0 < w.length:=by omega
   rcases hne with ⟨a,o,k,c,rfl⟩ | ⟨a,o,k,c,rfl⟩ | rfl
   all_goals
    refine WC.enterP (noO_ok _ _) hG [] Tryz.func94 rfl (by decide +kernel) (Nat.le_of_ble_eq_true (by kernel_rfl)) ?_
    iterate 8 (all_goals try (first | with_reducible refine splitI (fun h=>?_) (fun h=>?_) | with_reducible refine splitBI (fun h=>?_) (fun h=>?_) | simp (config:={ maxSteps:=1000000 }) (disch:=first | assumption | omega | (simp; done) | fail) [Tryz.results94, *]))
    refine ⟨_,_,_,⟨rfl,rfl,rfl⟩,by omega,fun b hb=>?_,.inr ⟨hl0,n+1,by omega,by omega,rfl,gput_eq⟩⟩
    simp (disch:=omega) only [gput_lt]
end Go.Ai
end
section
namespace Go.Ai
open Go.Proofs
set_option maxRecDepth 10000
set_option maxHeartbeats 40000000
def ListV (g:Nat→Option Blk) (n:Nat) (l:List (List Int)) (lv:AV) : Prop:=∃ svs,SliceV g n lv l.length svs∧RowsW g n l svs
theorem ListV.mono {g g' : Nat→Option Blk} {n n' : Nat} {l:List (List Int)} {lv:AV} (h:ListV g n l lv) (hn:n≤n') (hg:∀ a,a < n→g' a=g a) : ListV g' n' l lv :=
 let ⟨svs,h1,h2⟩:=h; ⟨svs,h1.mono hn hg,h2.ext hn fun a x ha hx=>(hg a ha).trans hx⟩
theorem ListV.at {g:Nat→Option Blk} {n:Nat} {l:List (List Int)} {lv:AV} (h:ListV g n l lv) {k:Nat} (hk:k < l.length) : ∃ a off q,a < n∧(∀ {H:Mem} {ev:Ev} {o:Oper} {t:TypeId},iaS Tryz.prog H ev o t (some (none,1)) (some lv) (some (.lit (.int .i64 (k:Int))))=.val (.ptr a (off+k)) H)∧loadB (some (false,1)) (g a) (off+k)=some q∧RepW g n l[k] q:=by
 obtain ⟨svs,h1,h2,h3⟩:=h
 obtain ⟨q,e1,e2⟩:=h3 k hk
 obtain ⟨a,off,ha,hrow,hia⟩:=h1.ia (P:=Tryz.prog) hk 1
 simp only [Nat.mul_one] at hia
 have hc:=hrow.one (k:=k) (s:=1) (by omega)
 rw [(List.getElem?_eq_some_iff.1 e1).2] at hc
 exact ⟨a,off,q,ha,hia,hc,e2⟩
theorem el93:(elSz Tryz.prog 22).map (·.1)=some none:=by kernel_rfl
theorem ListV.cut {g:Nat→Option Blk} {n:Nat} {l:List (List Int)} {lv:AV} (h:ListV g n l lv) (hc:CapV lv) :
  ∃ sv',(∀ {H:Mem} {ev:Ev} {d:Option Tmp} {ty:TypeId} {p:String} {af:Array Edge} {gd:Option (Nat×Bool)} {x hi:Operand} {hx:ev x=some lv} {hh:ev hi=some (.lit (.int .i64 (l.length:Int)))},
   ex2 Tryz.prog H ev ⟨d,.slice 22 x none (some hi) none,ty,p,af,gd⟩ x hi (some lv) (some (.lit (.int .i64 (l.length:Int)))) hx hh=.val sv' H)∧ListV g n l sv':=by
 obtain ⟨svs,h1,h2⟩:=h
 obtain ⟨sv',h3,h4,_⟩:=SliceV.cutP (P:=Tryz.prog) h1 hc el93 (k:=l.length) (sz:=1) (Nat.le_refl _)
 refine ⟨sv',h3,svs,?_,h2⟩
 rw [Nat.mul_one,← h2.1,List.take_length] at h4
 rw [h2.1] at h4
 exact h4
theorem RepW.safe {g g' : Nat→Option Blk} {n n' B:Nat} {w:List Int} {sv:AV} (h:RepW g n w sv) (hn:n≤n') (hB:n≤B) (hg:∀ a,a < n→g' a=g a) : SafeW g' 0 n' B w sv :=
 ⟨fun a=>if a < n then g a else none,⟨fun a z hz=>(by
  have hz' : (if a < n then g a else none)=some z:=hz
  split at hz'
  ·rename_i h4; exact ⟨(hg a h4).trans hz',Nat.zero_le _,by omega,by omega⟩
  ·cases hz'),SliceV.ext hn (fun a x ha hx=>(if_pos ha).trans hx) h⟩⟩
theorem SafeW.nil {g:Nat→Option Blk} {lo n B:Nat} : SafeW g lo n B [] (.lit (.slice none 0 0)):=⟨fun _=>none,fun a z h=>(by cases h),.inl ⟨rfl,rfl,.inl rfl⟩⟩
structure RoomT (g:Nat→Option Blk) (n B c k:Nat) (ts:List (List Int×List Int)) (R:List AV) : Prop where
 blk:g B=some (.cells R true 0)
 len:R.length=c * 2
 kl:k≤c
 rows:RowsF g 0 n B ts (R.take (k * 2))
 tl:ts.length=k
theorem RowsF.upd {g:Nat→Option Blk} {lo n B:Nat} {ts:List (List Int×List Int)} {cs cs' : List AV} (h:RowsF g lo n B ts cs) {i:Nat} {t:List Int×List Int} {s1 s2:AV} (hl:cs'.length=cs.length) (h1:cs'[i * 2]?=some s1) (h2:cs'[i * 2+1]?=some s2) (ho:∀ j,j≠i * 2→j≠i * 2+1→cs'[j]?=cs[j]?) (w1:SafeW g lo n B t.1 s1) (w2:SafeW g lo n B t.2 s2) : RowsF g lo n B (ts.set i t) cs':=by
 refine ⟨by rw [hl,List.length_set]; exact h.1,fun k hk=>?_⟩
 rw [List.length_set] at hk
 by_cases hki:i=k
 ·subst hki
  exact ⟨s1,s2,h1,h2,by simpa using w1,by simpa using w2⟩
 ·obtain ⟨r1,r2,e1,e2,e3,e4⟩:=h.2 k hk
  exact ⟨r1,r2,(ho _ (by omega) (by omega)).trans e1,(ho _ (by omega) (by omega)).trans e2,by rw [List.getElem_set_ne hki]; exact e3,by rw [List.getElem_set_ne hki]; exact e4⟩
theorem SafeW.sl {g:Nat→Option Blk} {lo n B m len c:Nat} {w:List Int} {own:Bool} {z:Nat} (h:g m=some (.cells (wdC w) own z)) (hl:len=w.length) (h1:lo≤m) (h2:m < n) (h3:m≠B) : SafeW g lo n B w (.sl m 0 len c):=by
 subst hl
 exact ⟨fun a=>if a=m then g a else none,⟨fun a z hz=>(by
  have hz' : (if a=m then g a else none)=some z:=hz
  split at hz'
  ·rename_i h4; subst h4; exact ⟨hz',h1,h2,h3⟩
  ·cases hz'),.inr ⟨m,0,h2,.inl ⟨c,rfl⟩,wdC w,own,z,(if_pos rfl).trans h,by simp,by simp⟩⟩⟩
theorem CloneV.keep {g g' : Nat→Option Blk} {lo n:Nat} {w:List Int} {sv:AV} (h:CloneV g lo n w sv) (hg:∀ a,lo≤a→a < n→g' a=g a) : CloneV g' lo n w sv:=by
 rcases h with ⟨rfl,rfl | ⟨m,h1,h2,rfl,h3⟩⟩ | ⟨hl,m,h1,h2,rfl,h3⟩
 ·exact .inl ⟨rfl,.inl rfl⟩
 ·exact .inl ⟨rfl,.inr ⟨m,h1,h2,rfl,(hg m h1 h2).trans h3⟩⟩
 ·exact .inr ⟨hl,m,h1,h2,rfl,(hg m h1 h2).trans h3⟩
theorem CloneV.one {g:Nat→Option Blk} {lo n:Nat} {w:List Int} {sv:AV} (h:CloneV g lo n w sv) : oneC sv=true∧cellsOf sv=[sv]:=by
 rcases h with ⟨rfl,rfl | ⟨m,h1,h2,rfl,h3⟩⟩ | ⟨hl,m,h1,h2,rfl,h3⟩ <;> exact ⟨rfl,rfl⟩
end Go.Ai
end
section
namespace Go.Ai
open Go.Proofs
set_option maxRecDepth 10000
set_option maxHeartbeats 40000000
end Go.Ai
end
section
namespace Go.Ai
set_option maxRecDepth 10000
def valT:List (List Int×List Int)→List Int→Option Int
 | [],_=>none
 | t :: ts,w=>if w≠[]∧w.length≤t.1.length∧t.1.take w.length=w then some (t.2.getD (w.length - 1) 0) else valT ts w
def entT (V:List Int→Option Int) (ws:List (List Int)) (w:List Int) (i:Nat) : Int×Int:=match V (w++[(i:Int)]) with
 | none=>(-1,-1)
 | some o=>if o = -1 then (-1,-2) else (((ws.idxOf (w++[(i:Int)]) : Nat) : Int),o)
def rowW (V:List Int→Option Int) (ws:List (List Int)) (I:Nat) (w:List Int) : List (Int×Int):=(List.range I).map (entT V ws w)
def rowsT (V:List Int→Option Int) (ws:List (List Int)) (I:Nat) : List (List (Int×Int)):=ws.map (rowW V ws I)
structure Nod (V:List Int→Option Int) (ws:List (List Int)) : Prop where
 nd:ws.Nodup
 mem:∀ w,w∈ws↔w=[]∨∃ o,V w=some o∧o ≠ -1
 clo:∀ x j o,V (x++[j])=some o→x=[]∨∃ o',V x=some o'∧(o ≠ -1→o' ≠ -1)
theorem rowW_len {V:List Int→Option Int} {ws:List (List Int)} {I:Nat} {w:List Int} : (rowW V ws I w).length=I:=by simp [rowW]
theorem rowW_at {V:List Int→Option Int} {ws:List (List Int)} {I:Nat} {w:List Int} {i:Nat} (h:i < I) : (rowW V ws I w)[i]?=some (entT V ws w i):=by
 unfold rowW
 rw [List.getElem?_map,List.getElem?_range h]; rfl
theorem rowsT_len {V:List Int→Option Int} {ws:List (List Int)} {I:Nat} : (rowsT V ws I).length=ws.length:=by simp [rowsT]
theorem rowsT_at {V:List Int→Option Int} {ws:List (List Int)} {I k:Nat} (h:k < ws.length) : (rowsT V ws I).getD k []=rowW V ws I ws[k]:=by
 unfold rowsT
 rw [List.getD_eq_getElem?_getD,List.getElem?_map,List.getElem?_eq_getElem h]; rfl
theorem idx_at {ws:List (List Int)} {w:List Int} (h:w∈ws) : ∃ hl:ws.idxOf w < ws.length,ws[ws.idxOf w]=w:=by
 have hl:=List.idxOf_lt_length_of_mem h
 exact ⟨hl,List.getElem_idxOf hl⟩
theorem idx_app {ws us:List (List Int)} {w:List Int} (h:w∈ws) : (ws++us).idxOf w=ws.idxOf w:=by
 rw [List.idxOf_append,if_pos h]
theorem idx_new {ws:List (List Int)} {w:List Int} (h:w ∉ ws) : (ws++[w]).idxOf w=ws.length:=by
 rw [List.idxOf_append,if_neg h]; simp
def updV (V:List Int→Option Int) (x:List Int) (o:Int) : List Int→Option Int:=fun y=>if y=x then some ((V x).getD o) else V y
theorem updV_known {V:List Int→Option Int} {x:List Int} {o o' : Int} (h:V x=some o') : updV V x o=V:=by
 funext y
 unfold updV
 split
 ·rename_i h1; rw [h1,h]; rfl
 ·rfl
theorem updV_self {V:List Int→Option Int} {x:List Int} {o:Int} (h:V x=none) : updV V x o x=some o:=by unfold updV; rw [if_pos rfl,h]; rfl
theorem updV_ne {V:List Int→Option Int} {x y:List Int} {o:Int} (h:y≠x) : updV V x o y=V y:=if_neg h
theorem ent_upd {V:List Int→Option Int} {ws us:List (List Int)} {x w:List Int} {o:Int} {i:Nat} (hN:Nod V ws) (hw:w++[(i:Int)]≠x) : entT (updV V x o) (ws++us) w i=entT V ws w i:=by
 unfold entT
 rw [updV_ne hw]
 cases h:V (w++[(i:Int)]) with
 | none=>rfl
 | some o' =>
  dsimp only
  split
  ·rfl
  ·rename_i h1
   rw [idx_app ((hN.mem _).2 (.inr ⟨o',h,h1⟩))]
theorem snoc_inj {a b:List Int} {i j:Int} (h:a++[i]=b++[j]) : a=b∧i=j:=by
 have h1:=List.append_inj' h rfl
 exact ⟨h1.1,by have:=h1.2; simpa using this⟩
theorem row_other {V:List Int→Option Int} {ws us:List (List Int)} {I:Nat} {p w:List Int} {i:Int} {o:Int} (hN:Nod V ws) (hw:w≠p) : rowW (updV V (p++[i]) o) (ws++us) I w=rowW V ws I w:=by
 unfold rowW
 apply List.map_congr_left
 intro j hj
 exact ent_upd hN fun h=>hw (snoc_inj h).1
theorem row_self {V:List Int→Option Int} {ws us:List (List Int)} {I:Nat} {p:List Int} {i:Nat} {o:Int} (hN:Nod V ws) (hi:i < I) : rowW (updV V (p++[(i:Int)]) o) (ws++us) I p=(rowW V ws I p).set i (entT (updV V (p++[(i:Int)]) o) (ws++us) p i):=by
 apply List.ext_getElem?
 intro j
 by_cases hji:i=j
 ·subst hji
  rw [List.getElem?_set_self (by rw [rowW_len]; exact hi),rowW_at hi]
 ·rw [List.getElem?_set_ne hji]
  by_cases hj:j < I
  ·rw [rowW_at hj,rowW_at hj,ent_upd hN]
   intro h
   have:=(snoc_inj h).2
   omega
  ·rw [List.getElem?_eq_none (by rw [rowW_len]; omega),List.getElem?_eq_none (by rw [rowW_len]; omega)]
theorem rows_upd {V:List Int→Option Int} {ws:List (List Int)} {I:Nat} {p:List Int} {i:Nat} {o:Int} (us:List (List Int)) (hN:Nod V ws) (hp:p∈ws) (hi:i < I) :
  ws.map (rowW (updV V (p++[(i:Int)]) o) (ws++us) I)=(rowsT V ws I).set (ws.idxOf p) (((rowsT V ws I).getD (ws.idxOf p) []).set i (entT (updV V (p++[(i:Int)]) o) (ws++us) p i)):=by
 obtain ⟨hl,hat⟩:=idx_at hp
 apply List.ext_getElem?
 intro k
 by_cases hk:ws.idxOf p=k
 ·subst hk
  rw [List.getElem?_set_self (by rw [rowsT_len]; exact hl),List.getElem?_map,List.getElem?_eq_getElem hl,rowsT_at hl,hat]
  exact congrArg some (row_self hN hi)
 ·rw [List.getElem?_set_ne hk]
  by_cases hk2:k < ws.length
  ·unfold rowsT
   rw [List.getElem?_map,List.getElem?_map,List.getElem?_eq_getElem hk2]
   refine congrArg some (row_other hN fun h=>hk ?_)
   have:ws[ws.idxOf p]=ws[k]:=by rw [hat,h]
   exact (List.getElem_inj hN.nd).1 this
  ·rw [List.getElem?_eq_none (by rw [List.length_map]; omega),List.getElem?_eq_none (by rw [rowsT_len]; omega)]
end Go.Ai
end
section
namespace Go.Ai
set_option maxRecDepth 10000
theorem Nod.none_of {V:List Int→Option Int} {ws:List (List Int)} (hN:Nod V ws) {x:List Int} (hx:x≠[]) (h:V x=none) (j:Int) : V (x++[j])=none:=by
 cases h2:V (x++[j]) with
 | none=>rfl
 | some o =>
  rcases hN.clo x j o h2 with h3 | ⟨o',h3,_⟩
  ·exact absurd h3 hx
  ·rw [h] at h3; cases h3
theorem Nod.up {V:List Int→Option Int} {ws:List (List Int)} (hN:Nod V ws) {x:List Int} {j:Int} (h:x++[j]∈ws) : x∈ws:=by
 rcases (hN.mem _).1 h with h1 | ⟨o,h1,h2⟩
 ·simp at h1
 ·rcases hN.clo x j o h1 with h3 | ⟨o',h3,h4⟩
  ·exact (hN.mem x).2 (.inl h3)
  ·exact (hN.mem x).2 (.inr ⟨o',h3,h4 h2⟩)
theorem Nod.pre {V:List Int→Option Int} {ws:List (List Int)} (hN:Nod V ws) {x:List Int} : ∀ (n:Nat) (u:List Int),u.length=n→x++u∈ws→x∈ws
 | 0,u,hu,h=>by
  have:=List.length_eq_zero_iff.1 hu
  subst this
  rwa [List.append_nil] at h
 | n+1,u,hu,h=>by
  have hne:u≠[]:=fun e=>by rw [e] at hu; cases hu
  have e:=List.dropLast_concat_getLast hne
  rw [← e,← List.append_assoc] at h
  exact hN.pre n u.dropLast (by rw [List.length_dropLast]; omega) (hN.up h)
theorem Nod.updDead {V:List Int→Option Int} {ws:List (List Int)} (hN:Nod V ws) {p:List Int} {i:Int} (hp:p∈ws) (h:V (p++[i])=none) : Nod (updV V (p++[i]) (-1)) ws:=by
 refine ⟨hN.nd,fun w=>?_,fun y j o hy=>?_⟩
 ·by_cases hw:w=p++[i]
  ·subst hw
   rw [updV_self h]
   constructor
   ·intro h1
    rcases (hN.mem _).1 h1 with h2 | ⟨o,h2,_⟩
    ·simp at h2
    ·rw [h] at h2; cases h2
   ·rintro (h1 | ⟨o,h1,h2⟩)
    ·simp at h1
    ·cases h1; exact absurd rfl h2
  ·rw [updV_ne hw]; exact hN.mem w
 ·by_cases hyx:y++[j]=p++[i]
  ·obtain ⟨rfl,rfl⟩:=snoc_inj hyx
   rcases (hN.mem _).1 hp with h1 | ⟨o',h1,h2⟩
   ·exact .inl h1
   ·refine .inr ⟨o',?_,fun _=>h2⟩
    rw [updV_ne (fun e=>by have:=congrArg List.length e; simp at this)]; exact h1
  ·rw [updV_ne hyx] at hy
   rcases hN.clo y j o hy with h1 | ⟨o',h1,h2⟩
   ·exact .inl h1
   ·refine .inr ⟨o',?_,h2⟩
    rw [updV_ne (fun e=>by rw [e,h] at h1; cases h1)]; exact h1
theorem Nod.updNew {V:List Int→Option Int} {ws:List (List Int)} (hN:Nod V ws) {p:List Int} {i o:Int} (hp:p∈ws) (h:V (p++[i])=none) (ho:o ≠ -1) : Nod (updV V (p++[i]) o) (ws++[p++[i]]):=by
 have hx:p++[i] ∉ ws:=fun h1=>by
  rcases (hN.mem _).1 h1 with h2 | ⟨o,h2,_⟩
  ·simp at h2
  ·rw [h] at h2; cases h2
 refine ⟨?_,fun w=>?_,fun y j o' hy=>?_⟩
 ·rw [List.nodup_append]
  refine ⟨hN.nd,by simp,fun a ha b hb e=>?_⟩
  rw [List.mem_singleton] at hb
  rw [← hb,← e] at hx
  exact hx ha
 ·rw [List.mem_append,List.mem_singleton]
  by_cases hw:w=p++[i]
  ·subst hw
   rw [updV_self h]
   exact ⟨fun _=>.inr ⟨o,rfl,ho⟩,fun _=>.inr rfl⟩
  ·rw [updV_ne hw]
   constructor
   ·rintro (h1 | h1)
    ·exact (hN.mem w).1 h1
    ·exact absurd h1 hw
   ·intro h1; exact .inl ((hN.mem w).2 h1)
 ·by_cases hyx:y++[j]=p++[i]
  ·obtain ⟨rfl,rfl⟩:=snoc_inj hyx
   rcases (hN.mem _).1 hp with h1 | ⟨o',h1,h2⟩
   ·exact .inl h1
   ·refine .inr ⟨o',?_,fun _=>h2⟩
    rw [updV_ne (fun e=>by have:=congrArg List.length e; simp at this)]; exact h1
  ·rw [updV_ne hyx] at hy
   rcases hN.clo y j o' hy with h1 | ⟨o'',h1,h2⟩
   ·exact .inl h1
   ·refine .inr ⟨o'',?_,h2⟩
    rw [updV_ne (fun e=>by rw [e,h] at h1; cases h1)]; exact h1
def addV:(List Int→Option Int)→List Int→List Int→List Int→List Int→Option Int
 | V,p,i :: w,o :: r=>addV (updV V (p++[i]) o) (p++[i]) w r
 | V,_,_,_=>V
theorem addV_keep:∀ (w r:List Int) (V:List Int→Option Int) (p y:List Int) (o:Int),V y=some o→addV V p w r y=some o
 | [],_,_,_,_,_,h=>h
 | _ :: _,[],_,_,_,_,h=>h
 | i :: w,o' :: r,V,p,y,o,h=>by
  refine addV_keep w r _ _ y o ?_
  by_cases hy:y=p++[i]
  ·rw [updV_known (hy ▸ h)]; exact h
  ·rw [updV_ne hy]; exact h
theorem take_cons_app {p:List Int} {i:Int} {w:List Int} {k:Nat} : p++(i :: w).take (k+1)=(p++[i])++w.take k:=by
 rw [List.take_succ_cons,List.append_assoc]; rfl
theorem addV_some:∀ (w r:List Int) (V:List Int→Option Int) (p:List Int) (k:Nat),r.length=w.length→k < w.length→∃ o,addV V p w r (p++w.take (k+1))=some o
 | [],_,_,_,_,_,h=>by cases h
 | _ :: _,[],_,_,_,h,_=>by cases h
 | i :: w,o :: r,V,p,0,_,_=>by
  show ∃ o',addV (updV V (p++[i]) o) (p++[i]) w r _=some o'
  rw [take_cons_app,List.take_zero,List.append_nil]
  cases h:V (p++[i]) with
  | none=>exact ⟨o,addV_keep _ _ _ _ _ _ (updV_self h)⟩
  | some o'=>exact ⟨o',addV_keep _ _ _ _ _ _ (by rw [updV_known h]; exact h)⟩
 | i :: w,o :: r,V,p,k+1,hl,hk=>by
  show ∃ o',addV (updV V (p++[i]) o) (p++[i]) w r _=some o'
  rw [take_cons_app]
  exact addV_some w r _ _ k (by simpa using hl) (by simpa using hk)
theorem addV_dead:∀ (w r:List Int) (V:List Int→Option Int) (p y:List Int),r.length=w.length→(∀ k,k < r.length→r.getD k 0 = -1)→addV V p w r y=V y∨(V y=none∧addV V p w r y=some (-1)∧∃ k,k < w.length∧y=p++w.take (k+1))
 | [],_,_,_,_,_,_=>.inl rfl
 | _ :: _,[],_,_,_,h,_=>by cases h
 | i :: w,o :: r,V,p,y,hl,hd=>by
  have ho:o = -1:=hd 0 (by simp)
  subst ho
  show addV (updV V (p++[i]) (-1)) (p++[i]) w r y=V y∨(V y=none∧addV (updV V (p++[i]) (-1)) (p++[i]) w r y=some (-1)∧_)
  rcases addV_dead w r (updV V (p++[i]) (-1)) (p++[i]) y (by simpa using hl) (fun k hk=>hd (k+1) (by simpa using hk)) with h | ⟨h1,h2,k,hk,h3⟩
  ·by_cases hy:y=p++[i]
   ·cases hv:V y with
    | none =>
     refine .inr ⟨rfl,?_,0,by simp,by rw [take_cons_app,List.take_zero,List.append_nil]; exact hy⟩
     rw [h,hy,updV_self (hy ▸ hv)]
    | some o=>left; rw [h,updV_known (hy ▸ hv),hv]
   ·left; rw [h,updV_ne hy]
  ·have hy:y≠p++[i]:=fun e=>by
    have h4:=congrArg List.length (h3.symm.trans e)
    rw [List.length_append,List.length_take] at h4
    omega
   rw [updV_ne hy] at h1
   exact .inr ⟨h1,h2,k+1,by simpa using hk,by rw [take_cons_app]; exact h3⟩
theorem okR_all {O:Int} : ∀ (r:List Int) (k:Nat),okR O true r=true→k < r.length→r.getD k 0 = -1
 | [],_,_,hk=>by cases hk
 | o :: r,0,h,_=>(okR_inv h).2.2.1 rfl
 | o :: r,k+1,h,hk=>by
  obtain ⟨_,_,h3,h4⟩:=okR_inv h
  rw [h3 rfl] at h4
  exact okR_all r k h4 (by simpa using hk)
theorem dead_rows {V:List Int→Option Int} {ws:List (List Int)} {I:Nat} (hN:Nod V ws) {x w r:List Int} (hx:V x=some (-1)) (hx0:x≠[]) (hl:r.length=w.length) (hd:∀ k,k < r.length→r.getD k 0 = -1) : rowsT (addV V x w r) ws I=rowsT V ws I∧Nod (addV V x w r) ws:=by
 have hxw:x ∉ ws:=fun h=>by
  rcases (hN.mem _).1 h with h1 | ⟨o,h1,h2⟩
  ·exact hx0 h1
  ·rw [hx] at h1; cases h1; exact h2 rfl
 have key:∀ v∈ws,∀ j:Int,addV V x w r (v++[j])=V (v++[j]):=fun v hv j=>by
  rcases addV_dead w r V x (v++[j]) hl hd with h | ⟨h1,h2,k,hk,h3⟩
  ·exact h
  ·exfalso
   have h4:v=x++w.take k:=by
    have h5:w.take (k+1)=w.take k++[w[k]]:=take_snoc hk
    rw [h5,← List.append_assoc] at h3
    exact (snoc_inj h3).1
   rw [h4] at hv
   exact hxw (hN.pre _ _ rfl hv)
 constructor
 ·unfold rowsT
  apply List.map_congr_left
  intro v hv
  unfold rowW
  apply List.map_congr_left
  intro j hj
  unfold entT
  rw [key v hv]
 ·refine ⟨hN.nd,fun v=>?_,fun y j o hy=>?_⟩
  ·rw [hN.mem v]
   rcases addV_dead w r V x v hl hd with h | ⟨h1,h2,_⟩
   ·rw [h]
   ·rw [h1,h2]
    constructor
    ·rintro (h | ⟨o,h,_⟩)
     ·exact .inl h
     ·cases h
    ·rintro (h | ⟨o,h,h3⟩)
     ·exact .inl h
     ·cases h; exact absurd rfl h3
  ·rcases addV_dead w r V x (y++[j]) hl hd with h | ⟨h1,h2,k,hk,h3⟩
   ·rw [h] at hy
    rcases hN.clo y j o hy with h1 | ⟨o',h1,h2⟩
    ·exact .inl h1
    ·exact .inr ⟨o',addV_keep _ _ _ _ _ _ h1,h2⟩
   ·rw [h2] at hy
    cases hy
    have h4:y=x++w.take k:=by
     have h5:w.take (k+1)=w.take k++[w[k]]:=take_snoc hk
     rw [h5,← List.append_assoc] at h3
     exact (snoc_inj h3).1
    cases k with
    | zero =>
     rw [List.take_zero,List.append_nil] at h4
     rw [h4]
     exact .inr ⟨-1,addV_keep _ _ _ _ _ _ hx,fun h=>absurd rfl h⟩
    | succ k =>
     obtain ⟨o',ho'⟩:=addV_some w r V x k hl (by omega)
     rw [← h4] at ho'
     exact .inr ⟨o',ho',fun h=>absurd rfl h⟩
def enterM (I:Nat) : List (List (Int×Int))→Nat→List Int→List Int→List (List (Int×Int))
 | rows,at',i :: w,o :: r =>
  if o = -1 then rows.set at' ((rows.getD at' []).set i.toNat (-1,-2))
  else if ((rows.getD at' []).getD i.toNat (-1,-1)).1 = -1 then enterM I (rows.set at' ((rows.getD at' []).set i.toNat ((rows.length:Int),o))++[List.replicate I (-1,-1)]) rows.length w r
  else enterM I rows ((rows.getD at' []).getD i.toNat (-1,-1)).1.toNat w r
 | rows,_,_,_=>rows
theorem enter_ok {O:Int} {I:Nat} : ∀ (w r:List Int) (V:List Int→Option Int) (ws:List (List Int)) (p:List Int),Nod V ws→p∈ws→inW w I=true→okR O false r=true→r.length=w.length →
  (∀ k,k < w.length→∀ o',V (p++w.take (k+1))=some o'→o'=r.getD k 0)→∃ us,Nod (addV V p w r) (ws++us)∧enterM I (rowsT V ws I) (ws.idxOf p) w r=rowsT (addV V p w r) (ws++us) I
 | [],_,V,ws,p,hN,_,_,_,_,_=>⟨[],by rw [List.append_nil]; exact hN,by rw [List.append_nil]; rfl⟩
 | _ :: _,[],_,_,_,_,_,_,_,h,_=>by cases h
 | i :: w,o :: r,V,ws,p,hN,hp,hw,hr,hl,hc=>by
  unfold inW at hw
  rw [List.all_cons,Bool.and_eq_true] at hw
  have hi:=of_decide_eq_true hw.1
  obtain ⟨a,rfl⟩ : ∃ a:Nat,i=a:=⟨i.toNat,by omega⟩
  have ha:a < I:=by omega
  obtain ⟨hr1,hr2,_,hr4⟩:=okR_inv hr
  have hl' : r.length=w.length:=by simpa using hl
  obtain ⟨hpl,hpat⟩:=idx_at hp
  have hc0:∀ o',V (p++[(a:Int)])=some o'→o'=o:=fun o' h=>by
   have:=hc 0 (by simp) o' (by rw [take_cons_app,List.take_zero,List.append_nil]; exact h)
   exact this
  have hrow:(rowsT V ws I).getD (ws.idxOf p) []=rowW V ws I p:=by rw [rowsT_at hpl,hpat]
  have hent:(rowW V ws I p).getD a (-1,-1)=entT V ws p a:=by rw [List.getD_eq_getElem?_getD,rowW_at ha]; rfl
  have hxne:p++[(a:Int)]≠[]:=by simp
  have hc1:∀ k,k < w.length→∀ o',updV V (p++[(a:Int)]) o ((p++[(a:Int)])++w.take (k+1))=some o'→o'=r.getD k 0:=fun k hk o' h=>by
   rw [updV_ne (fun e=>by have h4:=congrArg List.length e; rw [List.length_append,List.length_take] at h4; omega)] at h
   have:=hc (k+1) (by simpa using hk) o' (by rw [take_cons_app]; exact h)
   exact this
  show ∃ us,Nod (addV (updV V (p++[(a:Int)]) o) (p++[(a:Int)]) w r) (ws++us)∧(if o = -1 then (rowsT V ws I).set (ws.idxOf p) (((rowsT V ws I).getD (ws.idxOf p) []).set (a:Int).toNat (-1,-2))
   else if (((rowsT V ws I).getD (ws.idxOf p) []).getD (a:Int).toNat (-1,-1)).1 = -1 then enterM I ((rowsT V ws I).set (ws.idxOf p) (((rowsT V ws I).getD (ws.idxOf p) []).set (a:Int).toNat (((rowsT V ws I).length:Int),o))++[List.replicate I (-1,-1)]) (rowsT V ws I).length w r
   else enterM I (rowsT V ws I) (((rowsT V ws I).getD (ws.idxOf p) []).getD (a:Int).toNat (-1,-1)).1.toNat w r)=rowsT (addV (updV V (p++[(a:Int)]) o) (p++[(a:Int)]) w r) (ws++us) I
  rw [Int.toNat_natCast]
  by_cases ho:o = -1
  ·subst ho
   rw [if_pos rfl]
   have hd:∀ k,k < r.length→r.getD k 0 = -1:=fun k hk=>okR_all r k (by rw [decide_eq_true rfl] at hr4; exact hr4) hk
   have hx1:updV V (p++[(a:Int)]) (-1) (p++[(a:Int)])=some (-1):=by
    cases h:V (p++[(a:Int)]) with
    | none=>exact updV_self h
    | some o'=>rw [updV_known h,h,hc0 o' h]
   have hN1:Nod (updV V (p++[(a:Int)]) (-1)) ws:=by
    cases h:V (p++[(a:Int)]) with
    | none=>exact hN.updDead hp h
    | some o'=>rw [updV_known h]; exact hN
   obtain ⟨d1,d2⟩:=dead_rows (I:=I) hN1 hx1 hxne hl' hd
   refine ⟨[],by rw [List.append_nil]; exact d2,?_⟩
   rw [List.append_nil,d1]
   have h1:=rows_upd (I:=I) (o:=-1) [] hN hp ha
   rw [List.append_nil] at h1
   have h2:entT (updV V (p++[(a:Int)]) (-1)) ws p a=(-1,-2):=by unfold entT; rw [hx1]; rfl
   rw [h2] at h1
   exact h1.symm
  ·rw [if_neg ho,hrow,hent]
   have hr4' : okR O false r=true:=by rw [decide_eq_false ho] at hr4; exact hr4
   cases h:V (p++[(a:Int)]) with
   | none =>
    have he:entT V ws p a=(-1,-1):=by unfold entT; rw [h]
    rw [he,if_pos rfl]
    have hxw:p++[(a:Int)] ∉ ws:=fun h1=>by
     rcases (hN.mem _).1 h1 with h2 | ⟨o',h2,_⟩
     ·simp at h2
     ·rw [h] at h2; cases h2
    have hN1:=hN.updNew hp h ho
    have h1:=rows_upd (I:=I) (o:=o) [p++[(a:Int)]] hN hp ha
    have h2:entT (updV V (p++[(a:Int)]) o) (ws++[p++[(a:Int)]]) p a=((ws.length:Int),o):=by
     unfold entT; rw [updV_self h]; dsimp only; rw [if_neg ho,idx_new hxw]
    rw [h2,hrow] at h1
    have h3:rowW (updV V (p++[(a:Int)]) o) (ws++[p++[(a:Int)]]) I (p++[(a:Int)])=List.replicate I (-1,-1):=by
     unfold rowW
     rw [List.eq_replicate_iff]
     refine ⟨by simp,fun b hb=>?_⟩
     obtain ⟨j,_,rfl⟩:=List.mem_map.1 hb
     unfold entT
     rw [updV_ne (by intro e; have:=congrArg List.length e; simp at this),hN.none_of hxne h]
    have h4:(rowsT V ws I).set (ws.idxOf p) ((rowW V ws I p).set a (((rowsT V ws I).length:Int),o))++[List.replicate I (-1,-1)]=rowsT (updV V (p++[(a:Int)]) o) (ws++[p++[(a:Int)]]) I:=by
     rw [rowsT_len,← h1,← h3]
     unfold rowsT
     rw [List.map_append]; rfl
    rw [h4]
    have h5:(rowsT V ws I).length=(ws++[p++[(a:Int)]]).idxOf (p++[(a:Int)]):=by rw [rowsT_len,idx_new hxw]
    rw [h5]
    obtain ⟨us,e1,e2⟩:=enter_ok w r _ _ (p++[(a:Int)]) hN1 (by simp) hw.2 hr4' hl' hc1
    exact ⟨[p++[(a:Int)]]++us,by rw [← List.append_assoc]; exact e1,by rw [← List.append_assoc]; exact e2⟩
   | some o' =>
    have hoo:=hc0 o' h
    subst hoo
    have hxw:p++[(a:Int)]∈ws:=(hN.mem _).2 (.inr ⟨o',h,ho⟩)
    have he:entT V ws p a=(((ws.idxOf (p++[(a:Int)]) : Nat) : Int),o'):=by unfold entT; rw [h]; dsimp only; rw [if_neg ho]
    rw [he,if_neg (by show ¬((ws.idxOf (p++[(a:Int)]) : Nat) : Int) = -1; omega)]
    rw [updV_known h] at hc1 ⊢
    obtain ⟨us,e1,e2⟩:=enter_ok w r V ws (p++[(a:Int)]) hN hxw hw.2 hr4' hl' hc1
    exact ⟨us,e1,by rw [show ((ws.idxOf (p++[(a:Int)]) : Nat) : Int).toNat=ws.idxOf (p++[(a:Int)]) from Int.toNat_natCast _]; exact e2⟩
end Go.Ai
end
section
namespace Go.Ai
set_option maxRecDepth 10000
theorem valT_snoc (t:List Int×List Int) (w:List Int) : ∀ (ts:List (List Int×List Int)),valT (ts++[t]) w=match valT ts w with
  | some o=>some o
  | none=>if w≠[]∧w.length≤t.1.length∧t.1.take w.length=w then some (t.2.getD (w.length - 1) 0) else none
 | []=>rfl
 | u :: ts=>by
  show (if w≠[]∧w.length≤u.1.length∧u.1.take w.length=w then some (u.2.getD (w.length - 1) 0) else valT (ts++[t]) w)=_
  by_cases h:w≠[]∧w.length≤u.1.length∧u.1.take w.length=w
  ·have e:valT (u :: ts) w=some (u.2.getD (w.length - 1) 0):=if_pos h
   rw [if_pos h,e]
  ·have e:valT (u :: ts) w=valT ts w:=if_neg h
   rw [if_neg h,e]
   exact valT_snoc t w ts
theorem addV_eq:∀ (w r:List Int) (V:List Int→Option Int) (p y:List Int),r.length=w.length→addV V p w r y=match V y with
  | some o=>some o
  | none=>if p.length < y.length∧y.length≤p.length+w.length∧(p++w).take y.length=y then some (r.getD (y.length - p.length - 1) 0) else none
 | [],_,V,p,y,_=>by
  show V y=_
  cases V y with
  | some o=>rfl
  | none =>
   dsimp only
   rw [if_neg]
   rintro ⟨h1,h2,_⟩
   rw [List.length_nil] at h2; omega
 | _ :: _,[],_,_,_,h=>by cases h
 | i :: w,o :: r,V,p,y,hl=>by
  show addV (updV V (p++[i]) o) (p++[i]) w r y=_
  rw [addV_eq w r _ _ y (by simpa using hl)]
  have hla:(p++[i]).length=p.length+1:=by simp
  by_cases hy:y=p++[i]
  ·cases hv:V y with
   | some o'=>rw [updV_known (hy ▸ hv),hv]
   | none =>
    have h1:updV V (p++[i]) o y=some o:=by rw [hy]; exact updV_self (hy ▸ hv)
    rw [h1]
    dsimp only
    have hyl:y.length=p.length+1:=by rw [hy]; exact hla
    have hpt:(p++i :: w).take y.length=y:=by
     rw [hyl,List.take_append,show p.length+1 - p.length=1 by omega,List.take_of_length_le (by omega),hy]
     rfl
    rw [if_pos ⟨by omega,by rw [List.length_cons]; omega,hpt⟩,hyl,show p.length+1 - p.length - 1=0 by omega]
    rfl
  ·rw [updV_ne hy]
   cases hv:V y with
   | some o'=>rfl
   | none =>
    dsimp only
    have hass:(p++[i])++w=p++i :: w:=by simp
    rw [hla,hass]
    by_cases hc:p.length+1 < y.length∧y.length≤p.length+1+w.length∧(p++i :: w).take y.length=y
    ·rw [if_pos hc,if_pos ⟨by omega,by simp; omega,hc.2.2⟩]
     rw [show y.length - p.length - 1=(y.length - (p.length+1) - 1)+1 by omega]
     rfl
    ·rw [if_neg hc,if_neg]
     rintro ⟨h1,h2,h3⟩
     simp at h2
     by_cases h4:y.length=p.length+1
     ·apply hy
      rw [← h3,h4,List.take_append,show p.length+1 - p.length=1 by omega,List.take_of_length_le (by omega)]
      rfl
     ·exact hc ⟨by omega,by omega,h3⟩
theorem addV_val {ts:List (List Int×List Int)} {t:List Int×List Int} (hl:t.2.length=t.1.length) : addV (valT ts) [] t.1 t.2=valT (ts++[t]):=by
 funext y
 rw [addV_eq _ _ _ _ _ hl,valT_snoc]
 cases valT ts y with
 | some o=>rfl
 | none =>
  dsimp only
  rw [List.nil_append,List.length_nil,Nat.zero_add,Nat.sub_zero]
  by_cases h:y=[]
  ·subst h
   rw [if_neg (by simp),if_neg (by simp)]
  ·have h1:0 < y.length:=List.length_pos_iff.2 h
   by_cases h2:y.length≤t.1.length∧t.1.take y.length=y
   ·rw [if_pos ⟨h1,h2⟩,if_pos ⟨h,h2⟩]
   ·rw [if_neg (fun h3=>h2 h3.2),if_neg (fun h3=>h2 h3.2)]
def Cons (ts:List (List Int×List Int)) : Prop:=∀ u∈ts,∀ t∈ts,∀ k,k < u.1.length→k < t.1.length→u.1.take (k+1)=t.1.take (k+1)→u.2.getD k 0=t.2.getD k 0
theorem stepL_iff:∀ (x a y b:List Int) (k:Nat),a.length=x.length→b.length=y.length→(stepL x a y b k=none↔∀ j,j < x.length→j < y.length→x.take (j+1)=y.take (j+1)→a.getD j 0=b.getD j 0)
 | [],_,_,_,_,_,_=>⟨fun _ j h=>(by cases h),fun _=>rfl⟩
 | _ :: _,[],_,_,_,h,_=>by cases h
 | _ :: _,_ :: _,[],_,_,_,_=>⟨fun _ j _ h=>(by cases h),fun _=>rfl⟩
 | _ :: _,_ :: _,_ :: _,[],_,_,h=>by cases h
 | i :: x,p :: a,j :: y,q :: b,k,ha,hb=>by
  have ih:=stepL_iff x a y b (k+1) (by simpa using ha) (by simpa using hb)
  show ((if i=j then (if p=q then stepL x a y b (k+1) else some k) else none)=none↔_)
  by_cases h:i=j
  ·subst h
   rw [if_pos rfl]
   by_cases h2:p=q
   ·subst h2
    rw [if_pos rfl,ih]
    constructor
    ·intro h3 m hm1 hm2 hm3
     cases m with
     | zero=>rfl
     | succ m =>
      rw [List.take_succ_cons,List.take_succ_cons] at hm3
      exact h3 m (by simpa using hm1) (by simpa using hm2) (by simpa using hm3)
    ·intro h3 m hm1 hm2 hm3
     exact h3 (m+1) (by simpa using hm1) (by simpa using hm2) (by rw [List.take_succ_cons,List.take_succ_cons,hm3])
   ·rw [if_neg h2]
    constructor
    ·intro h3; cases h3
    ·intro h3; exact absurd (h3 0 (by simp) (by simp) (by simp)) h2
  ·rw [if_neg h]
   constructor
   ·intro _ m _ _ hm3
    rw [List.take_succ_cons,List.take_succ_cons] at hm3
    exact absurd (List.cons.inj hm3).1 h
   ·intro _; rfl
theorem conA_iff (t:List Int×List Int) : ∀ (us:List (List Int×List Int)) (a:Nat),conA t us a=none↔∀ u∈us,stepL u.1 u.2 t.1 t.2 0=none
 | [],_=>⟨fun _ u hu=>(by cases hu),fun _=>rfl⟩
 | u :: us,a=>by
  have ih:=conA_iff t us (a+1)
  have e:conA t (u :: us) a=match stepL u.1 u.2 t.1 t.2 0 with | some k=>some (a,k) | none=>conA t us (a+1):=rfl
  rw [e]
  cases h:stepL u.1 u.2 t.1 t.2 0 with
  | some k =>
   constructor
   ·intro h2; cases h2
   ·intro h2; have:=h2 u (by simp); rw [h] at this; cases this
  | none =>
   dsimp only
   rw [ih]
   constructor
   ·intro h2 v hv
    rcases List.mem_cons.1 hv with rfl | hv
    ·exact h
    ·exact h2 v hv
   ·intro h2 v hv; exact h2 v (by simp [hv])
theorem conB_iff (ts:List (List Int×List Int)) : ∀ (us:List (List Int×List Int)) (b:Nat),conB ts us b=none↔∀ (i:Nat) (h:i < us.length),∀ u∈ts.take (b+i),stepL u.1 u.2 us[i].1 us[i].2 0=none
 | [],_=>⟨fun _ i hi=>(by cases hi),fun _=>rfl⟩
 | t :: us,b=>by
  have ih:=conB_iff ts us (b+1)
  have e:conB ts (t :: us) b=match conA t (ts.take b) 0 with | some (a,k)=>some (a,b,k) | none=>conB ts us (b+1):=rfl
  rw [e]
  cases h:conA t (ts.take b) 0 with
  | some x =>
   constructor
   ·intro h2; cases h2
   ·intro h2
    have h3:=(conA_iff t (ts.take b) 0).2 fun u hu=>h2 0 (by simp) u hu
    rw [h] at h3; cases h3
  | none =>
   dsimp only
   rw [ih]
   constructor
   ·intro h2 i hi u hu
    cases i with
    | zero=>exact (conA_iff t (ts.take b) 0).1 h u hu
    | succ i=>exact h2 i (by simpa using hi) u (by rw [show b+1+i=b+(i+1) by omega]; exact hu)
   ·intro h2 i hi u hu
    exact h2 (i+1) (by simpa using hi) u (by rw [show b+(i+1)=b+1+i by omega]; exact hu)
theorem cons_iff {ts:List (List Int×List Int)} (hl:∀ t∈ts,t.2.length=t.1.length) : conB ts ts 0=none↔Cons ts:=by
 rw [conB_iff]
 constructor
 ·intro h
  have key:∀ (a b:Nat) (ha:a < ts.length) (hb:b < ts.length),a < b→∀ k,k < ts[a].1.length→k < ts[b].1.length→ts[a].1.take (k+1)=ts[b].1.take (k+1)→ts[a].2.getD k 0=ts[b].2.getD k 0:=fun a b ha hb hab=>by
   have h1:=h b hb ts[a] (by
    rw [Nat.zero_add,List.mem_iff_getElem]
    exact ⟨a,by rw [List.length_take]; omega,by rw [List.getElem_take]⟩)
   exact (stepL_iff _ _ _ _ _ (hl _ (List.getElem_mem ha)) (hl _ (List.getElem_mem hb))).1 h1
  intro u hu t ht k h1 h2 h3
  obtain ⟨a,ha,rfl⟩:=List.mem_iff_getElem.1 hu
  obtain ⟨b,hb,rfl⟩:=List.mem_iff_getElem.1 ht
  rcases Nat.lt_trichotomy a b with hab | hab | hab
  ·exact key a b ha hb hab k h1 h2 h3
  ·subst hab; rfl
  ·exact (key b a hb ha hab k h2 h1 h3.symm).symm
 ·intro h i hi u hu
  have hu':=List.mem_of_mem_take hu
  exact (stepL_iff _ _ _ _ _ (hl _ hu') (hl _ (List.getElem_mem hi))).2 fun j=>h u hu' _ (List.getElem_mem hi) j
theorem valT_of {w:List Int} {o:Int} : ∀ {ts:List (List Int×List Int)},valT ts w=some o→∃ u∈ts,w≠[]∧w.length≤u.1.length∧u.1.take w.length=w∧o=u.2.getD (w.length - 1) 0
 | [],h=>by cases h
 | t :: ts,h=>by
  by_cases hc:w≠[]∧w.length≤t.1.length∧t.1.take w.length=w
  ·have e:valT (t :: ts) w=some (t.2.getD (w.length - 1) 0):=if_pos hc
   rw [e] at h
   cases h
   exact ⟨t,by simp,hc.1,hc.2.1,hc.2.2,rfl⟩
  ·have e:valT (t :: ts) w=valT ts w:=if_neg hc
   rw [e] at h
   obtain ⟨u,h1,h2⟩:=valT_of h
   exact ⟨u,by simp [h1],h2⟩
theorem valT_mem {ts:List (List Int×List Int)} (hc:Cons ts) {t:List Int×List Int} (ht:t∈ts) {k:Nat} (hk:k < t.1.length) : valT ts (t.1.take (k+1))=some (t.2.getD k 0):=by
 have hlen:(t.1.take (k+1)).length=k+1:=by rw [List.length_take]; omega
 have hne:t.1.take (k+1)≠[]:=fun e=>by rw [e] at hlen; cases hlen
 have hsome:∀ us:List (List Int×List Int),t∈us→∃ o,valT us (t.1.take (k+1))=some o:=by
  intro us
  induction us with
  | nil=>intro h; cases h
  | cons u us ih =>
   intro h
   by_cases hcc:t.1.take (k+1)≠[]∧(t.1.take (k+1)).length≤u.1.length∧u.1.take (t.1.take (k+1)).length=t.1.take (k+1)
   ·exact ⟨_,if_pos hcc⟩
   ·rcases List.mem_cons.1 h with rfl | h
    ·exact absurd ⟨hne,by rw [hlen]; omega,by rw [hlen]⟩ hcc
    ·obtain ⟨o,ho⟩:=ih h
     exact ⟨o,(if_neg hcc).trans ho⟩
 obtain ⟨o,ho⟩:=hsome ts ht
 obtain ⟨u,h1,_,h3,h4,h5⟩:=valT_of ho
 rw [hlen] at h3 h4 h5
 rw [ho,h5,Nat.add_sub_cancel]
 exact congrArg some (hc u h1 t ht k (by omega) hk h4)
theorem Cons.sub {ts us:List (List Int×List Int)} (h:Cons us) (hs:∀ t∈ts,t∈us) : Cons ts:=fun u hu t ht=>h u (hs u hu) t (hs t ht)
def treeM (I:Nat) (ts:List (List Int×List Int)) : List (List (Int×Int)):=ts.foldl (fun rows t=>enterM I rows 0 t.1 t.2) [List.replicate I (-1,-1)]
theorem tree_ok {I:Nat} {O:Int} : ∀ (n:Nat) (ts:List (List Int×List Int)),ts.length=n→Cons ts→(∀ t∈ts,validB I O t=true)→∃ us,Nod (valT ts) ([] :: us)∧treeM I ts=rowsT (valT ts) ([] :: us) I
 | 0,ts,hn,_,_=>by
  have e:=List.length_eq_zero_iff.1 hn
  subst e
  refine ⟨[],⟨by simp,fun w=>?_,fun x j o h=>by cases h⟩,?_⟩
  ·rw [List.mem_singleton]
   constructor
   ·intro h; exact .inl h
   ·rintro (h | ⟨o,h,_⟩)
    ·exact h
    ·cases h
  ·show [List.replicate I (-1,-1)]=[rowW (valT []) [[]] I []]
   congr 1
   unfold rowW
   symm
   rw [List.eq_replicate_iff]
   refine ⟨by simp,fun b hb=>?_⟩
   obtain ⟨j,_,rfl⟩:=List.mem_map.1 hb
   rfl
 | n+1,ts,hn,hc,hv=>by
  have hne:ts≠[]:=fun e=>by rw [e] at hn; cases hn
  have e:=List.dropLast_concat_getLast hne
  generalize ts.getLast hne=t at e
  generalize ts.dropLast=us at e
  subst e
  have hlu:us.length=n:=by rw [List.length_append] at hn; simpa using hn
  obtain ⟨vs,h1,h2⟩:=tree_ok n us hlu (hc.sub fun t ht=>by simp [ht]) fun t ht=>hv t (by simp [ht])
  have hvt:=hv t (by simp)
  unfold validB at hvt
  rw [Bool.and_eq_true,Bool.and_eq_true] at hvt
  have hlt:=of_decide_eq_true hvt.1.1
  obtain ⟨ks,h3,h4⟩:=enter_ok (O:=O) (I:=I) t.1 t.2 (valT us) ([] :: vs) [] h1 (by simp) hvt.1.2 hvt.2 hlt fun k hk o' ho'=>by
   rw [List.nil_append] at ho'
   obtain ⟨u,g1,_,g3,g4,g5⟩:=valT_of ho'
   have hlen:(t.1.take (k+1)).length=k+1:=by rw [List.length_take]; omega
   rw [hlen] at g3 g4 g5
   rw [g5,Nat.add_sub_cancel]
   exact hc u (by simp [g1]) t (by simp) k (by omega) hk g4
  rw [addV_val hlt] at h3 h4
  refine ⟨vs++ks,h3,?_⟩
  have e1:treeM I (us++[t])=enterM I (treeM I us) 0 t.1 t.2:=by unfold treeM; rw [List.foldl_append]; rfl
  rw [e1,h2]
  have e2:([] :: vs).idxOf ([] : List Int)=0:=by simp
  rw [e2] at h4
  exact h4
end Go.Ai
end
