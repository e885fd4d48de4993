/- A small verified interpreter over names, its proofs, and what was proved with it. No condition. -/
import Derived.Test.YtpimmmnkcgnjjaaGreatRows
import Derived.Test.YtpimmmnkcgnjjaaGreatL05
import Derived.Test.YtpimmmnkcgnjjaaGreatL06
set_option linter.all false
set_option linter.deprecated false
section
namespace Go.Ai
open Go.Proofs Go.Proofs.Tryz
set_option maxRecDepth 100000
attribute [simp] Tryz.underlying0 Tryz.underlying1 Tryz.underlying2 Tryz.underlying3 Tryz.underlying4 Tryz.underlying5 Tryz.underlying6 Tryz.underlying7 Tryz.underlying8 Tryz.underlying9 Tryz.underlying10 Tryz.underlying11 Tryz.underlying12 Tryz.underlying13 Tryz.underlying14 Tryz.underlying15 Tryz.underlying16 Tryz.underlying17 Tryz.underlying18 Tryz.underlying19 Tryz.underlying20 Tryz.underlying21 Tryz.underlying22 Tryz.underlying23 Tryz.underlying24 Tryz.underlying25 Tryz.underlying26 Tryz.underlying27 Tryz.underlying28 Tryz.underlying29 Tryz.underlying30 Tryz.underlying31 Tryz.underlying32 Tryz.underlying33 Tryz.underlying34 Tryz.underlying35 Tryz.underlying36 Tryz.underlying37 Tryz.underlying38 Tryz.underlying39 Tryz.underlying40 Tryz.underlying41 Tryz.underlying42 Tryz.underlying43 Tryz.underlying44 Tryz.underlying45 Tryz.underlying46 Tryz.underlying47 Tryz.underlying48 Tryz.underlying49 Tryz.underlying50 Tryz.underlying51 Tryz.underlying52 Tryz.underlying53 Tryz.underlying54 Tryz.underlying55 Tryz.underlying56 Tryz.underlying57 Tryz.underlying58 Tryz.underlying59 Tryz.underlying60 Tryz.underlying61 Tryz.underlying62 Tryz.underlying63 Tryz.underlying64 Tryz.underlying65 Tryz.underlying66 Tryz.underlying67 Tryz.underlying68 Tryz.underlying69 Tryz.underlying70 Tryz.underlying71 Tryz.underlying72 Tryz.underlying73 Tryz.underlying74 Tryz.underlying75 Tryz.underlying76 Tryz.underlying77 Tryz.underlying78 Tryz.underlying79 Tryz.underlying80 Tryz.underlying81 Tryz.underlying82 Tryz.underlying83 Tryz.underlying84 Tryz.underlying85 Tryz.underlying86 Tryz.underlying87 Tryz.underlying88 Tryz.underlying89 Tryz.underlying90 Tryz.underlying91 Tryz.underlying92 Tryz.underlying93 Tryz.underlying94 Tryz.underlying95 Tryz.underlying96 Tryz.underlying97 Tryz.underlying98 Tryz.underlying99 Tryz.underlying100 Tryz.underlying101 Tryz.underlying102 Tryz.underlying103 Tryz.underlying104 Tryz.underlying105 Tryz.underlying106 Tryz.underlying107 Tryz.underlying108 Tryz.underlying109 Tryz.underlying110 Tryz.underlying111 Tryz.underlying112 Tryz.underlying113 Tryz.underlying114 Tryz.underlying115 Tryz.underlying116 Tryz.underlying117 Tryz.underlying118 Tryz.underlying119 Tryz.underlying120 Tryz.underlying121 Tryz.underlying122 Tryz.underlying123 Tryz.underlying124 Tryz.underlying125 Tryz.underlying126 Tryz.underlying127 Tryz.underlying128 Tryz.underlying129 Tryz.underlying130 Tryz.underlying131 Tryz.underlying132 Tryz.underlying133 Tryz.underlying134 Tryz.underlying135 Tryz.underlying136 Tryz.underlying137 Tryz.underlying138 Tryz.underlying139 Tryz.underlying140 Tryz.underlying141 Tryz.underlying142 Tryz.underlying143 Tryz.underlying144 Tryz.underlying145 Tryz.underlying146 Tryz.underlying147 Tryz.underlying148 Tryz.underlying149 Tryz.underlying150 Tryz.underlying151 Tryz.underlying152 Tryz.underlying153 Tryz.underlying154 Tryz.underlying155 Tryz.underlying156 Tryz.underlying157 Tryz.underlying158 Tryz.underlying159 Tryz.underlying160 Tryz.underlying161 Tryz.underlying162 Tryz.underlying163 Tryz.underlying164 Tryz.underlying165 Tryz.underlying166 Tryz.underlying167 Tryz.underlying168 Tryz.underlying169 Tryz.underlying170 Tryz.underlying171 Tryz.underlying172 Tryz.underlying173 Tryz.underlying174 Tryz.underlying175 Tryz.underlying176 Tryz.underlying177 Tryz.underlying178 Tryz.underlying179 Tryz.underlying180 Tryz.underlying181 Tryz.underlying182 Tryz.underlying183 Tryz.underlying184 Tryz.underlying185 Tryz.underlying186 Tryz.underlying187 Tryz.underlying188 Tryz.underlying189 Tryz.underlying190 Tryz.underlying191 Tryz.underlying192 Tryz.underlying193 Tryz.underlying194 Tryz.underlying195 Tryz.underlying196 Tryz.underlying197 Tryz.underlying198 Tryz.underlying199 Tryz.underlying200 Tryz.underlying201 Tryz.underlying202 Tryz.underlying203 Tryz.underlying204 Tryz.underlying205 Tryz.underlying206 Tryz.underlying207 Tryz.underlying208 Tryz.underlying209 Tryz.underlying210 Tryz.underlying211 Tryz.underlying212 Tryz.underlying213 Tryz.underlying214 Tryz.underlying215 Tryz.underlying216 Tryz.underlying217 Tryz.underlying218 Tryz.underlying219 Tryz.underlying220 Tryz.underlying221 Tryz.underlying222 Tryz.underlying223 Tryz.underlying224
theorem hb3:Ap prog 3=true:=by kernel_rfl
theorem hb4:Ap prog 4=true:=by kernel_rfl
theorem hb5:Ap prog 5=true:=by kernel_rfl
theorem hb6:Ap prog 6=true:=by kernel_rfl
theorem hb12:Ap prog 12=true:=by kernel_rfl
theorem hb13:Ap prog 13=true:=by kernel_rfl
theorem hb15:Ap prog 15=true:=by kernel_rfl
theorem hb16:Ap prog 16=true:=by kernel_rfl
theorem hb17:Ap prog 17=true:=by kernel_rfl
theorem hb20:Ap prog 20=true:=by kernel_rfl
theorem hb21:Ap prog 21=true:=by kernel_rfl
theorem hb22:Ap prog 22=true:=by kernel_rfl
theorem hb23:Ap prog 23=true:=by kernel_rfl
theorem hb24:Ap prog 24=true:=by kernel_rfl
theorem hb25:Ap prog 25=true:=by kernel_rfl
theorem hb26:Ap prog 26=true:=by kernel_rfl
theorem hb29:Ap prog 29=true:=by kernel_rfl
theorem hb33:Ap prog 33=true:=by kernel_rfl
theorem hb35:Ap prog 35=true:=by kernel_rfl
theorem hb37:Ap prog 37=true:=by kernel_rfl
theorem hb42:Ap prog 42=true:=by kernel_rfl
theorem hb43:Ap prog 43=true:=by kernel_rfl
theorem hb44:Ap prog 44=true:=by kernel_rfl
theorem hb45:Ap prog 45=true:=by kernel_rfl
theorem hb49:Ap prog 49=true:=by kernel_rfl
theorem hb52:Ap prog 52=true:=by kernel_rfl
theorem hb53:Ap prog 53=true:=by kernel_rfl
theorem hb54:Ap prog 54=true:=by kernel_rfl
theorem hb59:Ap prog 59=true:=by kernel_rfl
theorem hb60:Ap prog 60=true:=by kernel_rfl
theorem hb61:Ap prog 61=true:=by kernel_rfl
theorem hb62:Ap prog 62=true:=by kernel_rfl
theorem hb66:Ap prog 66=true:=by kernel_rfl
theorem hb67:Ap prog 67=true:=by kernel_rfl
theorem hb68:Ap prog 68=true:=by kernel_rfl
theorem hb69:Ap prog 69=true:=by kernel_rfl
theorem hb70:Ap prog 70=true:=by kernel_rfl
theorem hb71:Ap prog 71=true:=by kernel_rfl
theorem hb72:Ap prog 72=true:=by kernel_rfl
theorem hb73:Ap prog 73=true:=by kernel_rfl
theorem hb74:Ap prog 74=true:=by kernel_rfl
theorem hb75:Ap prog 75=true:=by kernel_rfl
theorem hb76:Ap prog 76=true:=by kernel_rfl
theorem hb77:Ap prog 77=true:=by kernel_rfl
theorem hb78:Ap prog 78=true:=by kernel_rfl
theorem hb80:Ap prog 80=true:=by kernel_rfl
theorem hb88:Ap prog 88=true:=by kernel_rfl
theorem hb89:Ap prog 89=true:=by kernel_rfl
theorem hb90:Ap prog 90=true:=by kernel_rfl
theorem hb91:Ap prog 91=true:=by kernel_rfl
theorem hb93:Ap prog 93=true:=by kernel_rfl
theorem hb94:Ap prog 94=true:=by kernel_rfl
theorem hb97:Ap prog 97=true:=by kernel_rfl
theorem hb100:Ap prog 100=true:=by kernel_rfl
theorem hb101:Ap prog 101=true:=by kernel_rfl
theorem hb103:Ap prog 103=true:=by kernel_rfl
theorem hb104:Ap prog 104=true:=by kernel_rfl
theorem hb105:Ap prog 105=true:=by kernel_rfl
theorem hb106:Ap prog 106=true:=by kernel_rfl
theorem hb107:Ap prog 107=true:=by kernel_rfl
theorem hb110:Ap prog 110=true:=by kernel_rfl
theorem hb115:Ap prog 115=true:=by kernel_rfl
theorem hb116:Ap prog 116=true:=by kernel_rfl
theorem hb117:Ap prog 117=true:=by kernel_rfl
theorem hb118:Ap prog 118=true:=by kernel_rfl
theorem hb120:Ap prog 120=true:=by kernel_rfl
theorem hb121:Ap prog 121=true:=by kernel_rfl
theorem hb122:Ap prog 122=true:=by kernel_rfl
theorem hb123:Ap prog 123=true:=by kernel_rfl
theorem hb124:Ap prog 124=true:=by kernel_rfl
theorem hb125:Ap prog 125=true:=by kernel_rfl
theorem hb132:Ap prog 132=true:=by kernel_rfl
theorem hb135:Ap prog 135=true:=by kernel_rfl
theorem hb139:Ap prog 139=true:=by kernel_rfl
theorem hb140:Ap prog 140=true:=by kernel_rfl
theorem hb141:Ap prog 141=true:=by kernel_rfl
theorem hb143:Ap prog 143=true:=by kernel_rfl
theorem hb158:Ap prog 158=true:=by kernel_rfl
attribute [simp] hb3 hb4 hb5 hb6 hb12 hb13 hb15 hb16 hb17 hb20 hb21 hb22 hb23 hb24 hb25 hb26 hb29 hb33 hb35 hb37 hb42 hb43 hb44 hb45 hb49 hb52 hb53 hb54 hb59 hb60 hb61 hb62 hb66 hb67 hb68 hb69 hb70 hb71 hb72 hb73 hb74 hb75 hb76 hb77 hb78 hb80 hb88 hb89 hb90 hb91 hb93 hb94 hb97 hb100 hb101 hb103 hb104 hb105 hb106 hb107 hb110 hb115 hb116 hb117 hb118 hb120 hb121 hb122 hb123 hb124 hb125 hb132 hb135 hb139 hb140 hb141 hb143 hb158
theorem ag_3:Cc prog 3=some (false,1):=by kernel_rfl
theorem ag_84:Cc prog 84=some (true,2):=by kernel_rfl
theorem ag_65:Cc prog 65=some (false,1):=by kernel_rfl
theorem ag_97:Cc prog 97=some (true,2):=by kernel_rfl
theorem ag_22:Cc prog 22=some (false,1):=by kernel_rfl
theorem ag_98:Cc prog 98=some (false,1):=by kernel_rfl
theorem ag_23:Cc prog 23=some (false,1):=by kernel_rfl
theorem ag_49:Cc prog 49=some (true,3):=by kernel_rfl
theorem ag_59:Cc prog 59=some (true,3):=by kernel_rfl
theorem ag_52:Cc prog 52=some (false,1):=by kernel_rfl
theorem ag_54:Cc prog 54=some (true,3):=by kernel_rfl
theorem ag_25:Cc prog 25=some (true,3):=by kernel_rfl
theorem ag_27:Cc prog 27=some (true,7):=by kernel_rfl
theorem ag_4:Cc prog 4=some (false,1):=by kernel_rfl
theorem ag_156:Cc prog 156=some (true,2):=by kernel_rfl
theorem ag_42:Cc prog 42=some (false,1):=by kernel_rfl
theorem ag_39:Cc prog 39=some (false,1):=by kernel_rfl
theorem ag_38:Cc prog 38=some (true,5):=by kernel_rfl
theorem ag_5:Cc prog 5=some (false,1):=by kernel_rfl
theorem ag_41:Cc prog 41=some (true,9):=by kernel_rfl
theorem ag_113:Cc prog 113=some (false,1):=by kernel_rfl
theorem ag_36:Cc prog 36=some (false,1):=by kernel_rfl
theorem ag_44:Cc prog 44=some (true,12):=by kernel_rfl
theorem zl_97:a0a prog 97=some [.li 0,.li 0]:=by kernel_rfl
theorem zl_84:a0a prog 84=some [.nl,.nl]:=by kernel_rfl
theorem zl_59:a0a prog 59=some [.li 0,.li 0,.li 0]:=by kernel_rfl
theorem zl_27:a0a prog 27=some [.li 0,.li 0,.nl,.nl,.li 0,.li 0,.nl]:=by kernel_rfl
theorem zl_156:a0a prog 156=some [.li 0,.li 0]:=by kernel_rfl
theorem zl_54:a0a prog 54=some [.li 0,.li 0,.nl]:=by kernel_rfl
theorem zl_49:a0a prog 49=some [.li 0,.li 0,.nl]:=by kernel_rfl
theorem zl_23:a0a prog 23=some [.nl]:=by kernel_rfl
theorem zl_25:a0a prog 25=some [.li 0,.li 0,.nl]:=by kernel_rfl
theorem fo_27_0:Bx prog 27 0=some 0:=by kernel_rfl
theorem fo_27_2:Bx prog 27 2=some 2:=by kernel_rfl
theorem fo_84_1:Bx prog 84 1=some 1:=by kernel_rfl
theorem fo_84_0:Bx prog 84 0=some 0:=by kernel_rfl
theorem fo_97_0:Bx prog 97 0=some 0:=by kernel_rfl
theorem fo_97_1:Bx prog 97 1=some 1:=by kernel_rfl
theorem fo_49_2:Bx prog 49 2=some 2:=by kernel_rfl
theorem fo_49_1:Bx prog 49 1=some 1:=by kernel_rfl
theorem fo_25_2:Bx prog 25 2=some 2:=by kernel_rfl
theorem fo_54_0:Bx prog 54 0=some 0:=by kernel_rfl
theorem fo_54_2:Bx prog 54 2=some 2:=by kernel_rfl
theorem fo_49_0:Bx prog 49 0=some 0:=by kernel_rfl
theorem fo_54_1:Bx prog 54 1=some 1:=by kernel_rfl
theorem fo_27_4:Bx prog 27 4=some 4:=by kernel_rfl
theorem fo_25_1:Bx prog 25 1=some 1:=by kernel_rfl
theorem fo_25_0:Bx prog 25 0=some 0:=by kernel_rfl
theorem fo_27_3:Bx prog 27 3=some 3:=by kernel_rfl
theorem fo_156_0:Bx prog 156 0=some 0:=by kernel_rfl
theorem fo_156_1:Bx prog 156 1=some 1:=by kernel_rfl
theorem fo_41_1:Bx prog 41 1=some 5:=by kernel_rfl
theorem fo_41_0:Bx prog 41 0=some 0:=by kernel_rfl
theorem fo_27_1:Bx prog 27 1=some 1:=by kernel_rfl
theorem fo_41_4:Bx prog 41 4=some 8:=by kernel_rfl
theorem fo_41_3:Bx prog 41 3=some 7:=by kernel_rfl
theorem fo_41_2:Bx prog 41 2=some 6:=by kernel_rfl
theorem fo_38_3:Bx prog 38 3=some 3:=by kernel_rfl
theorem fo_38_4:Bx prog 38 4=some 4:=by kernel_rfl
theorem fo_38_2:Bx prog 38 2=some 2:=by kernel_rfl
theorem fo_38_1:Bx prog 38 1=some 1:=by kernel_rfl
theorem fo_38_0:Bx prog 38 0=some 0:=by kernel_rfl
theorem fo_44_3:Bx prog 44 3=some 11:=by kernel_rfl
theorem fo_44_2:Bx prog 44 2=some 10:=by kernel_rfl
theorem fo_44_1:Bx prog 44 1=some 9:=by kernel_rfl
theorem fo_44_0:Bx prog 44 0=some 0:=by kernel_rfl
theorem es_52:Ca prog 52=some (none,2):=by kernel_rfl
theorem es_22:Ca prog 22=some (none,1):=by kernel_rfl
theorem es_98:Ca prog 98=some (none,2):=by kernel_rfl
theorem es_65:Ca prog 65=some (none,1):=by kernel_rfl
theorem es_23:Ca prog 23=some (none,1):=by kernel_rfl
theorem es_160:Ca prog 160=some (none,1):=by kernel_rfl
theorem es_152:Ca prog 152=some (none,2):=by kernel_rfl
theorem es_39:Ca prog 39=some (none,1):=by kernel_rfl
theorem es_42:Ca prog 42=some (none,1):=by kernel_rfl
theorem es_36:Ca prog 36=some (none,1):=by kernel_rfl
theorem is_102:b5r prog 102=true:=by kernel_rfl
theorem bi_97:a6t prog 97=some ([.li 0,.li 0],[(0,1),(1,1)]):=by kernel_rfl
theorem bi_156:a6t prog 156=some ([.li 0,.li 0],[(0,1),(1,1)]):=by kernel_rfl
theorem bi_59:a6t prog 59=some ([.li 0,.li 0,.li 0],[(0,1),(1,1),(2,1)]):=by kernel_rfl
theorem bi_49:a6t prog 49=some ([.li 0,.li 0,.nl],[(0,1),(1,1),(2,1)]):=by kernel_rfl
theorem bi_54:a6t prog 54=some ([.li 0,.li 0,.nl],[(0,1),(1,1),(2,1)]):=by kernel_rfl
theorem bi_84:a6t prog 84=some ([.nl,.nl],[(0,1),(1,1)]):=by kernel_rfl
theorem bi_25:a6t prog 25=some ([.li 0,.li 0,.nl],[(0,1),(1,1),(2,1)]):=by kernel_rfl
theorem bi_27:a6t prog 27=some ([.li 0,.li 0,.nl,.nl,.li 0,.li 0,.nl],[(0,1),(1,1),(2,1),(3,1),(4,3)]):=by kernel_rfl
theorem bs_65:bsI prog 65=some ([.li 0],1):=by kernel_rfl
theorem bs_98:bsI prog 98=some ([.li 0,.li 0],2):=by kernel_rfl
theorem bs_23:bsI prog 23=some ([.nl],1):=by kernel_rfl
theorem bs_152:bsI prog 152=some ([.li 0,.li 0],2):=by kernel_rfl
theorem bs_22:bsI prog 22=some ([.nl],1):=by kernel_rfl
theorem bs_52:bsI prog 52=some ([.nl,.nl],2):=by kernel_rfl
theorem ap_65_65:apI prog 65 65=some (1,8):=by kernel_rfl
theorem ap_98_98:apI prog 98 98=some (2,16):=by kernel_rfl
theorem ap_23_23:apI prog 23 23=some (1,24):=by kernel_rfl
theorem ap_152_152:apI prog 152 152=some (2,16):=by kernel_rfl
theorem ap_22_22:apI prog 22 22=some (1,24):=by kernel_rfl
theorem ap_52_52:apI prog 52 52=some (2,48):=by kernel_rfl
attribute [simp] ag_3 ag_84 ag_65 ag_97 ag_22 ag_98 ag_23 ag_49 ag_59 ag_52 ag_54 ag_25 ag_27 ag_4 ag_156 ag_42 ag_39 ag_38 ag_5 ag_41 ag_113 ag_36 ag_44 zl_97 zl_84 zl_59 zl_27 zl_156 zl_54 zl_49 zl_23 zl_25 fo_27_0 fo_27_2 fo_84_1 fo_84_0 fo_97_0 fo_97_1 fo_49_2 fo_49_1 fo_25_2 fo_54_0 fo_54_2 fo_49_0 fo_54_1 fo_27_4 fo_25_1 fo_25_0 fo_27_3 fo_156_0 fo_156_1 fo_41_1 fo_41_0 fo_27_1 fo_41_4 fo_41_3 fo_41_2 fo_38_3 fo_38_4 fo_38_2 fo_38_1 fo_38_0 fo_44_3 fo_44_2 fo_44_1 fo_44_0 es_52 es_22 es_98 es_65 es_23 es_160 es_152 es_39 es_42 es_36 is_102 bi_97 bi_156 bi_59 bi_49 bi_54 bi_84 bi_25 bi_27 bs_65 bs_98 bs_23 bs_152 bs_22 bs_52 ap_65_65 ap_98_98 ap_23_23 ap_152_152 ap_22_22 ap_52_52
theorem gsize:prog.globals.size=0:=by kernel_rfl
end Go.Ai
end
section
namespace Go.Ai
def pl16:List (Nat×List It):=[(11,[.run 0,.run 1,.run 2,.run 3,.run 4,.run 5,.run 6,.run 7,.run 8,.run 9,.run 10,.run 11,.run 12,.run 13,.run 14,.run 15]),(12,[.run 0,.run 1,.mk 2,.run 3,.run 5,.run 6,.run 7,.run 8,.run 9,.run 10,.run 11,.run 12,.run 13,.mk 14,.gate [12,9,6,1] [2],.run 4,.gate [12,9,6,1] [14],.run 15,.gate [1] [],.run 16,.run 17,.run 18]),(16,[.run 0,.run 1,.run 2,.run 3,.run 4,.run 5,.run 6,.run 7,.run 8]),(26,[.mk 0,.run 1,.run 2,.run 3,.run 4,.run 6,.run 7,.run 8,.run 9,.run 10,.run 5,.gate [10,7] [],.run 11,.run 12]),(27,[.run 0,.run 1,.run 2,.run 3,.run 4,.run 5,.run 6,.mk 7,.gate [1] [],.run 8,.run 9,.run 10])]
theorem pl16_at_11:planAt pl16 11=[.run 0,.run 1,.run 2,.run 3,.run 4,.run 5,.run 6,.run 7,.run 8,.run 9,.run 10,.run 11,.run 12,.run 13,.run 14,.run 15]:=(rfl)
attribute [simp] pl16_at_11
theorem pl16_at_12:planAt pl16 12=[.run 0,.run 1,.mk 2,.run 3,.run 5,.run 6,.run 7,.run 8,.run 9,.run 10,.run 11,.run 12,.run 13,.mk 14,.gate [12,9,6,1] [2],.run 4,.gate [12,9,6,1] [14],.run 15,.gate [1] [],.run 16,.run 17,.run 18]:=(rfl)
attribute [simp] pl16_at_12
theorem pl16_at_16:planAt pl16 16=[.run 0,.run 1,.run 2,.run 3,.run 4,.run 5,.run 6,.run 7,.run 8]:=(rfl)
attribute [simp] pl16_at_16
theorem pl16_at_26:planAt pl16 26=[.mk 0,.run 1,.run 2,.run 3,.run 4,.run 6,.run 7,.run 8,.run 9,.run 10,.run 5,.gate [10,7] [],.run 11,.run 12]:=(rfl)
attribute [simp] pl16_at_26
theorem pl16_at_27:planAt pl16 27=[.run 0,.run 1,.run 2,.run 3,.run 4,.run 5,.run 6,.mk 7,.gate [1] [],.run 8,.run 9,.run 10]:=(rfl)
attribute [simp] pl16_at_27
def pl17:List (Nat×List It):=[(6,[.run 0,.run 1,.run 2,.run 3,.run 4,.run 5,.run 6,.run 7,.run 8,.run 9])]
theorem pl17_at_6:planAt pl17 6=[.run 0,.run 1,.run 2,.run 3,.run 4,.run 5,.run 6,.run 7,.run 8,.run 9]:=(rfl)
attribute [simp] pl17_at_6
def pl20:List (Nat×List It):=[(16,[.run 0,.run 1,.run 2,.run 3,.run 4,.run 5,.run 6,.run 7,.run 8,.run 9,.run 10,.run 11,.run 12,.mk 13,.gate [10] [],.run 14,.run 15])]
theorem pl20_at_16:planAt pl20 16=[.run 0,.run 1,.run 2,.run 3,.run 4,.run 5,.run 6,.run 7,.run 8,.run 9,.run 10,.run 11,.run 12,.mk 13,.gate [10] [],.run 14,.run 15]:=(rfl)
attribute [simp] pl20_at_16
def pl21:List (Nat×List It):=[(10,[.run 0,.run 1,.run 2,.run 3,.run 4,.run 5,.run 6,.run 7,.run 8,.run 9,.run 10,.run 11])]
theorem pl21_at_10:planAt pl21 10=[.run 0,.run 1,.run 2,.run 3,.run 4,.run 5,.run 6,.run 7,.run 8,.run 9,.run 10,.run 11]:=(rfl)
attribute [simp] pl21_at_10
def pl22:List (Nat×List It):=[(12,[.run 0,.run 1,.run 3,.run 4,.run 2,.gate [4] [],.run 5,.run 6,.run 7])]
theorem pl22_at_12:planAt pl22 12=[.run 0,.run 1,.run 3,.run 4,.run 2,.gate [4] [],.run 5,.run 6,.run 7]:=(rfl)
attribute [simp] pl22_at_12
def pl23:List (Nat×List It):=[(25,[.run 0,.run 1,.run 2,.run 3,.run 4,.run 5,.run 6,.run 7,.run 8,.run 9,.run 10,.run 11,.run 12,.run 13,.mk 14,.gate [13,11,8,4,1] [],.run 15]),(30,[.run 0,.run 1,.run 2,.run 3,.run 4,.run 5,.run 6,.run 7,.mk 8,.gate [5,1] [],.run 9,.run 10,.run 11])]
theorem pl23_at_25:planAt pl23 25=[.run 0,.run 1,.run 2,.run 3,.run 4,.run 5,.run 6,.run 7,.run 8,.run 9,.run 10,.run 11,.run 12,.run 13,.mk 14,.gate [13,11,8,4,1] [],.run 15]:=(rfl)
attribute [simp] pl23_at_25
theorem pl23_at_30:planAt pl23 30=[.run 0,.run 1,.run 2,.run 3,.run 4,.run 5,.run 6,.run 7,.mk 8,.gate [5,1] [],.run 9,.run 10,.run 11]:=(rfl)
attribute [simp] pl23_at_30
def pl24:List (Nat×List It):=[(7,[.run 0,.run 1,.run 2,.run 3,.run 4,.run 5,.run 6,.run 7,.run 8,.run 9,.run 10,.run 11])]
theorem pl24_at_7:planAt pl24 7=[.run 0,.run 1,.run 2,.run 3,.run 4,.run 5,.run 6,.run 7,.run 8,.run 9,.run 10,.run 11]:=(rfl)
attribute [simp] pl24_at_7
def pl33:List (Nat×List It):=[(6,[.run 0,.run 1,.run 2,.run 3,.run 4,.run 5,.run 6,.run 7,.run 8,.run 9,.run 10,.run 11,.run 12]),(11,[.run 0,.run 1,.run 2,.run 3,.run 4,.run 5,.run 6,.run 7,.run 8,.run 9,.run 10,.run 11,.run 12,.run 13,.run 14,.run 15,.run 16])]
theorem pl33_at_6:planAt pl33 6=[.run 0,.run 1,.run 2,.run 3,.run 4,.run 5,.run 6,.run 7,.run 8,.run 9,.run 10,.run 11,.run 12]:=(rfl)
attribute [simp] pl33_at_6
theorem pl33_at_11:planAt pl33 11=[.run 0,.run 1,.run 2,.run 3,.run 4,.run 5,.run 6,.run 7,.run 8,.run 9,.run 10,.run 11,.run 12,.run 13,.run 14,.run 15,.run 16]:=(rfl)
attribute [simp] pl33_at_11
def pl45:List (Nat×List It):=[(5,[.run 0,.run 1,.run 2,.run 3,.run 4,.run 5,.mk 7,.gate [5,0] [],.run 6,.gate [] [7],.run 8])]
theorem pl45_at_5:planAt pl45 5=[.run 0,.run 1,.run 2,.run 3,.run 4,.run 5,.mk 7,.gate [5,0] [],.run 6,.gate [] [7],.run 8]:=(rfl)
attribute [simp] pl45_at_5
def pl49:List (Nat×List It):=[(11,[.run 0,.run 1,.run 2,.run 3,.run 4,.run 5,.run 6,.gate [3,1] [],.run 7,.run 8])]
theorem pl49_at_11:planAt pl49 11=[.run 0,.run 1,.run 2,.run 3,.run 4,.run 5,.run 6,.gate [3,1] [],.run 7,.run 8]:=(rfl)
attribute [simp] pl49_at_11
def pl59:List (Nat×List It):=[(6,[.run 0,.run 1,.run 2,.run 3,.run 4,.run 5,.run 6,.run 7,.run 8]),(7,[.run 0,.run 1,.run 2,.run 3,.run 4,.run 5,.run 6,.mk 7,.gate [1] [],.run 8,.run 9,.run 10])]
theorem pl59_at_6:planAt pl59 6=[.run 0,.run 1,.run 2,.run 3,.run 4,.run 5,.run 6,.run 7,.run 8]:=(rfl)
attribute [simp] pl59_at_6
theorem pl59_at_7:planAt pl59 7=[.run 0,.run 1,.run 2,.run 3,.run 4,.run 5,.run 6,.mk 7,.gate [1] [],.run 8,.run 9,.run 10]:=(rfl)
attribute [simp] pl59_at_7
def pl61:List (Nat×List It):=[(8,[.run 0,.run 1,.run 2,.run 3,.run 4,.run 5,.run 6,.run 7,.run 8]),(10,[.run 0,.run 1,.run 2,.run 3,.run 4,.run 5,.run 6,.run 7,.run 8])]
theorem pl61_at_8:planAt pl61 8=[.run 0,.run 1,.run 2,.run 3,.run 4,.run 5,.run 6,.run 7,.run 8]:=(rfl)
attribute [simp] pl61_at_8
theorem pl61_at_10:planAt pl61 10=[.run 0,.run 1,.run 2,.run 3,.run 4,.run 5,.run 6,.run 7,.run 8]:=(rfl)
attribute [simp] pl61_at_10
def pl67:List (Nat×List It):=[(18,[.run 0,.run 1,.run 2,.run 3,.run 4,.run 5,.mk 6,.run 7,.mk 8,.gate [5,3,1] [6],.run 9]),(28,[.run 0,.run 1,.run 2,.run 3,.run 4,.run 5,.run 6,.mk 7,.gate [6,1] [],.run 8,.run 9,.run 10]),(29,[.run 0,.run 1,.run 2,.run 3,.run 4,.run 5,.run 6,.run 7,.run 8,.run 9,.run 10,.run 11,.run 12,.run 13,.run 14,.run 15,.run 16,.run 17,.run 18,.mk 19,.gate [18,15,10,8,3,1] [],.run 20,.run 21,.run 22]),(32,[.run 0,.run 1,.run 2,.run 3,.run 5,.run 6,.run 4,.gate [6,1] [],.run 7,.run 8,.mk 9,.gate [1] [],.run 10,.run 11,.run 12])]
theorem pl67_at_18:planAt pl67 18=[.run 0,.run 1,.run 2,.run 3,.run 4,.run 5,.mk 6,.run 7,.mk 8,.gate [5,3,1] [6],.run 9]:=(rfl)
attribute [simp] pl67_at_18
theorem pl67_at_28:planAt pl67 28=[.run 0,.run 1,.run 2,.run 3,.run 4,.run 5,.run 6,.mk 7,.gate [6,1] [],.run 8,.run 9,.run 10]:=(rfl)
attribute [simp] pl67_at_28
theorem pl67_at_29:planAt pl67 29=[.run 0,.run 1,.run 2,.run 3,.run 4,.run 5,.run 6,.run 7,.run 8,.run 9,.run 10,.run 11,.run 12,.run 13,.run 14,.run 15,.run 16,.run 17,.run 18,.mk 19,.gate [18,15,10,8,3,1] [],.run 20,.run 21,.run 22]:=(rfl)
attribute [simp] pl67_at_29
theorem pl67_at_32:planAt pl67 32=[.run 0,.run 1,.run 2,.run 3,.run 5,.run 6,.run 4,.gate [6,1] [],.run 7,.run 8,.mk 9,.gate [1] [],.run 10,.run 11,.run 12]:=(rfl)
attribute [simp] pl67_at_32
def pl69:List (Nat×List It):=[(1,[.run 0,.run 1,.run 3,.run 4,.run 6,.run 7,.run 8,.run 2,.run 10,.gate [8,4] [],.run 5,.gate [8] [],.run 9,.run 11,.run 12,.run 13,.run 14,.run 15,.run 16]),(5,[.run 0,.run 1,.run 2,.run 3,.run 4,.gate [1] [],.run 5,.run 6,.gate [1] [],.run 7]),(10,[.run 0,.run 1,.run 2,.run 3,.run 4,.gate [1] [],.run 5,.run 6,.gate [1] [],.run 7]),(15,[.run 0,.run 1,.run 2,.run 3,.run 4,.run 5,.gate [2] [],.run 6,.run 7,.gate [2] [],.run 8]),(17,[.run 0,.run 1,.run 3,.run 4,.run 6,.run 7,.run 8,.run 2,.run 10,.gate [8,4] [],.run 5,.gate [8] [],.run 9,.run 11,.run 12,.run 13,.run 14,.run 15,.run 16])]
theorem pl69_at_1:planAt pl69 1=[.run 0,.run 1,.run 3,.run 4,.run 6,.run 7,.run 8,.run 2,.run 10,.gate [8,4] [],.run 5,.gate [8] [],.run 9,.run 11,.run 12,.run 13,.run 14,.run 15,.run 16]:=(rfl)
attribute [simp] pl69_at_1
theorem pl69_at_5:planAt pl69 5=[.run 0,.run 1,.run 2,.run 3,.run 4,.gate [1] [],.run 5,.run 6,.gate [1] [],.run 7]:=(rfl)
attribute [simp] pl69_at_5
theorem pl69_at_10:planAt pl69 10=[.run 0,.run 1,.run 2,.run 3,.run 4,.gate [1] [],.run 5,.run 6,.gate [1] [],.run 7]:=(rfl)
attribute [simp] pl69_at_10
theorem pl69_at_15:planAt pl69 15=[.run 0,.run 1,.run 2,.run 3,.run 4,.run 5,.gate [2] [],.run 6,.run 7,.gate [2] [],.run 8]:=(rfl)
attribute [simp] pl69_at_15
theorem pl69_at_17:planAt pl69 17=[.run 0,.run 1,.run 3,.run 4,.run 6,.run 7,.run 8,.run 2,.run 10,.gate [8,4] [],.run 5,.gate [8] [],.run 9,.run 11,.run 12,.run 13,.run 14,.run 15,.run 16]:=(rfl)
attribute [simp] pl69_at_17
def pl72:List (Nat×List It):=[(2,[.run 0,.run 1,.run 2,.run 3,.run 4,.run 5,.run 6,.run 7,.run 8,.run 9,.run 10,.run 11,.run 12,.run 13,.run 14,.run 15,.run 16,.run 17,.run 18,.run 19,.run 20,.run 21,.run 22,.run 23,.run 24]),(4,[.run 0,.run 1,.run 2,.run 3,.run 4,.run 5,.run 6,.run 7,.run 8,.run 9,.run 10])]
theorem pl72_at_2:planAt pl72 2=[.run 0,.run 1,.run 2,.run 3,.run 4,.run 5,.run 6,.run 7,.run 8,.run 9,.run 10,.run 11,.run 12,.run 13,.run 14,.run 15,.run 16,.run 17,.run 18,.run 19,.run 20,.run 21,.run 22,.run 23,.run 24]:=(rfl)
attribute [simp] pl72_at_2
theorem pl72_at_4:planAt pl72 4=[.run 0,.run 1,.run 2,.run 3,.run 4,.run 5,.run 6,.run 7,.run 8,.run 9,.run 10]:=(rfl)
attribute [simp] pl72_at_4
def pl80:List (Nat×List It):=[(8,[.run 0,.run 1,.run 2,.run 3,.run 4,.run 5,.run 6,.run 7,.run 8]),(10,[.run 0,.run 1,.run 2,.run 3,.run 4,.run 5,.run 6,.run 7,.run 8])]
theorem pl80_at_8:planAt pl80 8=[.run 0,.run 1,.run 2,.run 3,.run 4,.run 5,.run 6,.run 7,.run 8]:=(rfl)
attribute [simp] pl80_at_8
theorem pl80_at_10:planAt pl80 10=[.run 0,.run 1,.run 2,.run 3,.run 4,.run 5,.run 6,.run 7,.run 8]:=(rfl)
attribute [simp] pl80_at_10
def pl90:List (Nat×List It):=[(1,[.run 0,.run 1,.run 2,.run 3,.run 4,.run 5,.run 6,.run 7,.run 8,.run 9,.run 10,.run 11,.run 12,.run 15,.run 16,.run 13,.run 14,.gate [16] [],.run 17,.run 18,.run 19,.run 20])]
theorem pl90_at_1:planAt pl90 1=[.run 0,.run 1,.run 2,.run 3,.run 4,.run 5,.run 6,.run 7,.run 8,.run 9,.run 10,.run 11,.run 12,.run 15,.run 16,.run 13,.run 14,.gate [16] [],.run 17,.run 18,.run 19,.run 20]:=(rfl)
attribute [simp] pl90_at_1
def pl106:List (Nat×List It):=[(9,[.run 0,.run 1,.run 2,.run 3,.run 4,.run 5,.run 6,.run 7,.run 8,.run 9,.run 10]),(10,[.run 0,.run 1,.run 2,.run 3,.mk 4,.gate [0] [],.run 5,.run 6])]
theorem pl106_at_9:planAt pl106 9=[.run 0,.run 1,.run 2,.run 3,.run 4,.run 5,.run 6,.run 7,.run 8,.run 9,.run 10]:=(rfl)
attribute [simp] pl106_at_9
theorem pl106_at_10:planAt pl106 10=[.run 0,.run 1,.run 2,.run 3,.mk 4,.gate [0] [],.run 5,.run 6]:=(rfl)
attribute [simp] pl106_at_10
def pl116:List (Nat×List It):=[(12,[.run 0,.run 1,.run 2,.run 3,.run 4,.run 5,.run 6,.run 7,.run 8,.run 9])]
theorem pl116_at_12:planAt pl116 12=[.run 0,.run 1,.run 2,.run 3,.run 4,.run 5,.run 6,.run 7,.run 8,.run 9]:=(rfl)
attribute [simp] pl116_at_12
def pl117:List (Nat×List It):=[(3,[.run 0,.run 1,.run 2,.run 3,.run 4,.run 5,.run 6,.run 7,.run 8,.run 9,.run 10,.run 11,.run 12,.run 13,.run 14,.run 15])]
theorem pl117_at_3:planAt pl117 3=[.run 0,.run 1,.run 2,.run 3,.run 4,.run 5,.run 6,.run 7,.run 8,.run 9,.run 10,.run 11,.run 12,.run 13,.run 14,.run 15]:=(rfl)
attribute [simp] pl117_at_3
def pl135:List (Nat×List It):=[(2,[.run 0,.run 1,.run 2,.run 3,.run 4,.run 5,.run 6,.run 7,.run 8,.run 9,.run 10,.run 11,.run 12,.run 13,.run 14,.run 15,.run 16,.run 17,.run 18,.run 19,.run 20,.run 21]),(4,[.run 0,.run 1,.run 2,.run 3,.run 4,.run 5,.run 6,.run 7,.run 8,.run 9,.run 10])]
theorem pl135_at_2:planAt pl135 2=[.run 0,.run 1,.run 2,.run 3,.run 4,.run 5,.run 6,.run 7,.run 8,.run 9,.run 10,.run 11,.run 12,.run 13,.run 14,.run 15,.run 16,.run 17,.run 18,.run 19,.run 20,.run 21]:=(rfl)
attribute [simp] pl135_at_2
theorem pl135_at_4:planAt pl135 4=[.run 0,.run 1,.run 2,.run 3,.run 4,.run 5,.run 6,.run 7,.run 8,.run 9,.run 10]:=(rfl)
attribute [simp] pl135_at_4
end Go.Ai
end
section
namespace Go.Ai
open Go.Proofs Go.Proofs.Tryz
attribute [simp] gsize
theorem hG:0=Tryz.prog.globals.size:=gsize.symm
theorem ent {f:FuncId} {fn:Func} {c:Code} {args:List AV} {K:Az→Prop} {H:Mem} (plan:List (Nat×List It)) (hf:Tryz.prog.funcs[f]?=some fn) (hb:fn.body=some c) (hd:(Bg fn.ntmps c&&a4r Tryz.prog plan c)=true) (hl:Nat.ble args.length fn.ntmps=true) (h:Dc Tryz.prog (orW noO (WC 0 Tryz.prog)) (LX 0 Tryz.prog fn.ntmps) plan c (b5n args) H (b5m Tryz.prog noO fn K)):WC 0 Tryz.prog f args H K:=WC.enterP (Ah _ _) hG plan hf hb hd (Nat.le_of_ble_eq_true hl) h
theorem rnd (plan:List (Nat×List It)) {n:Nat} {b:Code} {Q:Out→Prop} {fr:Fr} {H:Mem} (hd:(Bg n b&&a4r Tryz.prog plan b)=true) (h:Dc Tryz.prog (orW noO (WC 0 Tryz.prog)) (LX 0 Tryz.prog n) plan b fr H (a6p (fun fr H=>LX 0 Tryz.prog n b fr H Q) Q)):LX 0 Tryz.prog n b fr H Q:=LX.roundP (Ah _ _) hG plan hd h
attribute [simp] Tryz.results5 Tryz.results16 Tryz.results17 Tryz.results20 Tryz.results21 Tryz.results22 Tryz.results23 Tryz.results24 Tryz.results25 Tryz.results26 Tryz.results29 Tryz.results33 Tryz.results37 Tryz.results42 Tryz.results43 Tryz.results44 Tryz.results45 Tryz.results49 Tryz.results52 Tryz.results53 Tryz.results54 Tryz.results59 Tryz.results60 Tryz.results61 Tryz.results62 Tryz.results66 Tryz.results67 Tryz.results68 Tryz.results69 Tryz.results70 Tryz.results71 Tryz.results72 Tryz.results73 Tryz.results74 Tryz.results75 Tryz.results76 Tryz.results77 Tryz.results78 Tryz.results80 Tryz.results88 Tryz.results89 Tryz.results90 Tryz.results91 Tryz.results93 Tryz.results94 Tryz.results97 Tryz.results100 Tryz.results101 Tryz.results103 Tryz.results104 Tryz.results105 Tryz.results106 Tryz.results107 Tryz.results110 Tryz.results115 Tryz.results116 Tryz.results117 Tryz.results119 Tryz.results120 Tryz.results121 Tryz.results122 Tryz.results123 Tryz.results124 Tryz.results125 Tryz.results132 Tryz.results135 Tryz.results139 Tryz.results140 Tryz.results141 Tryz.results143 Tryz.results158
end Go.Ai
end
section
namespace Go.Ai
open Go.Proofs Go.Proofs.Tryz
set_option maxRecDepth 10000
set_option maxHeartbeats 40000000
def inW (w:Wd) (q:Int) : Bool:=w.all fun i=>decide (0<=i/\i<q)
theorem f7a (x q:Int) (p:Nat) (g:Gb) (n:Nat) (hp:g p=some (.cells [.li q] true 0)) (hpn:p<n) :
  WC 0 prog 132 [.li x,.ptr p 0] ⟨.fn g,n⟩ fun r=>r=.ret (.lit (.bool (decide (¬(0<=x/\x<q))))) ⟨.fn g,n⟩:=by
 by_cases t1:x<0
 ·have hd:decide (¬(0<=x/\x<q))=true:=decide_eq_true (by omega);rw[hd];refine ent [] func132 rfl (by decide +kernel) (by kernel_rfl) ?_
  iterate 6 all_goals try first|apply spl<;>intro h|simp (disch:=first|assumption|omega|simp) [*]
 by_cases t2:q<=x
 ·have hd:decide (¬(0<=x/\x<q))=true:=decide_eq_true (by omega);rw[hd];refine ent [] func132 rfl (by decide +kernel) (by kernel_rfl) ?_
  iterate 6 all_goals try first|apply spl<;>intro h|simp (disch:=first|assumption|omega|simp) [*]
 ·have hd:decide (¬(0<=x/\x<q))=false:=decide_eq_false (by omega);rw[hd];refine ent [] func132 rfl (by decide +kernel) (by kernel_rfl) ?_
  iterate 6 all_goals try first|apply spl<;>intro h|simp (disch:=first|assumption|omega|simp) [*]
theorem f7b (w:Wd) (hwl:w.length<=1000000) (q:Int) (sv:AV) (p:Nat) (g:Gb) (n:Nat) (hp:g p=some (.cells [.li q] true 0)) (hpn:p<n) (hsv:Ak g n w sv) :
  WC 0 prog 143 [sv,.func (.func 132) [] [.ptr p 0]] ⟨.fn g,n⟩ fun r=>∃ z:Int,r=.ret (.li z) ⟨.fn g,n⟩/\decide (0<=z) = !(w.all fun i=>decide (0<=i/\i<q)):=by
 have hlen:=@Am prog _ _ _ _ _ hsv;have HS:=Aa.mk hsv;have HP:=Aa.mk hp;clear hsv hp;obtain⟨ret,hret⟩ : ∃ b,b = !(w.all fun i=>decide (0<=i/\i<q)):=⟨_,rfl⟩;rw[<- hret];have HRET:=Aa.mk hret;clear hret;refine ent [] func143 rfl (by decide +kernel) (by kernel_rfl) ?_
 iterate 6 all_goals try first|apply spl<;>intro h|simp (disch:=first|assumption|omega|simp) [*]
 refine LX.ind (fun m gf H'=>∃ (k:Nat),k<=w.length/\m=w.length-k/\H'=⟨.fn g,n⟩/\Aa (∀ i∈w.take k,0<=i/\i<q) /\
  gf 0=some sv/\gf 1=some (.func (.func 132) [] [.ptr p 0])/\gf 7=some (.li w.length)/\gf 8=some (.li k)) (m0:=w.length) ?_ ?_
 ·exact⟨0,Du _,rfl,rfl,⟨by simp⟩,by simp[*]⟩
 rintro m gf H' ⟨k,hk,rfl,rfl,HPRE,w0,w1,w7,w8⟩ ih;refine rnd [] (by decide +kernel) ?_;by_cases hlt:k<w.length
 ·have hltI:(k:Int)<(w.length:Int):=by omega
  obtain⟨a2,off,ha2,hrow,hia⟩:=Ag.ia (P:=prog) HS.out hlt 1;simp only[El] at hia;have hcell:=hrow.one (k:=k) (s:=1) (by rw[Bi];exact hlt);rw[(Ea.1 (a4c w k hlt)).2] at hcell;have htk:w.take (k+1)=w.take k++[w[k]]:=by rw[g3e,Dv hlt];rfl
  have HT:=Aa.mk htk;have HM:=Aa.mk (Dt hlt);clear htk hrow ha2;generalize w[k]=x at *;have HC:=Aa.mk (f7a x q p g n HP.out hpn)
  iterate 6 all_goals try first|apply spl<;>intro h|simp (disch:=first|assumption|omega|simp) [*]
  refine WC.mono HC.out ?_;rintro _ rfl;by_cases hb:0<=x/\x<q
  ·have hd:decide (¬(0<=x/\x<q))=false:=decide_eq_false (by omega);rw[hd];have HB:=Aa.mk hb;clear hb
   iterate 6 all_goals try first|apply spl<;>intro h|simp (disch:=first|assumption|omega|simp) [*]
   refine ih.out (w.length-(k+1)) _ _ (by omega) ⟨k+1,by omega,rfl,rfl,⟨fun i hi=>?_⟩,by simp[*]⟩;rw[HT.out] at hi;rcases Eg.1 hi with h|h
   ·exact HPRE.out i h
   ·rw[En.1 h];exact HB.out
  ·have hd:decide (¬(0<=x/\x<q))=true:=decide_eq_true hb;rw[hd];have hr:ret=true:=by
    rw[HRET.out,g4w,g5c];exact⟨x,HM.out,by simpa using hb⟩
   clear hb
   iterate 6 all_goals try first|apply spl<;>intro h|simp (disch:=first|assumption|omega|simp) [*]
 ·have hltI:¬(k:Int)<(w.length:Int):=by omega
  have hk2:k=w.length:=by omega
  have hr:ret=false:=by
   rw[HRET.out,Bool.not_eq_false',Eb];intro i hi;have:=HPRE.out i (by rw[hk2,Ep];exact hi);simpa using this
  clear hk2
  iterate 6 all_goals try first|apply spl<;>intro h|simp (disch:=first|assumption|omega|simp) [*]
theorem f7c (w:Wd) (hwl:w.length<=1000000) (q:Int) (sv:AV) (p:Nat) (g:Gb) (n:Nat) (hp:g p=some (.cells [.li q] true 0)) (hpn:p<n) (hsv:Ak g n w sv) :
  WC 0 prog 124 [sv,.func (.func 132) [] [.ptr p 0]] ⟨.fn g,n⟩ fun r=>r=.ret (.lit (.bool (!(w.all fun i=>decide (0<=i/\i<q))))) ⟨.fn g,n⟩:=by
 have HI:=Aa.mk (f7b w hwl q sv p g n hp hpn hsv);clear hp hsv;generalize (!(w.all fun i=>decide (0<=i/\i<q)))=bb at *;refine ent [] func124 rfl (by decide +kernel) (by kernel_rfl) ?_
 iterate 6 all_goals try first|apply spl<;>intro h|simp (disch:=first|assumption|omega|simp) [*]
 refine WC.mono HI.out ?_;rintro _ ⟨z,rfl,hz⟩
 cases bb with
 | true =>
  have hz1:0<=z:=of_decide_eq_true hz;clear hz
  iterate 6 all_goals try first|apply spl<;>intro h|simp (disch:=first|assumption|omega|simp) [*]
 | false =>
  have hz1:¬0<=z:=of_decide_eq_false hz;clear hz
  iterate 6 all_goals try first|apply spl<;>intro h|simp (disch:=first|assumption|omega|simp) [*]
theorem f7d (w:Wd) (hwl:w.length<=1000000) (q:Int) (sv:AV) (g:Gb) (n:Nat) (hsv:Ak g n w sv) :
  WC 0 prog 101 [sv,.li q] ⟨.fn g,n⟩ fun r=>r=.ret (.lit (.bool (inW w q))) ⟨.fn g,n⟩:=by
 refine WC.drop1 rfl ?_;have HC:=Aa.mk (f7c w hwl q sv n (Aj g n (some (.cells [.li q] true 0))) (n+1) Af (by omega) (Ag.mono (by omega) (fun a ha=>Ab ha) hsv));have hin:(w.all fun i=>decide (0<=i/\i<q))=inW w q:=rfl;rw[hin] at HC;clear hin hsv;generalize inW w q=bb at *;refine ent [] func101 rfl (by decide +kernel) (by kernel_rfl) ?_
 iterate 8 all_goals try first|apply spl<;>intro h|simp (disch:=first|assumption|omega|simp) [*]
 refine WC.mono HC.out ?_;rintro _ rfl;cases bb
 all_goals
  iterate 8 all_goals try first|apply spl<;>intro h|simp (disch:=first|assumption|omega|simp) [*]
  all_goals exact⟨Dy n,fun b hb=>Ab hb⟩
end Go.Ai
end
section
namespace Go.Ai
open Go.Proofs Go.Proofs.Tryz
set_option maxRecDepth 10000
set_option maxHeartbeats 40000000
variable {g:Gb} {ts:Lq}
def RowsT (g:Gb) (n:Nat) (ts:Lq) (cs:List AV) : Prop :=
 cs.length=ts.length*2/\∀ (k:Nat) (h:k<ts.length),∃ s1 s2,cs[k*2]?=some s1/\cs[k*2+1]?=some s2/\Ak g n ts[k].1 s1/\Ak g n ts[k].2 s2
theorem RowsT.ext {g': Gb} {b b': Nat} {cs:List AV} (h:RowsT g b ts cs) (hb:b<=b') (hg:∀ a x,a<b->g a=some x->g' a=some x) : RowsT g' b' ts cs :=
 ⟨h.1,fun k hk=>let ⟨s1,s2,h1,h2,h3,h4⟩:=h.2 k hk;⟨s1,s2,h1,h2,Ag.ext hb hg h3,Ag.ext hb hg h4⟩⟩
def a0w (g:Gb) (n:Nat) (ts:Lq) (sv:AV) : Prop:=∃ cs,Ag g n sv ts.length cs/\RowsT g n ts cs
theorem a0w.mono {g': Gb} {n n': Nat} {sv:AV} (h:a0w g n ts sv) (hn:n<=n') (hg:∀ a,a<n->g' a=g a) : a0w g' n' ts sv :=
 let ⟨cs,h1,h2⟩:=h;⟨cs,h1.mono hn hg,h2.ext hn fun a x ha hx=>(hg a ha).trans hx⟩
theorem d4z {cs:List AV} {k:Nat} {s1 s2:AV} (h1:cs[k]?=some s1) (h2:cs[k+1]?=some s2) : (cs.drop k).take 2=[s1,s2]:=by
 obtain⟨a1,b1⟩:=Ea.1 h1;obtain⟨a2,b2⟩:=Ea.1 h2;rw[Ef a1,Ef a2,b1,b2];rfl
structure AtT (g:Gb) (n:Nat) (sv:AV) (k:Nat) (t:List Int×Wd) (a off:Nat) (s1 s2:AV) : Prop where
 an:a<n
 ia:∀ {H:Mem} {ev:Ev} {o:Oper} {ty:TypeId},iaS prog H ev o ty (some (none,2)) (some sv) (some (.li (k:Int)))=.val (.ptr a (off+k*2)) H
 agg:Bd (some (true,2)) (g a) (off+k*2)=some (.agg [s1,s2])
 c0:Bd (some (false,1)) (g a) (off+k*2)=some s1
 c1:Bd (some (false,1)) (g a) (off+k*2+1)=some s2
 r1:Ak g n t.1 s1
 r2:Ak g n t.2 s2
theorem a0w.at {n:Nat} {sv:AV} (h:a0w g n ts sv) {k:Nat} (hk:k<ts.length) : ∃ a off s1 s2,AtT g n sv k ts[k] a off s1 s2:=by
 obtain⟨cs,h1,h2⟩:=h;obtain⟨s1,s2,e1,e2,r1,r2⟩:=h2.2 k hk;obtain⟨a,off,ha,hrow,hia⟩:=Ag.ia (P:=prog) h1 hk 2;have hl:=h2.1;refine⟨a,off,s1,s2,ha,hia,?_,?_,?_,r1,r2⟩
 ·rw[hrow.agg (k:=k*2) (s:=2) (by omega),d4z e1 e2]
 ·have:=hrow.one (k:=k*2) (s:=1) (by omega)
  rwa [(Ea.1 e1).2] at this
 ·have:=hrow.one (k:=k*2+1) (s:=1) (by omega);rw[(Ea.1 e2).2] at this;rw[g3u];exact this
def b0f (I O:Int) (ts:Lq) : Bool:=(ts.all fun t=>decide (t.1.length<=256)) && decide (I<=16) && decide (O<=16)
theorem f7e (I O:Int) (ts:Lq) (hl:ts.length<=200) (hw:∀ t∈ts,t.1.length<=300) (g:Gb) (n:Nat) (sv:AV) (hT:a0w g n ts sv) :
  WC 0 prog 100 [.agg [.li I,.li O,sv]] ⟨.fn g,n⟩ fun r=>r=.ret (.lit (.bool (b0f I O ts))) ⟨.fn g,n⟩:=by
 refine WC.drop1 rfl ?_;have hlen:=@Am prog _ _ _ _ _ hT.choose_spec.1;have h1s:=hT.choose_spec.1.one;have hone:allOne [.li I,.li O,sv]=true:=by simp[h1s]
 have HT:=Aa.mk hT;have HW:=Aa.mk hw;clear hT hw;obtain⟨ret,hret⟩ : ∃ b,b=b0f I O ts:=⟨_,rfl⟩;rw[<- hret];have HRET:=Aa.mk hret;clear hret;refine ent [] func100 rfl (by decide +kernel) (by kernel_rfl) ?_
 iterate 8 all_goals try first|apply spl<;>intro h|simp (disch:=first|assumption|omega|simp) [*]
 refine LX.ind (fun m gf H'=>∃ (k st n' : Nat) (gL:Gb),k<=ts.length/\m=ts.length-k/\H'=⟨.fn gL,n'⟩/\n<n'/\Aa (∀ b,b<n->gL b=g b)/\gL n=some (.cells [.li I,.li O,sv] true 0) /\
  Aa (∀ t∈ts.take k,t.1.length<=256)/\st<=k*300/\gf 1=some (.ptr n 0)/\gf 3=some (.li st)/\gf 7=some sv/\gf 8=some (.li ts.length)/\gf 9=some (.li k)) (m0:=ts.length) ?_ ?_
 ·exact⟨0,0,_,_,Du _,rfl,rfl,g4y n,⟨fun b hb=>Ab hb⟩,Af,⟨by simp⟩,by omega,by simp[*]⟩
 rintro m gf H' ⟨k,st,n',gL,hk,rfl,rfl,hn',HG,hgn,HP,hst,w1,w3,w7,w8,w9⟩ ih;refine rnd [] (by decide +kernel) ?_;by_cases hlt:k<ts.length
 ·have hltI:(k:Int)<(ts.length:Int):=by omega
  obtain⟨a2,off,s1,s2,HAT0⟩:=(HT.out.mono (Fb hn') HG.out).at hlt;have HAT:=Aa.mk HAT0;clear HAT0;have hia:∀ {H:Mem} {ev:Ev} {o:Oper} {ty:TypeId},iaS prog H ev o ty (some (none,2)) (some sv) (some (.li (k:Int)))=.val (.ptr a2 (off+k*2)) H:=fun {H ev o ty}=>HAT.out.ia;have hcell:=HAT.out.agg;have hlw:=@Am prog _ _ _ _ _ HAT.out.r1;have h1a:=HAT.out.r1.one;have h1b:=HAT.out.r2.one;have hone2:allOne [s1,s2]=true:=by simp[h1a,h1b]
  have hwl:=HW.out _ (Dt hlt);have HTK:Aa (ts.take (k+1)=ts.take k++[ts[k]]):=⟨by rw[g3e,Dv hlt];rfl⟩;have HMEM:=Aa.mk (Dt hlt);clear HAT;generalize ts[k]=t at *;by_cases hbig:t.1.length > 256
  ·have hbigI:256<(t.1.length:Int):=by omega
   have hr:ret=false:=by
    rw[HRET.out];unfold b0f;rw[g5x,g5x];left;left;rw[g5c];exact⟨t,HMEM.out,by simpa using hbig⟩
   have hk1:¬1024<=(k:Int):=by omega
   iterate 8 all_goals try first|apply spl<;>intro h|simp (disch:=first|assumption|omega|simp) [*]
   exact⟨Fb (g3y hn'),fun b (hb:b<n)=>(Ab (by omega)).trans (HG.out b hb)⟩
  ·have hbigI:¬256<(t.1.length:Int):=by omega
   have hk1:¬1024<=(k:Int):=by omega
   have hs1:¬65536<(st:Int)+(t.1.length:Int):=by omega
   have HP2:Aa (∀ t∈ts.take (k+1),t.1.length<=256):=⟨fun v hv=>by
    rw[HTK.out] at hv;rcases Eg.1 hv with h|h
    ·exact HP.out v h
    ·rw[En.1 h];omega⟩
   iterate 8 all_goals try first|apply spl<;>intro h|simp (disch:=first|assumption|omega|simp) [*]
   exact ih.out (ts.length-(k+1)) _ _ (by omega) ⟨k+1,st+t.1.length,_,_,by omega,rfl,rfl,by omega,⟨fun b hb=>(Ab (by omega)).trans (HG.out b hb)⟩,(Ab (by omega)).trans hgn,HP2,by omega,by simp[*]⟩
 ·have hltI:¬(k:Int)<(ts.length:Int):=by omega
  have hall:(ts.all fun t=>decide (t.1.length<=256))=true:=Eb.2 fun t ht=>decide_eq_true (HP.out t (by rw[show k=ts.length by omega,Ep];exact ht));have hr0:ret=(decide (I<=16) && decide (O<=16)):=by rw[HRET.out];unfold b0f;rw[hall,g3f]
  clear hall HP;by_cases t1:I<=16
  ·by_cases t2:O<=16
   ·have hr:ret=true:=by rw[hr0,decide_eq_true t1,decide_eq_true t2];rfl
    clear hr0
    iterate 8 all_goals try first|apply spl<;>intro h|simp (disch:=first|assumption|omega|simp) [*]
    exact⟨Fb hn',fun b hb=>HG.out b hb⟩
   ·have hr:ret=false:=by rw[hr0,decide_eq_false t2,g3i]
    clear hr0
    iterate 8 all_goals try first|apply spl<;>intro h|simp (disch:=first|assumption|omega|simp) [*]
    exact⟨Fb hn',fun b hb=>HG.out b hb⟩
  ·have hr:ret=false:=by rw[hr0,decide_eq_false t1,g2j]
   clear hr0
   iterate 8 all_goals try first|apply spl<;>intro h|simp (disch:=first|assumption|omega|simp) [*]
   exact⟨Fb hn',fun b hb=>HG.out b hb⟩
end Go.Ai
end
section
namespace Go.Ai
open Go.Proofs Go.Proofs.Tryz
set_option maxRecDepth 10000
set_option maxHeartbeats 40000000
def okR (O:Int) : Bool->Wd->Bool
 | _,[]=>true
 | p,o :: r=>!(decide (o < -1) || (decide (O<=o) || (p && decide (¬o = -1)))) && okR O (decide (o = -1)) r
def Cn (I O:Int) (t:List Int×Wd) : Bool:=decide (t.2.length=t.1.length) && inW t.1 I && okR O false t.2
theorem f7f {O:Int} {p:Bool} {r:Wd} {k:Nat} (h:k<r.length) : okR O p (r.drop k)=(!(decide (r[k] < -1) || (decide (O<=r[k]) || (p && decide (¬r[k] = -1)))) && okR O (decide (r[k] = -1)) (r.drop (k+1))):=by
 rw[Ef h];rfl
theorem f7g (I O:Int) (t:List Int×Wd) (hw1:t.1.length<=300) (hw2:t.2.length<=300) (g:Gb) (n:Nat) (s1 s2:AV) (h1:Ak g n t.1 s1) (h2:Ak g n t.2 s2) :
  WC 0 prog 115 [.agg [s1,s2],.li I,.li O] ⟨.fn g,n⟩ fun r=>r=.ret (.lit (.bool (Cn I O t))) ⟨.fn g,n⟩:=by
 refine WC.drop1 rfl ?_;have hl1:=@Am prog _ _ _ _ _ h1;have hl2:=@Am prog _ _ _ _ _ h2;have h1a:=h1.one;have h1b:=h2.one;have hone2:allOne [s1,s2]=true:=by simp[h1a,h1b]
 have HI:=Aa.mk (f7d t.1 (by omega) I s1 (Aj g n (some (.cells [s1,s2] true 0))) (n+1) (Ag.mono (by omega) (fun a ha=>Ab ha) h1));have H2:=Aa.mk h2;clear h1 h2;obtain⟨ret,hret⟩ : ∃ b,b=Cn I O t:=⟨_,rfl⟩;rw[<- hret];unfold Cn at hret;by_cases t1:t.2.length=t.1.length
 ·rw[decide_eq_true t1,g3f] at hret;rw[<- t1] at hl1;clear hw1 t1;generalize inW t.1 I=bb at *
  cases bb with
  | false =>
   have hr:ret=false:=by rw[hret,g2j]
   clear hret;refine ent [] func115 rfl (by decide +kernel) (by kernel_rfl) ?_
   iterate 8 all_goals try first|apply spl<;>intro h|simp (disch:=first|assumption|omega|simp) [*]
   refine WC.mono HI.out ?_;rintro _ rfl
   iterate 8 all_goals try first|apply spl<;>intro h|simp (disch:=first|assumption|omega|simp) [*]
   all_goals exact⟨Dy n,fun b hb=>Ab hb⟩
  | true =>
   rw[g3f] at hret;have HRET:=Aa.mk hret;clear hret;refine ent [] func115 rfl (by decide +kernel) (by kernel_rfl) ?_
   iterate 8 all_goals try first|apply spl<;>intro h|simp (disch:=first|assumption|omega|simp) [*]
   refine WC.mono HI.out ?_;rintro _ rfl
   iterate 8 all_goals try first|apply spl<;>intro h|simp (disch:=first|assumption|omega|simp) [*]
   refine LX.ind (fun m gf H'=>∃ (k:Nat) (p:Bool),k<=t.2.length/\m=t.2.length-k/\H'=⟨.fn (Aj g n (some (.cells [s1,s2] true 0))),n+1⟩ /\
    Aa (ret=okR O p (t.2.drop k))/\gf 2=some (.li O)/\gf 7=some (.lit (.bool p))/\gf 25=some s2/\gf 26=some (.li t.2.length)/\gf 27=some (.li k)) (m0:=t.2.length) ?_ ?_
   ·exact⟨0,false,Du _,rfl,rfl,⟨by rw[g3p];exact HRET.out⟩,by simp[*]⟩
   rintro m gf H' ⟨k,p,hk,rfl,rfl,HP,w2,w7,w25,w26,w27⟩ ih;refine rnd [] (by decide +kernel) ?_;by_cases hlt:k<t.2.length
   ·have hltI:(k:Int)<(t.2.length:Int):=by omega
    obtain⟨a2,off,ha2,hrow,hia⟩:=Ag.ia (P:=prog) H2.out hlt 1;simp only[El] at hia;have hcell:=hrow.one (k:=k) (s:=1) (by rw[Bi];exact hlt);rw[(Ea.1 (a4c t.2 k hlt)).2] at hcell;have HD:Aa (ret=(!(decide (t.2[k] < -1) || (decide (O<=t.2[k]) || (p && decide (¬t.2[k] = -1)))) && okR O (decide (t.2[k] = -1)) (t.2.drop (k+1)))):=⟨by rw[HP.out,f7f hlt]⟩;clear hrow;generalize t.2[k]=o at *;by_cases u1:o < -1
    ·have hr:ret=false:=by rw[HD.out,decide_eq_true u1];rfl
     iterate 8 all_goals try first|apply spl<;>intro h|simp (disch:=first|assumption|omega|simp) [*]
     all_goals exact⟨Dy n,fun b hb=>Ab hb⟩
    by_cases u2:O<=o
    ·have hr:ret=false:=by rw[HD.out,decide_eq_true u2,g4a,g4d];rfl
     iterate 8 all_goals try first|apply spl<;>intro h|simp (disch:=first|assumption|omega|simp) [*]
     all_goals exact⟨Dy n,fun b hb=>Ab hb⟩
    by_cases u3:o = -1
    ·have HD2:Aa (ret=okR O true (t.2.drop (k+1))):=⟨by rw[HD.out,decide_eq_false u1,decide_eq_false u2,decide_eq_true u3,decide_eq_false (by simpa using u3)];simp⟩;subst u3;clear HD;cases p
     all_goals
      iterate 8 all_goals try first|apply spl<;>intro h|simp (disch:=first|assumption|omega|simp) [*]
      exact ih.out (t.2.length-(k+1)) _ _ (by omega) ⟨k+1,true,by omega,rfl,rfl,HD2,by simp[*]⟩
    ·cases p with
     | true =>
      have hr:ret=false:=by rw[HD.out,decide_eq_true (by simpa using u3:¬o = -1)];simp
      iterate 8 all_goals try first|apply spl<;>intro h|simp (disch:=first|assumption|omega|simp) [*]
      all_goals exact⟨Dy n,fun b hb=>Ab hb⟩
     | false =>
      have HD2:Aa (ret=okR O false (t.2.drop (k+1))):=⟨by rw[HD.out,decide_eq_false u1,decide_eq_false u2,decide_eq_false u3];simp⟩;clear HD
      iterate 8 all_goals try first|apply spl<;>intro h|simp (disch:=first|assumption|omega|simp) [*]
      exact ih.out (t.2.length-(k+1)) _ _ (by omega) ⟨k+1,false,by omega,rfl,rfl,HD2,by simp[*]⟩
   ·have hltI:¬(k:Int)<(t.2.length:Int):=by omega
    have hr:ret=true:=by rw[HP.out,Ex (by omega)];rfl
    iterate 8 all_goals try first|apply spl<;>intro h|simp (disch:=first|assumption|omega|simp) [*]
    all_goals exact⟨Dy n,fun b hb=>Ab hb⟩
 ·have t1I:¬(t.2.length:Int)=(t.1.length:Int):=by omega
  have hr:ret=false:=by rw[hret,decide_eq_false t1];rfl
  clear hret;refine ent [] func115 rfl (by decide +kernel) (by kernel_rfl) ?_
  iterate 8 all_goals try first|apply spl<;>intro h|simp (disch:=first|assumption|omega|simp) [*]
  all_goals exact⟨Dy n,fun b hb=>Ab hb⟩
end Go.Ai
end
section
namespace Go.Ai
open Go.Proofs Go.Proofs.Tryz
set_option maxRecDepth 10000
set_option maxHeartbeats 40000000
def b6v (I O:Int) (ts:Lq) : Int:=if b0f I O ts=false then 3 else if I<1\/O<1 then 1 else if ts.all (Cn I O)=true then 0 else 1
structure c0c (ts:Lq) : Prop where
 len:ts.length<=200
 w1:∀ t∈ts,t.1.length<=300
 w2:∀ t∈ts,t.2.length<=300
theorem d5a (I O:Int) (ts:Lq) (hl:c0c ts) (g:Gb) (n:Nat) (sv:AV) (hT:a0w g n ts sv) :
  WC 0 prog 66 [.agg [.li I,.li O,sv]] ⟨.fn g,n⟩ fun r=>r=.ret (.li (b6v I O ts)) ⟨.fn g,n⟩:=by
 refine WC.drop1 rfl ?_;have hlen:=@Am prog _ _ _ _ _ hT.choose_spec.1;have h1s:=hT.choose_spec.1.one;have hone:allOne [.li I,.li O,sv]=true:=by simp[h1s]
 have HT:=Aa.mk hT;have HW:=Aa.mk hl;have hl20:=hl.len;have HIN:=Aa.mk (f7e I O ts hl.len hl.w1 (Aj g n (some (.cells [.li I,.li O,sv] true 0))) (n+1) sv (hT.mono (Dy n) fun a ha=>Ab ha));clear hT hl;obtain⟨ret,hret⟩ : ∃ b,b=b6v I O ts:=⟨_,rfl⟩;rw[<- hret];unfold b6v at hret;generalize b0f I O ts=wb at *
 cases wb with
 | false =>
  have hr:ret=3:=by rw[hret,if_pos rfl]
  clear hret;refine ent [] func66 rfl (by decide +kernel) (by kernel_rfl) ?_
  iterate 8 all_goals try first|apply spl<;>intro h|simp (disch:=first|assumption|omega|simp) [*]
  refine WC.mono HIN.out ?_;rintro _ rfl
  iterate 8 all_goals try first|apply spl<;>intro h|simp (disch:=first|assumption|omega|simp) [*]
  all_goals exact⟨Dy n,fun b hb=>Ab hb⟩
 | true =>
 rw[if_neg (by simp)] at hret;by_cases t1:I<1
 ·have hr:ret=1:=by rw[hret,if_pos (.inl t1)]
  clear hret;refine ent [] func66 rfl (by decide +kernel) (by kernel_rfl) ?_
  iterate 8 all_goals try first|apply spl<;>intro h|simp (disch:=first|assumption|omega|simp) [*]
  refine WC.mono HIN.out ?_;rintro _ rfl
  iterate 8 all_goals try first|apply spl<;>intro h|simp (disch:=first|assumption|omega|simp) [*]
  all_goals exact⟨Dy n,fun b hb=>Ab hb⟩
 by_cases t2:O<1
 ·have hr:ret=1:=by rw[hret,if_pos (.inr t2)]
  clear hret;refine ent [] func66 rfl (by decide +kernel) (by kernel_rfl) ?_
  iterate 8 all_goals try first|apply spl<;>intro h|simp (disch:=first|assumption|omega|simp) [*]
  refine WC.mono HIN.out ?_;rintro _ rfl
  iterate 8 all_goals try first|apply spl<;>intro h|simp (disch:=first|assumption|omega|simp) [*]
  all_goals exact⟨Dy n,fun b hb=>Ab hb⟩
 rw[if_neg (by omega)] at hret;have HRET:=Aa.mk hret;clear hret;refine ent [] func66 rfl (by decide +kernel) (by kernel_rfl) ?_
 iterate 8 all_goals try first|apply spl<;>intro h|simp (disch:=first|assumption|omega|simp) [*]
 refine WC.mono HIN.out ?_;rintro _ rfl
 iterate 8 all_goals try first|apply spl<;>intro h|simp (disch:=first|assumption|omega|simp) [*]
 refine LX.ind (fun m gf H'=>∃ (k n' : Nat) (gL:Gb),k<=ts.length/\m=ts.length-k/\H'=⟨.fn gL,n'⟩/\n<n'/\Aa (∀ b,b<n->gL b=g b)/\gL n=some (.cells [.li I,.li O,sv] true 0) /\
  Aa (∀ t∈ts.take k,Cn I O t=true)/\gf 1=some (.ptr n 0)/\gf 17=some sv/\gf 18=some (.li ts.length)/\gf 19=some (.li k)) (m0:=ts.length) ?_ ?_
 ·exact⟨0,_,_,Du _,rfl,rfl,g4y n,⟨fun b hb=>Ab hb⟩,Af,⟨by simp⟩,by simp[*]⟩
 rintro m gf H' ⟨k,n',gL,hk,rfl,rfl,hn',HG,hgn,HP,w1,w17,w18,w19⟩ ih;refine rnd [] (by decide +kernel) ?_;by_cases hlt:k<ts.length
 ·have hltI:(k:Int)<(ts.length:Int):=by omega
  obtain⟨a2,off,s1,s2,HAT0⟩:=(HT.out.mono (Fb hn') HG.out).at hlt;have HAT:=Aa.mk HAT0;clear HAT0;have hia:∀ {H:Mem} {ev:Ev} {o:Oper} {ty:TypeId},iaS prog H ev o ty (some (none,2)) (some sv) (some (.li (k:Int)))=.val (.ptr a2 (off+k*2)) H:=fun {H ev o ty}=>HAT.out.ia;have hcell:=HAT.out.agg;have h1a:=HAT.out.r1.one;have h1b:=HAT.out.r2.one;have hone2:allOne [s1,s2]=true:=by simp[h1a,h1b]
  have HMEM:=Aa.mk (Dt hlt);have HTK:Aa (ts.take (k+1)=ts.take k++[ts[k]]):=⟨by rw[g3e,Dv hlt];rfl⟩;have HV:=Aa.mk (f7g I O ts[k] (HW.out.w1 _ HMEM.out) (HW.out.w2 _ HMEM.out) (Aj gL n' (some (.cells [s1,s2] true 0))) (n'+1) s1 s2 (Ag.mono (Dy n') (fun a ha=>Ab ha) HAT.out.r1) (Ag.mono (Dy n') (fun a ha=>Ab ha) HAT.out.r2));clear HAT;generalize ts[k]=t at *;have HVB:Aa (∃ b,b=Cn I O t):=⟨⟨_,rfl⟩⟩;generalize hvb:Cn I O t=vb at *;have HVV:=Aa.mk hvb;clear hvb HVB
  cases vb with
  | false =>
   have hr:ret=1:=by
    rw[HRET.out,if_neg];intro h;have:=Eb.1 h t HMEM.out;rw[HVV.out] at this;exact absurd this (by simp)
   iterate 8 all_goals try first|apply spl<;>intro h|simp (disch:=first|assumption|omega|simp) [*]
   refine WC.mono HV.out ?_;rintro _ rfl
   iterate 8 all_goals try first|apply spl<;>intro h|simp (disch:=first|assumption|omega|simp) [*]
   all_goals exact⟨Fb (g3y hn'),fun b (hb:b<n)=>(Ab (by omega)).trans (HG.out b hb)⟩
  | true =>
   have HP2:Aa (∀ t∈ts.take (k+1),Cn I O t=true):=⟨fun v hv=>by
    rw[HTK.out] at hv;rcases Eg.1 hv with h|h
    ·exact HP.out v h
    ·rw[En.1 h];exact HVV.out⟩
   iterate 8 all_goals try first|apply spl<;>intro h|simp (disch:=first|assumption|omega|simp) [*]
   refine WC.mono HV.out ?_;rintro _ rfl
   iterate 8 all_goals try first|apply spl<;>intro h|simp (disch:=first|assumption|omega|simp) [*]
   exact ih.out (ts.length-(k+1)) _ _ (by omega) ⟨k+1,_,_,by omega,rfl,rfl,by omega,⟨fun b hb=>(Ab (by omega)).trans (HG.out b hb)⟩,(Ab (by omega)).trans hgn,HP2,by simp[*]⟩
 ·have hltI:¬(k:Int)<(ts.length:Int):=by omega
  have hr:ret=0:=by
   rw[HRET.out,if_pos];exact Eb.2 fun t ht=>HP.out t (by rw[show k=ts.length by omega,Ep];exact ht)
  clear HP
  iterate 8 all_goals try first|apply spl<;>intro h|simp (disch:=first|assumption|omega|simp) [*]
  exact⟨Fb hn',fun b hb=>HG.out b hb⟩
end Go.Ai
end
section
namespace Go.Ai
open Go.Proofs Go.Proofs.Tryz
set_option maxRecDepth 10000
set_option maxHeartbeats 40000000
theorem Ak.at {g:Gb} {n:Nat} {w:Wd} {q1:AV} (h:Ak g n w q1) {k:Nat} (hk:k<w.length) : ∃ a off,a<n/\(∀ {H:Mem} {ev:Ev} {o:Oper} {t:TypeId},iaS prog H ev o t (some (none,1)) (some q1) (some (.li (k:Int)))=.val (.ptr a (off+k)) H)/\Bd (some (false,1)) (g a) (off+k)=some (.lit (.int .i64 w[k])):=by
 obtain⟨a2,off,ha2,hrow,hia⟩:=Ag.ia (P:=prog) h hk 1;simp only[El] at hia;have hcell:=hrow.one (k:=k) (s:=1) (by rw[Bi];exact hk);rw[(Ea.1 (a4c w k hk)).2] at hcell;exact⟨a2,off,ha2,hia,hcell⟩
end Go.Ai
end
section
namespace Go.Ai
open Go.Proofs Go.Proofs.Tryz
set_option maxRecDepth 10000
set_option maxHeartbeats 40000000
def a8j (l:List Nat) : List AV:=l.map fun (c:Nat)=>.lit (.int .u16 (c:Int))
theorem d5b (st inp out:Nat) (part:Bool) (es:List Nat) (ev:AV) (g:Gb) (n:Nat) (hst:st<256) (hinp:inp<256) (hout:out<256) (hes:a8c g n ev es.length (a8j es)) (heb:∀ c∈es,c<65536) :
  WC 0 prog 20 [.agg [.lit (.int .u8 st),.lit (.int .u8 inp),.lit (.int .u8 out),.lit (.bool part),ev]] ⟨.fn g,n⟩ fun r=>∃ cs g' n',r=.ret (.agg cs) ⟨.fn g',n'⟩/\n<=n'/\(∀ b,b<n->g' b=g b)/\b3q g' n n' (Cg st inp out part es) cs:=by
 have h1e:=hes.one;have h1a:allOne [.lit (.int .u8 st),.lit (.int .u8 inp),.lit (.int .u8 out),.lit (.bool part),ev]=true:=by simp[h1e]
 have HE:=Aa.mk hes;have HB:=Aa.mk heb;clear hes heb;have hm1:(st:Int).tmod 6=((st % 6:Nat) : Int):=(g3j st 6).symm;have hm2:(inp:Int).tmod 3=((inp % 3:Nat) : Int):=(g3j inp 3).symm;have hm3:(out:Int).tmod 3=((out % 3:Nat) : Int):=(g3j out 3).symm;have HM:Aa (Cg st inp out part es=⟨1+((inp % 3:Nat) : Int),1+((out % 3:Nat) : Int),(List.range (1+st % 6)).map (a8d part es (1+st % 6) (1+inp % 3) (1+out % 3))⟩):=⟨rfl⟩;have ha:=Es st (show 0<6 by omega);have hb:=Es inp (show 0<3 by omega);have hc:=Es out (show 0<3 by omega);generalize Cg st inp out part es=M at *;generalize st % 6=a at *;generalize inp % 3=b at *;generalize out % 3=c at *;refine ent pl20 func20 rfl (by decide +kernel) (by kernel_rfl) ?_
 iterate 6 all_goals try first|apply spl<;>intro h|simp (disch:=first|assumption|omega|simp) [*]
 refine LX.ind (fun m gf H'=>∃ (s n' : Nat) (g' gk:Gb) (A:Nat) (rv:AV) (svs:List AV),s<=1+a/\m=1+a-s/\H'=⟨.fn g',n'⟩/\n+1+1+1<=n'/\(∀ b,b<n->g' b=g b)/\g' n=some (.cells [.lit (.int .u8 st),.lit (.int .u8 inp),.lit (.int .u8 out),.lit (.bool part),ev] true 0)/\g' (n+1)=some (.cells [.li 0,.li 0,.nl] true 0)/\g' (n+1+1)=some (.cells [.li (1+(b:Int)),.li (1+(c:Int)),rv] true 0) /\
  Bh g' (n+1+1+1) n' A rv s 1 svs/\RowsE gk n' ((List.range s).map (a8d part es (1+a) (1+b) (1+c))) svs/\(∀ q z,gk q=some z->g' q=some z/\q≠A/\n+1+1+1<=q/\q<n')/\gf 1=some (.ptr n 0)/\gf 2=some (.ptr (n+1) 0)/\gf 3=some (.li (1+(a:Int)))/\gf 4=some (.ptr (n+1+1) 0)/\gf 5=some (.li s)) (m0:=1+a) ?_ ?_
 ·refine⟨0,_,_,fun _=>none,0,_,[],by omega,rfl,rfl,by omega,fun q hq=>?_,?_,?_,?_,.inl ⟨rfl,rfl,rfl⟩,rfl,fun q z h=>(by cases h),by simp[*]⟩
  ·simp (disch:=omega) only[Ab]
  ·simp (disch:=omega) only[Ab,Af]
  ·simp (disch:=omega) only[Ab,Af]
  ·simp (disch:=omega) only[Ab,Af]
 rintro m gf H' ⟨s,n1,g1,gk,A,rv,svs,hs,rfl,rfl,hn1,hg1,e0,e1,e2,hA,hrows,hk,w1,w2,w3,w4,w5⟩ ih;have HG1:=Aa.mk hg1;have HA:=Aa.mk hA;have HK:=Aa.mk hk;have HR:=Aa.mk hrows;clear hg1 hA hk hrows;refine rnd pl20 (by decide +kernel) ?_;by_cases hlt:s<1+a
 ·have hltI:(s:Int)<1+(a:Int):=by omega
  iterate 6 all_goals try first|apply spl<;>intro h|simp (disch:=first|assumption|omega|simp) [*]
  refine LX.ind (fun m gf H'=>∃ (j n' : Nat) (g' : Gb) (B:Nat) (sv:AV) (rr:List AV),j<=1+b/\m=1+b-j/\H'=⟨.fn g',n'⟩/\n1<=n'/\(∀ q,q<n1->g' q=g1 q) /\
   Bh g' n1 n' B sv j 2 rr/\Aa (rr=Aq ((List.range j).map fun i=>b1v part (1+a) (1+c) (es.getD (s*(1+b)+i) 0)))/\gf 1=some (.ptr n 0)/\gf 2=some (.ptr (n+1) 0)/\gf 3=some (.li (1+(a:Int)))/\gf 4=some (.ptr (n+1+1) 0)/\gf 5=some (.li s)/\gf 6=some sv/\gf 7=some (.li j)) (m0:=1+b) ?_ ?_
  ·refine⟨0,_,_,0,_,_,by omega,rfl,rfl,by omega,fun q hq=>rfl,.inl ⟨rfl,rfl,rfl⟩,⟨rfl⟩,by simp[*]⟩
  rintro m gf H' ⟨j,n',g',B,sv,rr,hj,rfl,rfl,hn',hg',hB,hrr,v1,v2,v3,v4,v5,v6,v7⟩ ihj;have HG:=Aa.mk hg';have HBv:=Aa.mk hB;clear hg' hB;have f0:=(HG.out n (by omega)).trans e0;have f2:=(HG.out (n+1+1) (by omega)).trans e2;refine rnd pl20 (by decide +kernel) ?_;by_cases hjt:j<1+b
  ·have hjtI:(j:Int)<1+(b:Int):=by omega
   have hp:s*(1+b)<=15:=Ec (g3g (show s<=5 by omega) (show 1+b<=3 by omega)) (by omega);have hmul:(s:Int)*(1+(b:Int))=((s*(1+b) : Nat) : Int):=by simp
   generalize hpe:s*(1+b)=p at *;have hvl:es.getD (p+j) 0<65536:=by
    rw[Dx]
    cases hq:es[p+j]? with
    | none=>simp
    | some x=>exact HB.out x (g2l hq)
   generalize hv:es.getD (p+j) 0=v at *;have hq4:(v:Int).tdiv 4=((v / 4:Nat) : Int):=rfl;have hr4:(v:Int).tmod 4=((v % 4:Nat) : Int):=(g3j v 4).symm;generalize hqe:v / 4=q at *;generalize hre:v % 4=r at *;have hqa:(q:Int).tmod (1+(a:Int))=((q % (1+a) : Nat) : Int):=by rw[show (1+(a:Int))=((1+a:Nat) : Int) by omega];exact(g3j q (1+a)).symm
   have hqb:(q:Int).tdiv (1+(a:Int))=((q / (1+a) : Nat) : Int):=by rw[show (1+(a:Int))=((1+a:Nat) : Int) by omega];rfl
   have hql:q / (1+a)<=q:=Nat.div_le_self _ _;generalize hde:q / (1+a)=d at *;have hdc:(d:Int).tmod (1+(c:Int))=((d % (1+c) : Nat) : Int):=by rw[show (1+(c:Int))=((1+c:Nat) : Int) by omega];exact(g3j d (1+c)).symm
   have hEd:Aa (b1v part (1+a) (1+c) v=if part=true/\r=3 then (-1,-1) else (((q % (1+a) : Nat) : Int),((d % (1+c) : Nat) : Int))):=⟨by rw[<- hre,<- hde,<- hqe];rfl⟩;have hz:v=0->q % (1+a)=0/\d % (1+c)=0/\r=0:=fun e=>by
    have e1:q=0:=by rw[<- hqe,e]
    have e2:d=0:=by rw[<- hde,e1];simp
    have e3:r=0:=by rw[<- hre,e]
    exact⟨by rw[e1];simp,by rw[e2];simp,e3⟩
   have HZ:=Aa.mk hz;clear hz;generalize q % (1+a)=x at *;generalize d % (1+c)=y at *;have hql2:q<=v:=by omega
   have hlen:∀ {H:Mem} {e' : Ev} {o:Oper} {c' : Call} {e:TypeId},a5m prog H e' o c' (some (.slice e)) (some [ev])=.val (.li es.length) H:=by
    intro H e' o c' e;rcases HE.out with⟨h1,rfl|rfl⟩|⟨a2,off,c2,_,rfl,_⟩
    ·rw[h1];rfl
    ·rw[h1];rfl
    ·rfl
   have hEr:Aa (Aq (List.map (fun i=>b1v part (1+a) (1+c) (es.getD (p+i) 0)) (List.range (j+1)))=rr++[.lit (.int .i64 (b1v part (1+a) (1+c) v).1),.lit (.int .i64 (b1v part (1+a) (1+c) v).2)]):=⟨by rw[g5y,g2r,g4q,hv,c4t,hrr.out]⟩;have hdv:d<=v:=by omega
   clear hqe hre hde hql;by_cases hin:p+j<es.length
   ·have hinI:(p:Int)+(j:Int)<(es.length:Int):=by omega
    rcases HE.out with⟨h1,_⟩|⟨a2,off,c2,ha2,rfl,hrow⟩
    ·omega
    have hnum:=(hrow.mono ((HG.out a2 (by omega)).trans (HG1.out a2 ha2))).one (k:=p+j) (s:=1) (by simp only[a8j,Ee];exact hin);have hcell:(a8j es)[p+j]'(by simp only[a8j,Ee];exact hin)=.lit (.int .u16 (v:Int)):=by simp only[a8j,g2m];rw[<- hv,Dx,Dv hin];rfl
    rw[hcell] at hnum;clear hv hcell hrow;have htn:((p:Int)+(j:Int)).toNat=p+j:=by omega
    rcases HBv.out with hB0|⟨hpos,hsv,hB1,hB2,hB3,hB4⟩
    ·obtain⟨hj0,hnil,hsv⟩:=hB0;subst hsv;have HJ:=Aa.mk (And.intro hj0 hnil);clear hj0 hnil;cases part<;>by_cases hr3:r=3
     all_goals
      first
       | have hrI:(r:Int)=3:=by omega
       | have hrI:¬(r:Int)=3:=by omega
      iterate 6 all_goals try first|apply spl<;>intro h|simp (disch:=first|assumption|omega|simp) [*]
      refine ihj.out (1+b-(j+1)) _ _ (by omega) ⟨j+1,n'+1+1,_,n'+1,.slq (n'+1) 0 (j+1) 0,_,by omega,rfl,rfl,by omega,fun q hq=>?_,.mk Af (by omega) (by omega) ?_,⟨?_⟩,by simp[*],by simp[*],by simp[*],by simp[*],by simp[*],by rw[HJ.out.1];simp[*],by simp⟩
      ·simp (disch:=omega) only[Ab,Ae];exact HG.out q hq
      ·rw[HJ.out.1];simp[*]
      ·rw[hEr.out,hEd.out];rw[HJ.out.2];simp[*]
    ·subst hsv;have hj6:j<=1000000:=by omega
     cases part<;>by_cases hr3:r=3
     all_goals
      first
       | have hrI:(r:Int)=3:=by omega
       | have hrI:¬(r:Int)=3:=by omega
      iterate 6 all_goals try first|apply spl<;>intro h|simp (disch:=first|assumption|omega|simp) [*]
      refine ihj.out (1+b-(j+1)) _ _ (by omega) ⟨j+1,n'+1+1,_,n'+1,.slq (n'+1) 0 (j+1) 0,_,by omega,rfl,rfl,by omega,fun q hq=>?_,.mk Af (by omega) (by omega) ?_,⟨?_⟩,by simp[*]⟩
      ·simp (disch:=omega) only[Ab,Ae];exact HG.out q hq
      ·simp[*];omega
      ·rw[hEr.out,hEd.out];simp[*]
   ·have hinI:¬(p:Int)+(j:Int)<(es.length:Int):=by omega
    have hv0:v=0:=by
     rw[<- hv,Dx,g2k (by omega)];rfl
    obtain⟨hx0,hy0,hr0⟩:=HZ.out hv0;clear hv hq4 hr4 hqa hqb hdc;rcases HBv.out with hB0|⟨hpos,hsv,hB1,hB2,hB3,hB4⟩
    ·obtain⟨hj0,hnil,hsv⟩:=hB0;subst hsv;have HJ:=Aa.mk (And.intro hj0 hnil);clear hj0 hnil;cases part
     all_goals
      iterate 6 all_goals try first|apply spl<;>intro h|simp (disch:=first|assumption|omega|simp) [*]
      refine ihj.out (1+b-(j+1)) _ _ (by omega) ⟨j+1,n'+1+1,_,n'+1,.slq (n'+1) 0 (j+1) 0,_,by omega,rfl,rfl,by omega,fun q hq=>?_,.mk Af (by omega) (by omega) ?_,⟨?_⟩,by simp[*],by simp[*],by simp[*],by simp[*],by simp[*],by rw[HJ.out.1];simp[*],by simp⟩
      ·simp (disch:=omega) only[Ab,Ae];exact HG.out q hq
      ·rw[HJ.out.1];simp[*]
      ·rw[hEr.out,hEd.out];rw[HJ.out.2];simp[*]
    ·subst hsv;have hj6:j<=1000000:=by omega
     cases part
     all_goals
      iterate 6 all_goals try first|apply spl<;>intro h|simp (disch:=first|assumption|omega|simp) [*]
      refine ihj.out (1+b-(j+1)) _ _ (by omega) ⟨j+1,n'+1+1,_,n'+1,.slq (n'+1) 0 (j+1) 0,_,by omega,rfl,rfl,by omega,fun q hq=>?_,.mk Af (by omega) (by omega) ?_,⟨?_⟩,by simp[*]⟩
      ·simp (disch:=omega) only[Ab,Ae];exact HG.out q hq
      ·simp[*];omega
      ·rw[hEr.out,hEd.out];simp[*]
  ·have Hj2:Aa (j=1+b):=⟨by omega⟩;have hjtI:¬(j:Int)<1+(b:Int):=by omega
   have hs6:s<=1000000:=by omega
   rcases HBv.out with⟨h0,_⟩|⟨hpos,hsv,hB1,hB2,hB3,hB4⟩
   ·omega
   subst hsv;have HB4:=Aa.mk hB4;clear hB4;have HR2:Aa (RowsE (Aj gk B (some (.cells rr true 2))) (n'+1+1) ((List.range (s+1)).map (a8d part es (1+a) (1+b) (1+c))) (svs++[.slq B 0 j 0])):=⟨by
    rw[g5y,g2r,g4q];refine RowsE.snoc ?_ (HR.out.ext (by omega) fun q z hq hz=>(Ab (by omega)).trans hz);rw[show (a8d part es (1+a) (1+b) (1+c) s).length=j by unfold a8d;simp[Hj2.out]];refine .inr ⟨B,0,by omega,.inr ⟨0,rfl⟩,rr,true,2,Af,?_,?_⟩
    ·rw[show Aq (a8d part es (1+a) (1+b) (1+c) s)=rr by rw[hrr.out,Hj2.out];rfl];simp
    ·rw[show Aq (a8d part es (1+a) (1+b) (1+c) s)=rr by rw[hrr.out,Hj2.out];rfl];simp⟩
   have HK2:Aa (∀ q z,Aj gk B (some (.cells rr true 2)) q=some z->g' q=some z/\q≠n'/\q≠n'+1/\q≠n+1+1/\n+1+1+1<=q/\q<n'/\(A<n1->q≠A)):=⟨fun q z hz=>by
    rcases c1y hz with⟨rfl,h⟩|⟨_,hz⟩
    ·cases h;exact⟨hB3,by omega,by omega,by omega,by omega,hB2,by omega⟩
    ·obtain⟨k1,k2,k3,k4⟩:=HK.out q z hz;exact⟨(HG.out q k4).trans k1,by omega,by omega,by omega,k3,by omega,fun _=>k2⟩⟩
   rcases HA.out with hA0|⟨hspos,hrv,hA1,hA2,hA3,hA4⟩
   ·obtain⟨hs0,hnil,hrv⟩:=hA0;subst hrv;have HJ:=Aa.mk (And.intro hs0 hnil);clear hs0 hnil
    iterate 6 all_goals try first|apply spl<;>intro h|simp (disch:=first|assumption|omega|simp) [*]
    refine ih.out (1+a-(s+1)) _ _ (by omega) ⟨s+1,n'+1+1,_,_,n'+1,.slq (n'+1) 0 (s+1) 0,svs++[.slq B 0 j 0],by omega,rfl,rfl,by omega,fun q hq=>?_,?_,?_,?_,.mk ?_ (by omega) (by omega) ?_,HR2.out,fun q z hz=>?_,by simp[*]⟩
    ·simp (disch:=omega) only[Ab,Ae];rw[HG.out q (by omega)];exact HG1.out q hq
    ·simp (disch:=omega) only[Ab,Ae];exact f0
    ·simp (disch:=omega) only[Ab,Ae];rw[HG.out (n+1) (by omega)];exact e1
    ·rw[HJ.out.1];simp[*]
    ·rw[HJ.out.2];simp (disch:=omega) [Ae,Af]
    ·rw[HJ.out.1,HJ.out.2];simp[*]
    ·obtain⟨k1,k2,k3,k4,k5,k6,k7⟩:=HK2.out q z hz;refine⟨?_,k3,k5,by omega⟩;simp (disch:=omega) only[Ab,Ae];exact k1
   ·subst hrv;have hA5:=(HG.out A hA2).trans hA3
    iterate 6 all_goals try first|apply spl<;>intro h|simp (disch:=first|assumption|omega|simp) [*]
    refine ih.out (1+a-(s+1)) _ _ (by omega) ⟨s+1,n'+1+1,_,_,n'+1,.slq (n'+1) 0 (s+1) 0,svs++[.slq B 0 j 0],by omega,rfl,rfl,by omega,fun q hq=>?_,?_,?_,?_,.mk ?_ (by omega) (by omega) ?_,HR2.out,fun q z hz=>?_,by simp[*]⟩
    ·simp (disch:=omega) only[Ab,Ae];rw[HG.out q (by omega)];exact HG1.out q hq
    ·simp (disch:=omega) only[Ab,Ae];exact f0
    ·simp (disch:=omega) only[Ab,Ae];rw[HG.out (n+1) (by omega)];exact e1
    ·simp[*]
    ·simp (disch:=omega) [Ae,Af]
    ·simp[*]
    ·obtain⟨k1,k2,k3,k4,k5,k6,k7⟩:=HK2.out q z hz;refine⟨?_,k3,k5,by omega⟩;have k8:=k7 hA2;simp (disch:=omega) only[Ab,Ae];exact k1
 ·have hltI:¬(s:Int)<1+(a:Int):=by omega
  have hs2:s=1+a:=by omega
  have h1r:=HA.out.one;have h1m:allOne [.li (1+(b:Int)),.li (1+(c:Int)),rv]=true:=by simp[h1r]
  have hlen:svs.length=s:=by rw[HR.out.len];simp
  have HREP:Aa (a2w (fun q=>if q=A/\n+1+1+1<=A/\A<n1 then g1 A else gk q) n1 M [.li (1+(b:Int)),.li (1+(c:Int)),rv]):=⟨by
   rw[HM.out];refine⟨rv,svs,rfl,?_,?_⟩
   ·show RowsE _ n1 ((List.range (1+a)).map _) svs;have hrs:=HR.out;rw[hs2] at hrs;refine hrs.ext (Dp _) fun q z _ hz=>?_;obtain⟨k1,k2,k3,k4⟩:=HK.out q z hz;show (if q=A/\n+1+1+1<=A/\A<n1 then g1 A else gk q)=some z;rw[if_neg (fun h=>k2 h.1)];exact hz
   ·show Ag _ n1 rv ((List.range (1+a)).map _).length svs;rw[Ee,List.length_range,<- hs2];refine HA.out.slice.ext (Dp _) fun q z _ hz=>?_;have hz' : (if q=A/\n+1+1+1<=A/\A<n1 then g1 q else none)=some z:=hz;show (if q=A/\n+1+1+1<=A/\A<n1 then g1 A else gk q)=some z;split at hz'
    ·rename_i h;rw[if_pos h,<- h.1];exact hz'
    ·cases hz'⟩
  clear hs2 hlen
  iterate 6 all_goals try first|apply spl<;>intro h|simp (disch:=first|assumption|omega|simp) [*]
  refine⟨_,_,_,⟨rfl,rfl,rfl⟩,by omega,fun q hq=>?_,_,fun q z hz=>?_,HREP.out⟩
  ·rw[Ab (by omega)];exact HG1.out q hq
  ·have hz' : (if q=A/\n+1+1+1<=A/\A<n1 then g1 A else gk q)=some z:=hz;split at hz'
   ·rename_i h;obtain⟨rfl,h2,h3⟩:=h;exact⟨by rw[Ae (by omega)];exact hz',by omega,h3⟩
   ·obtain⟨k1,k2,k3,k4⟩:=HK.out q z hz';exact⟨by rw[Ae (by omega)];exact k1,by omega,k4⟩
end Go.Ai
end
section
namespace Go.Ai
open Go.Proofs Go.Proofs.Tryz
set_option maxRecDepth 10000
set_option maxHeartbeats 40000000
theorem stood97:prog.stoodInHeld 97=false:=by kernel_rfl
theorem f7h {P:Program} {d:Nat} {t:TypeId} {k:IntKind} {a b:Int} (ht:P.underlying t=some (.int k)) : Ao P (Op.equalIn (d+1) t (.int k a) (.int k b))=some (a == b):=by
 unfold Op.equalIn;refine(Bs (m:=underlying t) (a4n ht)).trans ?_;dsimp only;rw[if_pos rfl];rfl
theorem f7i (a b c d:Int) : Ao prog (Op.equal 97 (.agg #[.int .i64 a,.int .i64 b]) (.agg #[.int .i64 c,.int .i64 d]))=some (a == c && b == d):=by
 unfold Op.equal;show Ao prog (Op.equalIn (9998+1+1) 97 _ _)=_;rw[Op.equalIn];refine(Bs (m:=underlying 97) (a4n underlying97)).trans ?_;dsimp only;refine(Bs (m:=program) (a:=prog) rfl).trans ?_;rw[if_neg (by rw[stood97];decide)];have p0:∀ x y:Int,Ao prog (part 3 #[Value.int IntKind.i64 x,Value.int IntKind.i64 y] 0)=some (.int .i64 x):=fun x y=>rfl;have p1:∀ x y:Int,Ao prog (part 3 #[Value.int IntKind.i64 x,Value.int IntKind.i64 y] 1)=some (.int .i64 y):=fun x y=>rfl;simp only[List.forIn_toArray,List.forIn_cons,List.forIn_nil];have key:∀ (nm:String) (u v:Int) (m1 m2:Sem Value),nm ≠ "_"->Ao prog m1=some (.int .i64 u)->Ao prog m2=some (.int .i64 v) ->
   Ao prog (if nm ≠ "_" then do
    let x <- m1
    let y <- m2
    let z <- Op.equalIn (9998+1) 3 x y
    if (!z)=true then pure (ForInStep.done (some false,())) else pure (ForInStep.yield ((none:Option Bool),()))
   else pure (ForInStep.yield (none,())))=some (if (u == v)=true then ForInStep.yield (none,()) else ForInStep.done (some false,())):=by
  intro nm u v m1 m2 hn h1 h2;rw[if_pos hn];refine(Bs h1).trans ((Bs h2).trans ((Bs (f7h underlying3)).trans ?_));cases (u == v)<;>rfl
 refine(Bs (a:=if (a == c && b == d)=true then ((none:Option Bool),()) else (some false,())) ?_).trans ?_
 ·refine(Bs (key "To" a c _ _ (by decide) (p0 a b) (p0 c d))).trans ?_;cases (a == c)
  ·rfl
  ·refine(Bs (key "Out" b d _ _ (by decide) (p1 a b) (p1 c d))).trans ?_;cases (b == d)<;>rfl
 ·cases (a == c)<;>cases (b == d)<;>rfl
end Go.Ai
end
section
namespace Go.Ai
open Go.Proofs Go.Proofs.Tryz
set_option maxRecDepth 10000
set_option maxHeartbeats 40000000
end Go.Ai
end
section
namespace Go.Ai
open Go.Proofs Go.Proofs.Tryz
set_option maxRecDepth 10000
set_option maxHeartbeats 40000000
end Go.Ai
end
section
namespace Go.Ai
open Go.Proofs Go.Proofs.Tryz
set_option maxRecDepth 10000
set_option maxHeartbeats 40000000
variable {M:Bc} {g:Gb} {n:Nat} {w:Wd} {sv:AV}
def a0o (M:Bc) (s i:Int) : Int×Int:=if s<0 then (-1,-1) else (M.rows.getD s.toNat []).getD i.toNat (-1,-1)
def Dd (M:Bc) : Int->Wd->Wd
 | _,[]=>[]
 | s,i :: w=>(a0o M s i).2 :: Dd M (a0o M s i).1 w
def b2f (M:Bc) : Int->Wd->Int
 | s,[]=>s
 | s,i :: w=>b2f M (a0o M s i).1 w
theorem b3z : ∀ (w:Wd) (s:Int),(Dd M s w).length=w.length
 | [],_=>rfl
 | _ :: w,s=>by unfold Dd;rw[Ek,Ek,b3z w]
theorem d5c : ∀ (a b:Wd) (s:Int),Dd M s (a++b)=Dd M s a++Dd M (b2f M s a) b
 | [],_,_=>rfl
 | i :: a,b,s=>by
  show (a0o M s i).2 :: Dd M (a0o M s i).1 (a++b)=_;rw[d5c a b];rfl
theorem d5d : ∀ (a b:Wd) (s:Int),b2f M s (a++b)=b2f M (b2f M s a) b
 | [],_,_=>rfl
 | i :: a,b,s=>d5d a b _
def b6w (M:Bc) (s:Int) : Prop:=s = -1\/∃ k:Nat,s=k/\k<M.rows.length
theorem d5e {e:Int×Int} (h:b1u M.rows.length M.out e=true) : b6w M e.1 /\ -1<=e.2/\(e.2 = -1\/e.2<M.out)/\(e.2 = -1->e.1 = -1):=by
 unfold b1u at h;rcases g4b.1 h with h|h
 ·have h:=of_decide_eq_true h;subst h;exact⟨.inl rfl,by decide,.inl rfl,fun _=>rfl⟩
 ·simp only[Ds,decide_eq_true_eq] at h;exact⟨.inr ⟨e.1.toNat,by omega,by omega⟩,by omega,.inr h.2.2.2,fun h2=>by omega⟩
theorem d5f (hM:M.ok) {k:Nat} {i:Int} (hk:k<M.rows.length) (h0:0<=i) (h1:i<M.inp) : ∃ (hi:i.toNat<(M.rows[k]).length),a0o M k i=(M.rows[k])[i.toNat]/\b1u M.rows.length M.out (a0o M k i)=true:=by
 have hr:=hM.2.2.2.2.2.2 _ (Dt hk);have hi:i.toNat<(M.rows[k]).length:=by omega
 have e:a0o M k i=(M.rows[k])[i.toNat]:=by
  unfold a0o;rw[if_neg (by omega),show ((k:Int)).toNat=k from rfl];have h3:M.rows.getD k []=M.rows[k]:=by rw[Dx,Dv hk];rfl
  rw[h3,Dx,Dv hi];rfl
 exact⟨hi,e,by rw[e];exact hr.2 _ (Dt hi)⟩
theorem c5w {s i:Int} (h:s<0) : a0o M s i=(-1,-1):=if_pos h
theorem d5g (hM:M.ok) {s i:Int} (hs:b6w M s) (h0:0<=i) (h1:i<M.inp) : b1u M.rows.length M.out (a0o M s i)=true:=by
 rcases hs with rfl|⟨k,rfl,hk⟩
 ·rw[c5w (by decide)];rfl
 ·exact(d5f hM hk h0 h1).2.2
structure f7j (g:Gb) (n:Nat) (rv:AV) (k i:Nat) (e:Int×Int) (a off a2 off2:Nat) (q:AV) : Prop where
 an:a<n
 an2:a2<n
 ia:∀ {H:Mem} {ev:Ev} {o:Oper} {t:TypeId},iaS prog H ev o t (some (none,1)) (some rv) (some (.li (k:Int)))=.val (.ptr a (off+k)) H
 cell:Bd (some (false,1)) (g a) (off+k)=some q
 ia2:∀ {H:Mem} {ev:Ev} {o:Oper} {t:TypeId},iaS prog H ev o t (some (none,2)) (some q) (some (.li (i:Int)))=.val (.ptr a2 (off2+i*2)) H
 cell2:Bd (some (true,2)) (g a2) (off2+i*2)=some (.agg [.li e.1,.li e.2])
theorem a2w.edge {a0 b0 rv:AV} (h:a2w g n M [a0,b0,rv]) {k:Nat} (hk:k<M.rows.length) {i:Nat} (hi:i<(M.rows[k]).length) : ∃ a off a2 off2 q,f7j g n rv k i (M.rows[k])[i] a off a2 off2 q:=by
 obtain⟨sv,svs,e,hr,hs⟩:=h;injection e with _ e;injection e with _ e;injection e with e _;subst e;have hkl:k<svs.length:=by rw[hr.len];exact hk
 obtain⟨a,off,ha,hrow,hia⟩:=hs.ia (P:=prog) hk 1;simp only[El] at hia;have hc:=hrow.one (k:=k) (s:=1) hkl;obtain⟨a2,off2,ha2,hrow2,hia2⟩:=Ag.ia (P:=prog) (hr.at k hk hkl) hi 2;have hc2:=hrow2.agg (k:=i*2) (s:=2) (by rw[rowC_len];omega);rw[rowC_at _ i hi] at hc2;exact⟨a,off,a2,off2,svs[k],ha,ha2,hia,hc,hia2,hc2⟩
theorem f7k (hM:M.ok) (s i:Int) (hs:b6w M s) (h0:0<=i) (h1:i<M.inp) (g:Gb) (n:Nat) (ms:List AV) (hr:a2w g n M ms) :
  WC 0 prog 97 [.agg ms,.li s,.li i] ⟨.fn g,n⟩ fun r=>∃ g' n',r=.ret (.agg [.lit (.int .i64 (a0o M s i).1),.lit (.int .i64 (a0o M s i).2)]) ⟨.fn g',n'⟩/\n<=n'/\∀ b,b<n->g' b=g b:=by
 obtain⟨rv,rfl,h1r⟩:=hr.one;have h1a:allOne [.li M.inp,.li M.out,rv]=true:=by simp[h1r]
 have HR:=Aa.mk hr;clear hr;rcases hs with rfl|⟨k,rfl,hk⟩
 ·rw[c5w (by decide)];refine ent [] func97 rfl (by decide +kernel) (by kernel_rfl) ?_
  iterate 8 all_goals try first|apply spl<;>intro h|simp (disch:=first|assumption|omega|simp) [*]
  refine⟨_,_,⟨rfl,rfl⟩,by omega,fun b (hb:b<n)=>by simp (disch:=omega) [Ab]⟩
 ·obtain⟨hi,he,_⟩:=d5f hM hk h0 h1;obtain⟨a,off,a2,off2,q,HE0⟩:=HR.out.edge hk hi;rw[<- he] at HE0;obtain⟨j,rfl⟩ : ∃ j:Nat,i=j:=⟨i.toNat,by omega⟩;have HE:=Aa.mk HE0;clear HE0 he;have han:=HE.out.an;have han2:=HE.out.an2;have hia:∀ {H:Mem} {ev:Ev} {o:Oper} {t:TypeId},iaS prog H ev o t (some (none,1)) (some rv) (some (.li (k:Int)))=.val (.ptr a (off+k)) H:=fun {H ev o t}=>HE.out.ia;have hc:=HE.out.cell;have hia2:∀ {H:Mem} {ev:Ev} {o:Oper} {t:TypeId},iaS prog H ev o t (some (none,2)) (some q) (some (.li (j:Int)))=.val (.ptr a2 (off2+j*2)) H:=fun {H ev o t}=>HE.out.ia2;have hc2:Bd (some (true,2)) (g a2) (off2+j*2)=_:=HE.out.cell2;have hk0:¬(k:Int)<0:=by omega
  clear HE;generalize (a0o M k j).1=x at *;generalize (a0o M k j).2=y at *;refine ent [] func97 rfl (by decide +kernel) (by kernel_rfl) ?_
  iterate 8 all_goals try first|apply spl<;>intro h|simp (disch:=first|assumption|omega|simp) [*]
  refine⟨_,_,⟨rfl,rfl⟩,by omega,fun b (hb:b<n)=>by simp (disch:=omega) [Ab]⟩
theorem Cr {α:Type} {l:List α} {k:Nat} (h:k<l.length) : l.take (k+1)=l.take k++[l[k]]:=by rw[g3e,Dv h];rfl
def a1g (g:Gb) (lo n:Nat) (w:Wd) (sv:AV) : Prop:=∃ gk:Gb,(∀ a z,gk a=some z->g a=some z/\lo<=a/\a<n)/\Ak gk n w sv
theorem a1g.rep {lo:Nat} (h:a1g g lo n w sv) : Ak g n w sv :=
 let ⟨_,h1,h3⟩:=h;Ag.ext (Dp _) (fun a z _ hz=>(h1 a z hz).1) h3
theorem a1g.keep {g': Gb} {lo lo' n': Nat} (h:a1g g lo n w sv) (h0:lo'<=lo) (h2:n<=n') (hg:∀ a,lo<=a->a<n->g' a=g a) : a1g g' lo' n' w sv:=by
 obtain⟨gk,h1,h3⟩:=h;refine⟨gk,fun a z hz=>?_,Ag.ext h2 (fun a z _ hz=>hz) h3⟩;obtain⟨e1,e2,e3⟩:=h1 a z hz;exact⟨(hg a e2 e3).trans e1,by omega,by omega⟩
theorem Bh.fresh {lo B len:Nat} (h:Bh g lo n B sv len 1 (wdC w)) (hl:len=w.length) : a1g g lo n w sv:=by
 subst hl;refine⟨_,fun a z hz=>?_,h.slice⟩;have hz' : (if a=B/\lo<=B/\B<n then g a else none)=some z:=hz;split at hz'
 ·rename_i h1;obtain⟨rfl,h2,h3⟩:=h1;exact⟨hz',h2,h3⟩
 ·cases hz'
theorem a4v (w:Wd) (x:Int) : wdC (w++[x])=wdC w++[.li x]:=by simp[wdC]
end Go.Ai
end
section
namespace Go.Ai
open Go.Proofs Go.Proofs.Tryz
set_option maxRecDepth 10000
set_option maxHeartbeats 40000000
theorem f7l (x q:Int) (p:Nat) (g:Gb) (n:Nat) (hp:g p=some (.cells [.li q] true 0)) (hpn:p<n) :
  WC 0 prog 125 [.li x,.ptr p 0] ⟨.fn g,n⟩ fun r=>r=.ret (.lit (.bool (decide (¬(0<=x/\x<q))))) ⟨.fn g,n⟩:=by
 by_cases t1:x<0
 ·have hd:decide (¬(0<=x/\x<q))=true:=decide_eq_true (by omega);rw[hd];refine ent [] func125 rfl (by decide +kernel) (by kernel_rfl) ?_
  iterate 6 all_goals try first|apply spl<;>intro h|simp (disch:=first|assumption|omega|simp) [*]
 by_cases t2:q<=x
 ·have hd:decide (¬(0<=x/\x<q))=true:=decide_eq_true (by omega);rw[hd];refine ent [] func125 rfl (by decide +kernel) (by kernel_rfl) ?_
  iterate 6 all_goals try first|apply spl<;>intro h|simp (disch:=first|assumption|omega|simp) [*]
 ·have hd:decide (¬(0<=x/\x<q))=false:=decide_eq_false (by omega);rw[hd];refine ent [] func125 rfl (by decide +kernel) (by kernel_rfl) ?_
  iterate 6 all_goals try first|apply spl<;>intro h|simp (disch:=first|assumption|omega|simp) [*]
theorem f7m (w:Wd) (hwl:w.length<=1000000) (q:Int) (sv:AV) (p:Nat) (g:Gb) (n:Nat) (hp:g p=some (.cells [.li q] true 0)) (hpn:p<n) (hsv:Ak g n w sv) :
  WC 0 prog 143 [sv,.func (.func 125) [] [.ptr p 0]] ⟨.fn g,n⟩ fun r=>∃ z:Int,r=.ret (.li z) ⟨.fn g,n⟩/\decide (0<=z) = !(w.all fun i=>decide (0<=i/\i<q)):=by
 have hlen:=@Am prog _ _ _ _ _ hsv;have HS:=Aa.mk hsv;have HP:=Aa.mk hp;clear hsv hp;obtain⟨ret,hret⟩ : ∃ b,b = !(w.all fun i=>decide (0<=i/\i<q)):=⟨_,rfl⟩;rw[<- hret];have HRET:=Aa.mk hret;clear hret;refine ent [] func143 rfl (by decide +kernel) (by kernel_rfl) ?_
 iterate 6 all_goals try first|apply spl<;>intro h|simp (disch:=first|assumption|omega|simp) [*]
 refine LX.ind (fun m gf H'=>∃ (k:Nat),k<=w.length/\m=w.length-k/\H'=⟨.fn g,n⟩/\Aa (∀ i∈w.take k,0<=i/\i<q) /\
  gf 0=some sv/\gf 1=some (.func (.func 125) [] [.ptr p 0])/\gf 7=some (.li w.length)/\gf 8=some (.li k)) (m0:=w.length) ?_ ?_
 ·exact⟨0,Du _,rfl,rfl,⟨by simp⟩,by simp[*]⟩
 rintro m gf H' ⟨k,hk,rfl,rfl,HPRE,w0,w1,w7,w8⟩ ih;refine rnd [] (by decide +kernel) ?_;by_cases hlt:k<w.length
 ·have hltI:(k:Int)<(w.length:Int):=by omega
  obtain⟨a2,off,ha2,hrow,hia⟩:=Ag.ia (P:=prog) HS.out hlt 1;simp only[El] at hia;have hcell:=hrow.one (k:=k) (s:=1) (by rw[Bi];exact hlt);rw[(Ea.1 (a4c w k hlt)).2] at hcell;have htk:w.take (k+1)=w.take k++[w[k]]:=by rw[g3e,Dv hlt];rfl
  have HT:=Aa.mk htk;have HM:=Aa.mk (Dt hlt);clear htk hrow ha2;generalize w[k]=x at *;have HC:=Aa.mk (f7l x q p g n HP.out hpn)
  iterate 6 all_goals try first|apply spl<;>intro h|simp (disch:=first|assumption|omega|simp) [*]
  refine WC.mono HC.out ?_;rintro _ rfl;by_cases hb:0<=x/\x<q
  ·have hd:decide (¬(0<=x/\x<q))=false:=decide_eq_false (by omega);rw[hd];have HB:=Aa.mk hb;clear hb
   iterate 6 all_goals try first|apply spl<;>intro h|simp (disch:=first|assumption|omega|simp) [*]
   refine ih.out (w.length-(k+1)) _ _ (by omega) ⟨k+1,by omega,rfl,rfl,⟨fun i hi=>?_⟩,by simp[*]⟩;rw[HT.out] at hi;rcases Eg.1 hi with h|h
   ·exact HPRE.out i h
   ·rw[En.1 h];exact HB.out
  ·have hd:decide (¬(0<=x/\x<q))=true:=decide_eq_true hb;rw[hd];have hr:ret=true:=by
    rw[HRET.out,g4w,g5c];exact⟨x,HM.out,by simpa using hb⟩
   clear hb
   iterate 6 all_goals try first|apply spl<;>intro h|simp (disch:=first|assumption|omega|simp) [*]
 ·have hltI:¬(k:Int)<(w.length:Int):=by omega
  have hk2:k=w.length:=by omega
  have hr:ret=false:=by
   rw[HRET.out,Bool.not_eq_false',Eb];intro i hi;have:=HPRE.out i (by rw[hk2,Ep];exact hi);simpa using this
  clear hk2
  iterate 6 all_goals try first|apply spl<;>intro h|simp (disch:=first|assumption|omega|simp) [*]
theorem f7n (w:Wd) (hwl:w.length<=1000000) (q:Int) (sv:AV) (p:Nat) (g:Gb) (n:Nat) (hp:g p=some (.cells [.li q] true 0)) (hpn:p<n) (hsv:Ak g n w sv) :
  WC 0 prog 124 [sv,.func (.func 125) [] [.ptr p 0]] ⟨.fn g,n⟩ fun r=>r=.ret (.lit (.bool (!(w.all fun i=>decide (0<=i/\i<q))))) ⟨.fn g,n⟩:=by
 have HI:=Aa.mk (f7m w hwl q sv p g n hp hpn hsv);clear hp hsv;generalize (!(w.all fun i=>decide (0<=i/\i<q)))=bb at *;refine ent [] func124 rfl (by decide +kernel) (by kernel_rfl) ?_
 iterate 6 all_goals try first|apply spl<;>intro h|simp (disch:=first|assumption|omega|simp) [*]
 refine WC.mono HI.out ?_;rintro _ ⟨z,rfl,hz⟩
 cases bb with
 | true =>
  have hz1:0<=z:=of_decide_eq_true hz;clear hz
  iterate 6 all_goals try first|apply spl<;>intro h|simp (disch:=first|assumption|omega|simp) [*]
 | false =>
  have hz1:¬0<=z:=of_decide_eq_false hz;clear hz
  iterate 6 all_goals try first|apply spl<;>intro h|simp (disch:=first|assumption|omega|simp) [*]
def Dj (w:Wd) (q:Int) : Int:=if q > 16\/w.length > 256 then 3 else if q<1\/inW w q=false then 1 else 0
theorem d5h (w:Wd) (hwl:w.length<=1000000) (q:Int) (g:Gb) (n:Nat) (sv:AV) (hsv:Ak g n w sv) :
  WC 0 prog 77 [sv,.li q] ⟨.fn g,n⟩ fun r=>r=.ret (.li (Dj w q)) ⟨.fn g,n⟩:=by
 refine WC.drop1 rfl ?_;have hlen:=@Am prog _ _ _ _ _ hsv;have HS:=Aa.mk hsv;clear hsv;by_cases t1:q > 16
 ·have he:Dj w q=3:=by unfold Dj;rw[if_pos (.inl t1)]
  rw[he];refine ent [] func77 rfl (by decide +kernel) (by kernel_rfl) ?_
  iterate 6 all_goals try first|apply spl<;>intro h|simp (disch:=first|assumption|omega|simp) [*]
  all_goals exact⟨Dy n,fun b hb=>Ab hb⟩
 by_cases t2:w.length > 256
 ·have he:Dj w q=3:=by unfold Dj;rw[if_pos (.inr t2)]
  rw[he];have t2I:256<(w.length:Int):=by omega
  refine ent [] func77 rfl (by decide +kernel) (by kernel_rfl) ?_
  iterate 6 all_goals try first|apply spl<;>intro h|simp (disch:=first|assumption|omega|simp) [*]
  all_goals exact⟨Dy n,fun b hb=>Ab hb⟩
 have t2I:¬256<(w.length:Int):=by omega
 by_cases t3:q<1
 ·have he:Dj w q=1:=by unfold Dj;rw[if_neg (by omega),if_pos (.inl t3)]
  rw[he];refine ent [] func77 rfl (by decide +kernel) (by kernel_rfl) ?_
  iterate 6 all_goals try first|apply spl<;>intro h|simp (disch:=first|assumption|omega|simp) [*]
  all_goals exact⟨Dy n,fun b hb=>Ab hb⟩
 have HC:=Aa.mk (f7n w hwl q sv n (Aj g n (some (.cells [.li q] true 0))) (n+1) Af (by omega) (HS.out.mono (by omega) fun a ha=>Ab ha));have he:Dj w q=if inW w q=false then 1 else 0:=by
  unfold Dj;rw[if_neg (by omega)];by_cases h:inW w q=false
  ·rw[if_pos (.inr h),if_pos h]
  ·rw[if_neg (fun h2=>h2.elim t3 h),if_neg h]
 rw[he];clear he;have hin:(w.all fun i=>decide (0<=i/\i<q))=inW w q:=rfl;rw[hin] at HC;clear hin;generalize inW w q=bb at *;refine ent [] func77 rfl (by decide +kernel) (by kernel_rfl) ?_
 iterate 6 all_goals try first|apply spl<;>intro h|simp (disch:=first|assumption|omega|simp) [*]
 refine WC.mono HC.out ?_;rintro _ rfl;cases bb
 all_goals
  iterate 6 all_goals try first|apply spl<;>intro h|simp (disch:=first|assumption|omega|simp) [*]
  all_goals exact⟨Dy n,fun b hb=>Ab hb⟩
theorem mkI57:mkI prog 65=some (.li 0):=by kernel_rfl
attribute [simp] mkI57
end Go.Ai
end
section
namespace Go.Ai
open Go.Proofs Go.Proofs.Tryz
set_option maxRecDepth 10000
set_option maxHeartbeats 40000000
def u8C (bs:List Nat) : List AV:=bs.map fun (b:Nat)=>.lit (.int .u8 (b:Int))
def a5s (g:Gb) (n:Nat) (bs:List Nat) (sv:AV) : Prop:=Ag g n sv bs.length (u8C bs)
theorem a5s.at {g:Gb} {n:Nat} {w:List Nat} {q1:AV} (h:a5s g n w q1) {k:Nat} (hk:k<w.length) : ∃ a off,a<n/\(∀ {H:Mem} {ev:Ev} {o:Oper} {t:TypeId},iaS prog H ev o t (some (none,1)) (some q1) (some (.li (k:Int)))=.val (.ptr a (off+k)) H)/\Bd (some (false,1)) (g a) (off+k)=some (.lit (.int .u8 (w[k] : Nat))):=by
 obtain⟨a2,off,ha2,hrow,hia⟩:=Ag.ia (P:=prog) h hk 1;simp only[El] at hia;have hcell:=hrow.one (k:=k) (s:=1) (by unfold u8C;rw[Ee];exact hk);rw[show (u8C w)[k]'(by unfold u8C;rw[Ee];exact hk)=.lit (.int .u8 (w[k] : Nat)) by simp[u8C]] at hcell;exact⟨a2,off,ha2,hia,hcell⟩
def Cw (bs:List Nat) (I most:Nat) : Wd:=(bs.take most).map fun b=>((b % I:Nat) : Int)
end Go.Ai
end
section
namespace Go.Ai
open Go.Proofs Go.Proofs.Tryz
set_option maxRecDepth 10000
set_option maxHeartbeats 40000000
variable {g g':Gb} {n B n' lo':Nat} {sv wv:AV} {ts:Lq} {cs:List AV} {w:Wd}
theorem Ag.cell {b len:Nat} : Ag g b sv len cs->cellsOf sv=[sv]:=by
 rintro (⟨_,_,rfl|rfl⟩|⟨a,off,_,⟨c,rfl⟩|⟨c,rfl⟩,_⟩)<;>rfl
def Bj (g:Gb) (lo n B:Nat) (w:Wd) (sv:AV) : Prop:=∃ gk:Gb,(∀ a z,gk a=some z->g a=some z/\lo<=a/\a<n/\a≠B)/\Ak gk n w sv
theorem Bj.rep {lo:Nat} (h:Bj g lo n B w sv) : Ak g n w sv :=
 let ⟨_,h1,h3⟩:=h;Ag.ext (Dp _) (fun a z _ hz=>(h1 a z hz).1) h3
theorem Bj.keep {lo B': Nat} (h:Bj g lo n B w sv) (h0:lo'<=lo) (h2:n<=n') (hB:n<=B'\/B'=B\/B' < lo) (hg:∀ a,lo<=a->a<n->a≠B->g' a=g a) : Bj g' lo' n' B' w sv:=by
 obtain⟨gk,h1,h3⟩:=h;refine⟨gk,fun a z hz=>?_,Ag.ext h2 (fun a z _ hz=>hz) h3⟩;obtain⟨e1,e2,e3,e4⟩:=h1 a z hz;exact⟨(hg a e2 e3 e4).trans e1,by omega,by omega,by omega⟩
theorem a1g.safe {lo:Nat} (h:a1g g lo n w sv) (h0:lo'<=lo) (h2:n<=n') (hB:n<=B\/B<lo) (hg:∀ a,lo<=a->a<n->g' a=g a) : Bj g' lo' n' B w sv:=by
 obtain⟨gk,h1,h3⟩:=h;refine⟨gk,fun a z hz=>?_,Ag.ext h2 (fun a z _ hz=>hz) h3⟩;obtain⟨e1,e2,e3⟩:=h1 a z hz;exact⟨(hg a e2 e3).trans e1,by omega,by omega,by omega⟩
def RowsF (g:Gb) (lo n B:Nat) (ts:Lq) (cs:List AV) : Prop :=
 cs.length=ts.length*2/\∀ (k:Nat) (h:k<ts.length),∃ s1 s2,cs[k*2]?=some s1/\cs[k*2+1]?=some s2/\Bj g lo n B ts[k].1 s1/\Bj g lo n B ts[k].2 s2
theorem RowsF.keep {lo B': Nat} (h:RowsF g lo n B ts cs) (h0:lo'<=lo) (h2:n<=n') (hB:n<=B'\/B'=B\/B' < lo) (hg:∀ a,lo<=a->a<n->a≠B->g' a=g a) : RowsF g' lo' n' B' ts cs :=
 ⟨h.1,fun k hk=>let ⟨s1,s2,h1,h3,h4,h5⟩:=h.2 k hk;⟨s1,s2,h1,h3,h4.keep h0 h2 hB hg,h5.keep h0 h2 hB hg⟩⟩
theorem RowsF.nil {lo:Nat} : RowsF g lo n B [] []:=⟨rfl,fun k hk=>by cases hk⟩
theorem RowsF.snoc {lo:Nat} (h:RowsF g lo n B ts cs) {t:List Int×Wd} {s1 s2:AV} (h1:Bj g lo n B t.1 s1) (h2:Bj g lo n B t.2 s2) : RowsF g lo n B (ts++[t]) (cs++[s1,s2]):=by
 have hl:=h.1;refine⟨by simp[hl];omega,fun k hk=>?_⟩;rw[Dr,Em] at hk;by_cases hlt:k<ts.length
 ·obtain⟨t1,t2,e1,e2,e3,e4⟩:=h.2 k hlt;refine⟨t1,t2,?_,?_,?_,?_⟩
  ·rw[Ew (by omega)];exact e1
  ·rw[Ew (by omega)];exact e2
  ·rw[Ey hlt];exact e3
  ·rw[Ey hlt];exact e4
 ·have hk2:k=ts.length:=by omega
  subst hk2;refine⟨s1,s2,?_,?_,?_,?_⟩
  ·rw[Eu (by omega),hl,g2o];rfl
  ·rw[Eu (by omega),hl,show ts.length*2+1-ts.length*2=1 by omega];rfl
  ·simpa using h1
  ·simpa using h2
theorem RowsF.rows {lo:Nat} (h:RowsF g lo n B ts cs) : RowsT g n ts cs :=
 ⟨h.1,fun k hk=>let ⟨s1,s2,h1,h3,h4,h5⟩:=h.2 k hk;⟨s1,s2,h1,h3,h4.rep,h5.rep⟩⟩
def b0g (g:Gb) (lo n B:Nat) (ts:Lq) (sv:AV) : Prop:=∃ cs,Bh g lo n B sv ts.length 2 cs/\RowsF g lo n B ts cs
theorem b0g.log {lo:Nat} (h:b0g g lo n B ts sv) : a0w g n ts sv:=by
 obtain⟨cs,h1,h2⟩:=h;refine⟨cs,Ag.ext (Dp _) (fun a x _ hx=>?_) h1.slice,h2.rows⟩;split at hx
 ·exact hx
 ·cases hx
theorem b0g.keep {lo:Nat} (h:b0g g lo n B ts sv) (h0:lo'<=lo) (h2:n<=n') (hg:∀ a,lo<=a->a<n->g' a=g a) : b0g g' lo' n' B ts sv:=by
 obtain⟨cs,h1,h3⟩:=h;refine⟨cs,?_,h3.keep h0 h2 (.inr (.inl rfl)) fun a h4 h5 _=>hg a h4 h5⟩;rcases h1 with h1|⟨k1,k2,k3,k4,k5,k6⟩
 ·exact .inl h1
 ·exact .inr ⟨k1,k2,by omega,by omega,(hg B k3 k4).trans k5,k6⟩
theorem b0g.one {lo:Nat} (h:b0g g lo n B ts sv) : oneC sv=true:=let ⟨_,h1,_⟩:=h;h1.one
def a8k (g:Gb) (n:Nat) (l:List (List Nat)) (wv:AV) : Prop:=∃ svs,Ag g n wv l.length svs/\svs.length=l.length/\∀ (k:Nat) (h:k<l.length),∃ sv,svs[k]?=some sv/\a5s g n l[k] sv
theorem a8k.mono {l:List (List Nat)} (h:a8k g n l wv) (hn:n<=n') (hg:∀ a,a<n->g' a=g a) : a8k g' n' l wv :=
 let ⟨svs,h1,h2,h3⟩:=h;⟨svs,h1.mono hn hg,h2,fun k hk=>let ⟨sv,e1,e2⟩:=h3 k hk;⟨sv,e1,Ag.mono hn hg e2⟩⟩
theorem a8k.at {l:List (List Nat)} (h:a8k g n l wv) {k:Nat} (hk:k<l.length) : ∃ a off q,a<n/\(∀ {H:Mem} {ev:Ev} {o:Oper} {t:TypeId},iaS prog H ev o t (some (none,1)) (some wv) (some (.li (k:Int)))=.val (.ptr a (off+k)) H)/\Bd (some (false,1)) (g a) (off+k)=some q/\a5s g n l[k] q:=by
 obtain⟨svs,h1,h2,h3⟩:=h;obtain⟨q,e1,e2⟩:=h3 k hk;obtain⟨a,off,ha,hrow,hia⟩:=h1.ia (P:=prog) hk 1;simp only[El] at hia;have hc:=hrow.one (k:=k) (s:=1) (by omega);rw[(Ea.1 e1).2] at hc;exact⟨a,off,q,ha,hia,hc,e2⟩
def b0h (M:Bc) (b:List Nat) : List Int×Wd:=(Cw b M.inp.toNat 10,Dd M 0 (Cw b M.inp.toNat 10))
def Bm (M:Bc) (ws:List (List Nat)) : Lq:=(ws.take 12).map (b0h M)
theorem b4a {b:List Nat} {I:Int} {m:Nat} (h0:1<=I) : inW (Cw b I.toNat m) I=true:=by
 unfold inW Cw;rw[Eb];intro x hx;obtain⟨y,_,rfl⟩:=Ei.1 hx;have:=Es y (show 0<I.toNat by omega);exact decide_eq_true (by omega)
theorem b6x {b:List Nat} {I m:Nat} : (Cw b I m).length<=m:=by
 unfold Cw;rw[Ee,Dw];omega
structure InG (g:Gb) (n:Nat) (st inp out:Nat) (es:List Nat) (ev:AV) (ws:List (List Nat)) (wv:AV) : Prop where
 b0:st<256
 b1:inp<256
 b2:out<256
 se:a8c g n ev es.length (a8j es)
 eb:∀ c∈es,c<65536
 sw:a8k g n ws wv
 wb:∀ w∈ws,∀ b∈w,b<256
theorem InG.mono {st inp out:Nat} {es:List Nat} {ev:AV} {ws:List (List Nat)} (h:InG g n st inp out es ev ws wv) (hn:n<=n') (hg:∀ a,a<n->g' a=g a) : InG g' n' st inp out es ev ws wv :=
 ⟨h.b0,h.b1,h.b2,h.se.mono hn hg,h.eb,h.sw.mono hn hg,h.wb⟩
end Go.Ai
end
section
namespace Go.Ai
open Go.Proofs Go.Proofs.Tryz
set_option maxRecDepth 10000
variable {O I:Int} {M:Bc} {ts:Lq} {r:Wd}
def b0i (O:Int) (b k:Nat) (r:Wd) : Wd :=
 if b=2 then (if r.getD k 0 = -1 then r else r.set k ((r.getD k 0+1).tmod O)) else r.take k++List.replicate (r.length-k) (-1)
theorem f7o {b k:Nat} (hk:k<=r.length) : (b0i O b k r).length=r.length:=by
 grind[b0i]
def ofG (M:Bc) (ws:List (List Nat)) (ia ib ic:Nat) : Lq :=
 if (Bm M ws).length=0\/ic % 4<2 then Bm M ws else
 if ((Bm M ws).getD (ia % (Bm M ws).length) ([],[])).2.length=0 then Bm M ws else
 (Bm M ws).set (ia % (Bm M ws).length) (((Bm M ws).getD (ia % (Bm M ws).length) ([],[])).1,b0i M.out (ic % 4) (ib % ((Bm M ws).getD (ia % (Bm M ws).length) ([],[])).2.length) ((Bm M ws).getD (ia % (Bm M ws).length) ([],[])).2)
theorem b0j {p:Bool} {o:Int} (h1 : -1<=o) (h2:o<O) (h3:p=true->o = -1) (h4:okR O (decide (o = -1)) r=true) : okR O p (o :: r)=true:=by
 show (!(decide (o < -1) || (decide (O<=o) || (p && decide (¬o = -1)))) && okR O (decide (o = -1)) r)=true;grind
theorem a8l {p:Bool} {o:Int} (h:okR O p (o :: r)=true) : -1<=o/\o<O/\(p=true->o = -1)/\okR O (decide (o = -1)) r=true:=by
 have h' : (!(decide (o < -1) || (decide (O<=o) || (p && decide (¬o = -1)))) && okR O (decide (o = -1)) r)=true:=h;grind
theorem c5x (hM:M.ok) : ∀ (w:Wd) (s:Int) (p:Bool),b6w M s->(p=true->s = -1)->inW w M.inp=true->okR M.out p (Dd M s w)=true
 | [],_,_,_,_,_=>rfl
 | i :: w,s,p,hs,hp,hw=>by
  unfold inW at hw;rw[g5t,Ds] at hw;have hi:=of_decide_eq_true hw.1;have he:=d5e (d5g hM hs hi.1 hi.2);have hO:=hM.2.2.1;show okR M.out p ((a0o M s i).2 :: Dd M (a0o M s i).1 w)=true;refine b0j he.2.1 (by grind) (fun h=>?_) (c5x hM w _ _ he.1 (fun h=>he.2.2.2 (of_decide_eq_true h)) hw.2);grind[c5w]
theorem c5y (hO:1<=O) : ∀ (m:Nat) (p:Bool),okR O p (List.replicate m (-1))=true
 | 0,_=>rfl
 | m+1,p=>by
  rw[g5a];exact b0j (by omega) (by omega) (fun _=>rfl) (c5y hO m _)
theorem d5i (hO:1<=O) (m:Nat) : ∀ (r:Wd) (k:Nat) (p:Bool),okR O p r=true->okR O p (r.take k++List.replicate m (-1))=true
 | _,0,p,_=>by grind[c5y]
 | [],k+1,p,_=>by grind[c5y]
 | o :: r,k+1,p,h=>by
  obtain⟨h1,h2,h3,h4⟩:=a8l h;exact b0j h1 h2 h3 (d5i hO m r k _ h4)
theorem d5j {v:Int} (hv:0<=v) (hv2:v<O) : ∀ (r:Wd) (k:Nat) (p:Bool),okR O p r=true->¬r.getD k 0 = -1->okR O p (r.set k v)=true
 | [],_,_,h,_=>h
 | o :: r,0,p,h,hne=>by
  grind[a8l,b0j,decide_eq_false]
 | o :: r,k+1,p,h,hne=>by
  obtain⟨h1,h2,h3,h4⟩:=a8l h;exact b0j h1 h2 h3 (d5j hv hv2 r k _ h4 hne)
theorem c0d : ∀ (r:Wd) (k:Nat) (p:Bool),okR O p r=true->k<r.length -> -1<=r.getD k 0/\r.getD k 0<O
 | [],_,_,_,hk=>by grind
 | o :: r,0,p,h,_=>by obtain⟨h1,h2,_,_⟩:=a8l h;grind
 | o :: r,k+1,p,h,hk=>by obtain⟨_,_,_,h4⟩:=a8l h;exact c0d r k _ h4 (by grind)
theorem f7p (hO:1<=O) {b k:Nat} {r:Wd} (h:okR O false r=true) (hk:k<r.length) : okR O false (b0i O b k r)=true:=by
 unfold b0i;split
 ·split
  ·exact h
  ·rename_i hne;have:=c0d r k false h hk;grind[Int.tmod_lt_of_pos,Int.tmod_nonneg,d5j]
 grind[d5i]
structure Cj (I O:Int) (ts:Lq) : Prop where
 len:ts.length<=200
 i1:1<=I
 i2:I<=16
 o1:1<=O
 o2:O<=16
 wl:∀ t∈ts,t.1.length<=256
 ok:∀ t∈ts,Cn I O t=true
theorem Cj.small (h:Cj I O ts) : c0c ts:=by
 refine⟨h.len,fun t ht=>by have:=h.wl t ht;omega,fun t ht=>?_⟩;have h1:=h.ok t ht;unfold Cn at h1;rw[Ds,Ds] at h1;have h2:=of_decide_eq_true h1.1.1;have:=h.wl t ht;omega
theorem Cj.err (h:Cj I O ts) : b6v I O ts=0:=by
 have h1:=h.i1;have h2:=h.i2;have h3:=h.o1;have h4:=h.o2;unfold b6v;have e:b0f I O ts=true:=by
  unfold b0f;rw[decide_eq_true h2,decide_eq_true h4,g4o,g4o,Eb];intro t ht;have:=h.wl t ht;grind
 rw[e,if_neg (by decide),if_neg (by omega),if_pos];rw[Eb];exact h.ok
theorem Cj.lens (h:Cj I O ts) {t:List Int×Wd} (ht:t∈ts) : t.2.length=t.1.length/\inW t.1 I=true/\okR O false t.2=true:=by
 have h1:=h.ok t ht;simp_all[Cn]
theorem c0e {t:List Int×Wd} (h1:t.2.length=t.1.length) (h2:inW t.1 I=true) (h3:okR O false t.2=true) : Cn I O t=true:=by
 grind[Cn]
theorem d5k (hM:M.ok) (ws:List (List Nat)) : Cj M.inp M.out (Bm M ws):=by
 refine⟨?_,hM.1,hM.2.1,hM.2.2.1,hM.2.2.2.1,fun t ht=>?_,fun t ht=>?_⟩
 ·grind[Bm]
 ·unfold Bm at ht;obtain⟨b,_,rfl⟩:=Ei.1 ht;exact Ec b6x (by decide)
 ·unfold Bm at ht;obtain⟨b,_,rfl⟩:=Ei.1 ht;have hl:=hM.2.2.2.2.1;exact c0e (b3z _ _) (b4a hM.1) (c5x hM _ 0 false (.inr ⟨0,rfl,by omega⟩) (fun h=>by cases h) (b4a hM.1))
theorem Cj.set (h:Cj I O ts) {i:Nat} {t:List Int×Wd} (h1:t.1.length<=256) (h2:Cn I O t=true) : Cj I O (ts.set i t) :=
 ⟨by rw[Ed];exact h.len,h.i1,h.i2,h.o1,h.o2,fun u hu=>by rcases g4f hu with h3|rfl;exact h.wl u h3;grind,fun u hu=>by rcases g4f hu with h3|rfl;exact h.ok u h3;grind⟩
theorem a4w {α:Type} {l:List α} {k:Nat} {d:α} (h:k<l.length) : l.getD k d∈l/\l.getD k d=l[k]:=by
 grind
theorem d5l (hM:M.ok) (ws:List (List Nat)) (ia ib ic:Nat) : Cj M.inp M.out (ofG M ws ia ib ic):=by
 have h:=d5k hM ws;unfold ofG;split
 ·exact h
 ·split
  ·exact h
  ·rename_i h1 h2;have hl:ia % (Bm M ws).length<(Bm M ws).length:=Es _ (by omega);have hm:=(a4w (d:=([],[])) hl).1;have hv:=h.lens hm;generalize (Bm M ws).getD (ia % (Bm M ws).length) ([],[])=t at *;have hk:ib % t.2.length<t.2.length:=Es _ (by omega);refine h.set (h.wl t hm) (c0e ?_ hv.2.1 (f7p hM.2.2.1 hv.2.2 hk));grind[f7o]
def stepL:Wd->Wd->Wd->Wd->Nat->Option Nat
 | i :: x,a :: r,j :: y,b :: s,k=>if i=j then (if a=b then stepL x r y s (k+1) else some k) else none
 | _,_,_,_,_=>none
def a0x (t:List Int×Wd) : Lq->Nat->Option (Nat×Nat)
 | [],_=>none
 | u :: us,a=>match stepL u.1 u.2 t.1 t.2 0 with
  | some k=>some (a,k)
  | none=>a0x t us (a+1)
def Dk (ts:Lq) : Lq->Nat->Option (Nat×Nat×Nat)
 | [],_=>none
 | t :: us,b=>match a0x t (ts.take b) 0 with
  | some (a,k)=>some (a,b,k)
  | none=>Dk ts us (b+1)
theorem d5m : ∀ (w v:Wd) (s:Int) (k:Nat),stepL w (Dd M s w) v (Dd M s v) k=none
 | [],_,_,_=>rfl
 | _ :: _,[],_,_=>rfl
 | i :: w,j :: v,s,k=>by
  show (if i=j then (if (a0o M s i).2=(a0o M s j).2 then _ else _) else none)=none;by_cases h:i=j
  ·subst h;rw[if_pos rfl,if_pos rfl];exact d5m w v _ _
  grind
theorem d5n {t:List Int×Wd} (ht:t.2=Dd M 0 t.1) : ∀ (us:Lq) (a:Nat),(∀ u∈us,u.2=Dd M 0 u.1)->a0x t us a=none
 | [],_,_=>rfl
 | u :: us,a,h=>by
  unfold a0x;rw[h u (by simp),ht,d5m];exact d5n ht us _ fun v hv=>h v (by simp[hv])
theorem d5o (h:∀ u∈ts,u.2=Dd M 0 u.1) : ∀ (us:Lq) (b:Nat),(∀ u∈us,u.2=Dd M 0 u.1)->Dk ts us b=none
 | [],_,_=>rfl
 | t :: us,b,h2=>by
  unfold Dk;rw[d5n (h2 t (by simp)) _ _ fun u hu=>h u (g3o hu)];exact d5o h us _ fun v hv=>h2 v (by grind)
end Go.Ai
end
section
namespace Go.Ai
open Go.Proofs Go.Proofs.Tryz
set_option maxRecDepth 10000
set_option maxHeartbeats 40000000
variable {r:Wd} {k:Nat}
theorem RowsF.set2 {g:Gb} {lo n B:Nat} {ts:Lq} {cs:List AV} (h:RowsF g lo n B ts cs) {i:Nat} (hi:i<ts.length) {r:Wd} {q:AV} (hq:Bj g lo n B r q) : RowsF g lo n B (ts.set i (ts[i].1,r)) (cs.set (i*2+1) q):=by
 refine⟨by rw[Ed,Ed];exact h.1,fun k hk=>?_⟩;rw[Ed] at hk;obtain⟨s1,s2,h1,h2,h3,h4⟩:=h.2 k hk;by_cases hki:i=k
 ·subst hki;refine⟨s1,q,?_,?_,?_,?_⟩
  ·rw[g2z (by omega)];exact h1
  ·rw[g3x (by have:=h.1;omega)]
  ·simp only[g5z];exact h3
  ·simp only[g5z];exact hq
 ·refine⟨s1,s2,?_,?_,?_,?_⟩
  ·rw[g2z (by omega)];exact h1
  ·rw[g2z (by omega)];exact h2
  ·rw[g4g hki];exact h3
  ·rw[g4g hki];exact h4
theorem Bj.mk {g:Gb} {lo n B m:Nat} {w:Wd} {own:Bool} {z:Nat} (h:g m=some (.cells (wdC w) own z)) (h1:lo<=m) (h2:m<n) (h3:m≠B) {c:Nat} : Bj g lo n B w (.slq m 0 w.length c) :=
 ⟨fun a=>if a=m then g a else none,⟨fun a z hz=>(by
  have hz' : (if a=m then g a else none)=some z:=hz;split at hz'
  ·rename_i h4;subst h4;exact⟨hz',h1,h2,h3⟩
  ·cases hz'),.inr ⟨m,0,h2,.inr ⟨c,rfl⟩,wdC w,own,z,(if_pos rfl).trans h,by simp[*]⟩⟩⟩
theorem d5p (w:Wd) (k:Nat) (v:Int) : (wdC w).set k (.li v)=wdC (w.set k v):=by
 unfold wdC;rw[List.map_set]
def a4x (r:Wd) (k j:Nat) : Wd:=r.take k++(List.replicate (j-k) (-1)++r.drop j)
theorem f7q {j:Nat} (hk:k<=j) (hj:j<r.length) : (a4x r k j).set j (-1)=a4x r k (j+1):=by
 unfold a4x;rw[g4p _ _ (by rw[Dw];omega),Dw,Fa (by omega),g4p _ _ (by rw[g4c];omega),g4c,g2o,Ef hj,g5v,show j+1-k=(j-k)+1 by omega,List.replicate_succ',Er];rfl
theorem d5q {j:Nat} (hk:k<=j) (hj:j<=r.length) : (a4x r k j).length=r.length:=by
 unfold a4x;rw[Dr,Dr,Dw,g4c,g5h];omega
theorem f7r (hk:k<=r.length) : a4x r k r.length=r.take k++List.replicate (r.length-k) (-1):=by
 unfold a4x;rw[g3h,Ej]
end Go.Ai
end

