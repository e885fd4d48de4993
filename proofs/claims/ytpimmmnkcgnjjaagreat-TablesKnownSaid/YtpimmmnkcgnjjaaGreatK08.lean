/- Parts of an interpreter and of a proof. No condition. -/
import Derived.Test.YtpimmmnkcgnjjaaGreatRows
import Derived.Test.YtpimmmnkcgnjjaaGreatK05
set_option linter.all false
set_option maxHeartbeats 40000000
set_option maxRecDepth 100000
open Go.Proofs Go.Proofs.Tryz
namespace Go.Ai
attribute [simp] underlying0 underlying1 underlying2 underlying3 underlying4 underlying5 underlying6 underlying7 underlying8 underlying9 underlying10 underlying11 underlying12 underlying13 underlying14 underlying15 underlying16 underlying17 underlying18 underlying19 underlying20 underlying21 underlying22 underlying23 underlying24 underlying25 underlying26 underlying27 underlying28 underlying29 underlying30 underlying31 underlying32 underlying33 underlying34 underlying35 underlying36 underlying37 underlying38 underlying39 underlying40 underlying41 underlying42 underlying43 underlying44 underlying45 underlying46 underlying47 underlying48 underlying49 underlying50 underlying51 underlying52 underlying53 underlying54 underlying55 underlying56 underlying57 underlying58 underlying59 underlying60 underlying61 underlying62 underlying63 underlying64 underlying65 underlying66 underlying67 underlying68 underlying69 underlying70 underlying71 underlying72 underlying73 underlying74 underlying75 underlying76 underlying77 underlying78 underlying79 underlying80 underlying81 underlying82 underlying83 underlying84 underlying85 underlying86 underlying87 underlying88 underlying89 underlying90 underlying91 underlying92 underlying93 underlying94 underlying95 underlying96 underlying97 underlying98 underlying99 underlying100 underlying101 underlying102 underlying103 underlying104 underlying105 underlying106 underlying107 underlying108 underlying109 underlying110 underlying111 underlying112 underlying113 underlying114 underlying115 underlying116 underlying117 underlying118 underlying119 underlying120 underlying121 underlying122 underlying123 underlying124 underlying125 underlying126 underlying127 underlying128 underlying129 underlying130 underlying131 underlying132 underlying133 underlying134 underlying135 underlying136 underlying137 underlying138 underlying139 underlying140 underlying141 underlying142 underlying143 underlying144 underlying145 underlying146 underlying147 underlying148 underlying149 underlying150 underlying151 underlying152 underlying153 underlying154 underlying155 underlying156 underlying157 underlying158 underlying159 underlying160 underlying161 underlying162 underlying163 underlying164 underlying165 underlying166 underlying167 underlying168 underlying169 underlying170 underlying171 underlying172 underlying173 underlying174 underlying175 underlying176 underlying177 underlying178 underlying179 underlying180 underlying181 underlying182 underlying183 underlying184 underlying185 underlying186 underlying187 underlying188 underlying189 underlying190 underlying191 underlying192 underlying193 underlying194 underlying195 underlying196 underlying197 underlying198 underlying199 underlying200 underlying201 underlying202 underlying203 underlying204 underlying205 underlying206 underlying207 underlying208 underlying209 underlying210 underlying211 underlying212 underlying213 underlying214 underlying215 underlying216 underlying217 underlying218 underlying219 underlying220 underlying221 underlying222 underlying223 underlying224
variable {M:Az}{B n' lo':Nat}{g':Gb}{cs:List AV}{p:Bool}{r:Wd}
theorem hb3:Ao prog 3=true:=by kernel_rfl
theorem hb4:Ao prog 4=true:=by kernel_rfl
theorem hb5:Ao prog 5=true:=by kernel_rfl
theorem hb8:Ao prog 8=true:=by kernel_rfl
theorem hb10:Ao prog 10=true:=by kernel_rfl
theorem hb12:Ao prog 12=true:=by kernel_rfl
theorem hb13:Ao prog 13=true:=by kernel_rfl
theorem hb14:Ao prog 14=true:=by kernel_rfl
theorem hb15:Ao prog 15=true:=by kernel_rfl
theorem hb16:Ao prog 16=true:=by kernel_rfl
theorem hb19:Ao prog 19=true:=by kernel_rfl
theorem hb20:Ao prog 20=true:=by kernel_rfl
theorem hb22:Ao prog 22=true:=by kernel_rfl
theorem hb23:Ao prog 23=true:=by kernel_rfl
theorem hb25:Ao prog 25=true:=by kernel_rfl
theorem hb29:Ao prog 29=true:=by kernel_rfl
theorem hb31:Ao prog 31=true:=by kernel_rfl
theorem hb35:Ao prog 35=true:=by kernel_rfl
theorem hb37:Ao prog 37=true:=by kernel_rfl
theorem hb38:Ao prog 38=true:=by kernel_rfl
theorem hb39:Ao prog 39=true:=by kernel_rfl
theorem hb47:Ao prog 47=true:=by kernel_rfl
theorem hb49:Ao prog 49=true:=by kernel_rfl
theorem hb51:Ao prog 51=true:=by kernel_rfl
theorem hb52:Ao prog 52=true:=by kernel_rfl
theorem hb53:Ao prog 53=true:=by kernel_rfl
theorem hb54:Ao prog 54=true:=by kernel_rfl
theorem hb66:Ao prog 66=true:=by kernel_rfl
theorem hb67:Ao prog 67=true:=by kernel_rfl
theorem hb68:Ao prog 68=true:=by kernel_rfl
theorem hb69:Ao prog 69=true:=by kernel_rfl
theorem hb77:Ao prog 77=true:=by kernel_rfl
theorem hb78:Ao prog 78=true:=by kernel_rfl
theorem hb79:Ao prog 79=true:=by kernel_rfl
theorem hb80:Ao prog 80=true:=by kernel_rfl
theorem hb81:Ao prog 81=true:=by kernel_rfl
theorem hb82:Ao prog 82=true:=by kernel_rfl
theorem hb83:Ao prog 83=true:=by kernel_rfl
theorem hb84:Ao prog 84=true:=by kernel_rfl
theorem hb85:Ao prog 85=true:=by kernel_rfl
theorem hb88:Ao prog 88=true:=by kernel_rfl
theorem hb89:Ao prog 89=true:=by kernel_rfl
theorem hb90:Ao prog 90=true:=by kernel_rfl
theorem hb91:Ao prog 91=true:=by kernel_rfl
theorem hb92:Ao prog 92=true:=by kernel_rfl
theorem hb93:Ao prog 93=true:=by kernel_rfl
theorem hb94:Ao prog 94=true:=by kernel_rfl
theorem hb96:Ao prog 96=true:=by kernel_rfl
theorem hb99:Ao prog 99=true:=by kernel_rfl
theorem hb100:Ao prog 100=true:=by kernel_rfl
theorem hb101:Ao prog 101=true:=by kernel_rfl
theorem hb102:Ao prog 102=true:=by kernel_rfl
theorem hb103:Ao prog 103=true:=by kernel_rfl
theorem hb104:Ao prog 104=true:=by kernel_rfl
theorem hb105:Ao prog 105=true:=by kernel_rfl
theorem hb106:Ao prog 106=true:=by kernel_rfl
theorem hb107:Ao prog 107=true:=by kernel_rfl
theorem hb108:Ao prog 108=true:=by kernel_rfl
theorem hb109:Ao prog 109=true:=by kernel_rfl
theorem hb110:Ao prog 110=true:=by kernel_rfl
theorem hb111:Ao prog 111=true:=by kernel_rfl
theorem hb112:Ao prog 112=true:=by kernel_rfl
theorem hb115:Ao prog 115=true:=by kernel_rfl
theorem hb116:Ao prog 116=true:=by kernel_rfl
theorem hb117:Ao prog 117=true:=by kernel_rfl
theorem hb118:Ao prog 118=true:=by kernel_rfl
theorem hb120:Ao prog 120=true:=by kernel_rfl
theorem hb121:Ao prog 121=true:=by kernel_rfl
theorem hb122:Ao prog 122=true:=by kernel_rfl
theorem hb123:Ao prog 123=true:=by kernel_rfl
theorem hb124:Ao prog 124=true:=by kernel_rfl
theorem hb125:Ao prog 125=true:=by kernel_rfl
theorem hb126:Ao prog 126=true:=by kernel_rfl
theorem hb127:Ao prog 127=true:=by kernel_rfl
theorem hb128:Ao prog 128=true:=by kernel_rfl
theorem hb129:Ao prog 129=true:=by kernel_rfl
theorem hb130:Ao prog 130=true:=by kernel_rfl
theorem hb131:Ao prog 131=true:=by kernel_rfl
theorem hb132:Ao prog 132=true:=by kernel_rfl
theorem hb133:Ao prog 133=true:=by kernel_rfl
theorem hb134:Ao prog 134=true:=by kernel_rfl
theorem hb135:Ao prog 135=true:=by kernel_rfl
theorem hb139:Ao prog 139=true:=by kernel_rfl
theorem hb140:Ao prog 140=true:=by kernel_rfl
theorem hb141:Ao prog 141=true:=by kernel_rfl
theorem hb143:Ao prog 143=true:=by kernel_rfl
theorem hb144:Ao prog 144=true:=by kernel_rfl
theorem hb145:Ao prog 145=true:=by kernel_rfl
theorem hb146:Ao prog 146=true:=by kernel_rfl
theorem hb147:Ao prog 147=true:=by kernel_rfl
theorem hb158:Ao prog 158=true:=by kernel_rfl
attribute [simp] hb3 hb4 hb5 hb8 hb10 hb12 hb13 hb14 hb15 hb16 hb19 hb20 hb22 hb23 hb25 hb29 hb31 hb35 hb37 hb38 hb39 hb47 hb49 hb51 hb52 hb53 hb54 hb66 hb67 hb68 hb69 hb77 hb78 hb79 hb80 hb81 hb82 hb83 hb84 hb85 hb88 hb89 hb90 hb91 hb92 hb93 hb94 hb96 hb99 hb100 hb101 hb102 hb103 hb104 hb105 hb106 hb107 hb108 hb109 hb110 hb111 hb112 hb115 hb116 hb117 hb118 hb120 hb121 hb122 hb123 hb124 hb125 hb126 hb127 hb128 hb129 hb130 hb131 hb132 hb133 hb134 hb135 hb139 hb140 hb141 hb143 hb144 hb145 hb146 hb147 hb158
theorem ag_3:Ch prog 3=some (false,1):=by kernel_rfl
theorem ag_84:Ch prog 84=some (true,2):=by kernel_rfl
theorem ag_65:Ch prog 65=some (false,1):=by kernel_rfl
theorem ag_97:Ch prog 97=some (true,2):=by kernel_rfl
theorem ag_22:Ch prog 22=some (false,1):=by kernel_rfl
theorem ag_98:Ch prog 98=some (false,1):=by kernel_rfl
theorem ag_23:Ch prog 23=some (false,1):=by kernel_rfl
theorem ag_49:Ch prog 49=some (true,3):=by kernel_rfl
theorem ag_59:Ch prog 59=some (true,3):=by kernel_rfl
theorem ag_52:Ch prog 52=some (false,1):=by kernel_rfl
theorem ag_54:Ch prog 54=some (true,3):=by kernel_rfl
theorem ag_25:Ch prog 25=some (true,3):=by kernel_rfl
theorem ag_27:Ch prog 27=some (true,7):=by kernel_rfl
theorem ag_156:Ch prog 156=some (true,2):=by kernel_rfl
theorem ag_5:Ch prog 5=some (false,1):=by kernel_rfl
theorem zl_3:Br prog 3=some [.li 0]:=by kernel_rfl
theorem zl_97:Br prog 97=some [.li 0,.li 0]:=by kernel_rfl
theorem zl_84:Br prog 84=some [.nl,.nl]:=by kernel_rfl
theorem zl_59:Br prog 59=some [.li 0,.li 0,.li 0]:=by kernel_rfl
theorem zl_65:Br prog 65=some [.nl]:=by kernel_rfl
theorem zl_27:Br prog 27=some [.li 0,.li 0,.nl,.nl,.li 0,.li 0,.nl]:=by kernel_rfl
theorem zl_156:Br prog 156=some [.li 0,.li 0]:=by kernel_rfl
theorem zl_54:Br prog 54=some [.li 0,.li 0,.nl]:=by kernel_rfl
theorem zl_49:Br prog 49=some [.li 0,.li 0,.nl]:=by kernel_rfl
theorem zl_22:Br prog 22=some [.nl]:=by kernel_rfl
theorem zl_23:Br prog 23=some [.nl]:=by kernel_rfl
theorem zl_25:Br prog 25=some [.li 0,.li 0,.nl]:=by kernel_rfl
theorem fo_27_0:Db prog 27 0=some 0:=by kernel_rfl
theorem fo_27_2:Db prog 27 2=some 2:=by kernel_rfl
theorem fo_84_1:Db prog 84 1=some 1:=by kernel_rfl
theorem fo_84_0:Db prog 84 0=some 0:=by kernel_rfl
theorem fo_97_0:Db prog 97 0=some 0:=by kernel_rfl
theorem fo_97_1:Db prog 97 1=some 1:=by kernel_rfl
theorem fo_49_2:Db prog 49 2=some 2:=by kernel_rfl
theorem fo_49_1:Db prog 49 1=some 1:=by kernel_rfl
theorem fo_25_2:Db prog 25 2=some 2:=by kernel_rfl
theorem fo_54_0:Db prog 54 0=some 0:=by kernel_rfl
theorem fo_54_2:Db prog 54 2=some 2:=by kernel_rfl
theorem fo_49_0:Db prog 49 0=some 0:=by kernel_rfl
theorem fo_54_1:Db prog 54 1=some 1:=by kernel_rfl
theorem fo_27_4:Db prog 27 4=some 4:=by kernel_rfl
theorem fo_25_1:Db prog 25 1=some 1:=by kernel_rfl
theorem fo_25_0:Db prog 25 0=some 0:=by kernel_rfl
theorem fo_27_3:Db prog 27 3=some 3:=by kernel_rfl
theorem fo_156_0:Db prog 156 0=some 0:=by kernel_rfl
theorem fo_156_1:Db prog 156 1=some 1:=by kernel_rfl
theorem fo_27_1:Db prog 27 1=some 1:=by kernel_rfl
theorem es_52:Bp prog 52=some (none,2):=by kernel_rfl
theorem es_22:Bp prog 22=some (none,1):=by kernel_rfl
theorem es_98:Bp prog 98=some (none,2):=by kernel_rfl
theorem es_65:Bp prog 65=some (none,1):=by kernel_rfl
theorem es_23:Bp prog 23=some (none,1):=by kernel_rfl
theorem es_152:Bp prog 152=some (none,2):=by kernel_rfl
theorem es_42:Bp prog 42=some (none,1):=by kernel_rfl
theorem is_102:O0 prog 102=true:=by kernel_rfl
theorem bi_97:Jl prog 97=some ([.li 0,.li 0],[(0,1),(1,1)]):=by kernel_rfl
theorem bi_156:Jl prog 156=some ([.li 0,.li 0],[(0,1),(1,1)]):=by kernel_rfl
theorem bi_59:Jl prog 59=some ([.li 0,.li 0,.li 0],[(0,1),(1,1),(2,1)]):=by kernel_rfl
theorem bi_49:Jl prog 49=some ([.li 0,.li 0,.nl],[(0,1),(1,1),(2,1)]):=by kernel_rfl
theorem bi_54:Jl prog 54=some ([.li 0,.li 0,.nl],[(0,1),(1,1),(2,1)]):=by kernel_rfl
theorem bi_84:Jl prog 84=some ([.nl,.nl],[(0,1),(1,1)]):=by kernel_rfl
theorem bi_25:Jl prog 25=some ([.li 0,.li 0,.nl],[(0,1),(1,1),(2,1)]):=by kernel_rfl
theorem bi_27:Jl prog 27=some ([.li 0,.li 0,.nl,.nl,.li 0,.li 0,.nl],[(0,1),(1,1),(2,1),(3,1),(4,3)]):=by kernel_rfl
theorem bs_65:bsI prog 65=some ([.li 0],1):=by kernel_rfl
theorem bs_98:bsI prog 98=some ([.li 0,.li 0],2):=by kernel_rfl
theorem bs_23:bsI prog 23=some ([.nl],1):=by kernel_rfl
theorem bs_152:bsI prog 152=some ([.li 0,.li 0],2):=by kernel_rfl
theorem bs_22:bsI prog 22=some ([.nl],1):=by kernel_rfl
theorem bs_52:bsI prog 52=some ([.nl,.nl],2):=by kernel_rfl
theorem ap_65_65:apI prog 65 65=some (1,8):=by kernel_rfl
theorem ap_98_98:apI prog 98 98=some (2,16):=by kernel_rfl
theorem ap_23_23:apI prog 23 23=some (1,24):=by kernel_rfl
theorem ap_152_152:apI prog 152 152=some (2,16):=by kernel_rfl
theorem ap_22_22:apI prog 22 22=some (1,24):=by kernel_rfl
theorem ap_52_52:apI prog 52 52=some (2,48):=by kernel_rfl
attribute [simp] ag_3 ag_84 ag_65 ag_97 ag_22 ag_98 ag_23 ag_49 ag_59 ag_52 ag_54 ag_25 ag_27 ag_156 ag_5 zl_3 zl_97 zl_84 zl_59 zl_65 zl_27 zl_156 zl_54 zl_49 zl_22 zl_23 zl_25 fo_27_0 fo_27_2 fo_84_1 fo_84_0 fo_97_0 fo_97_1 fo_49_2 fo_49_1 fo_25_2 fo_54_0 fo_54_2 fo_49_0 fo_54_1 fo_27_4 fo_25_1 fo_25_0 fo_27_3 fo_156_0 fo_156_1 fo_27_1 es_52 es_22 es_98 es_65 es_23 es_152 es_42 is_102 bi_97 bi_156 bi_59 bi_49 bi_54 bi_84 bi_25 bi_27 bs_65 bs_98 bs_23 bs_152 bs_22 bs_52 ap_65_65 ap_98_98 ap_23_23 ap_152_152 ap_22_22 ap_52_52
theorem gsize:prog.globals.size=0:=by kernel_rfl
def pl11:List (Nat×List It):=[(5,[.run 0,.run 1,.mk 2,.mk 7,.gate [0] [2],.run 3,.run 4,.run 5,.run 6,.gate [] [7],.run 8,.run 9]),(9,[.run 0,.mk 1,.mk 6,.gate [0] [1],.run 2,.run 3,.run 4,.run 5,.gate [] [6],.run 7,.run 8]),(10,[.run 0,.mk 1,.mk 6,.gate [0] [1],.run 2,.run 3,.run 4,.run 5,.gate [] [6],.run 7,.run 8]),(11,[.run 0,.mk 1,.mk 6,.gate [0] [1],.run 2,.run 3,.run 4,.run 5,.gate [] [6],.run 7,.run 8])]
theorem pl11_at_5:planAt pl11 5=[.run 0,.run 1,.mk 2,.mk 7,.gate [0] [2],.run 3,.run 4,.run 5,.run 6,.gate [] [7],.run 8,.run 9]:=(rfl)
attribute [simp] pl11_at_5
theorem pl11_at_9:planAt pl11 9=[.run 0,.mk 1,.mk 6,.gate [0] [1],.run 2,.run 3,.run 4,.run 5,.gate [] [6],.run 7,.run 8]:=(rfl)
attribute [simp] pl11_at_9
theorem pl11_at_10:planAt pl11 10=[.run 0,.mk 1,.mk 6,.gate [0] [1],.run 2,.run 3,.run 4,.run 5,.gate [] [6],.run 7,.run 8]:=(rfl)
attribute [simp] pl11_at_10
theorem pl11_at_11:planAt pl11 11=[.run 0,.mk 1,.mk 6,.gate [0] [1],.run 2,.run 3,.run 4,.run 5,.gate [] [6],.run 7,.run 8]:=(rfl)
attribute [simp] pl11_at_11
def pl22:List (Nat×List It):=[(12,[.run 0,.run 1,.run 3,.run 4,.run 2,.gate [4] [],.run 5,.run 6,.run 7])]
theorem pl22_at_12:planAt pl22 12=[.run 0,.run 1,.run 3,.run 4,.run 2,.gate [4] [],.run 5,.run 6,.run 7]:=(rfl)
attribute [simp] pl22_at_12
def pl31:List (Nat×List It):=[(9,[.run 0,.run 1,.run 2,.run 3,.run 4,.run 5,.run 6,.mk 7,.run 8,.mk 9,.gate [6,5,3,1] [7],.run 10]),(15,[.run 0,.run 1,.run 2,.run 3,.run 4,.mk 5,.run 6,.gate [4,1] [],.run 7]),(19,[.run 0,.run 1,.run 2,.run 3,.run 4,.run 5,.run 6,.run 7,.run 8,.run 9,.mk 10,.gate [6,4,1] [],.run 11,.gate [6,4,1] [],.run 12,.run 13,.gate [4,1] [],.run 14])]
theorem pl31_at_9:planAt pl31 9=[.run 0,.run 1,.run 2,.run 3,.run 4,.run 5,.run 6,.mk 7,.run 8,.mk 9,.gate [6,5,3,1] [7],.run 10]:=(rfl)
attribute [simp] pl31_at_9
theorem pl31_at_15:planAt pl31 15=[.run 0,.run 1,.run 2,.run 3,.run 4,.mk 5,.run 6,.gate [4,1] [],.run 7]:=(rfl)
attribute [simp] pl31_at_15
theorem pl31_at_19:planAt pl31 19=[.run 0,.run 1,.run 2,.run 3,.run 4,.run 5,.run 6,.run 7,.run 8,.run 9,.mk 10,.gate [6,4,1] [],.run 11,.gate [6,4,1] [],.run 12,.run 13,.gate [4,1] [],.run 14]:=(rfl)
attribute [simp] pl31_at_19
def pl38:List (Nat×List It):=[(4,[.run 0,.run 1,.run 2,.run 3,.run 4,.run 5,.run 6,.run 7,.run 8,.run 9,.run 10,.run 11,.run 12,.run 13,.run 14,.run 15,.run 16,.run 17,.run 18,.run 19,.run 20,.run 21,.run 22,.run 23,.run 24,.run 25,.run 26,.run 27,.run 28,.run 29,.run 30,.run 31,.run 32,.run 33]),(9,[.run 0,.run 1,.run 2,.run 3,.gate [1] [],.run 4,.mk 5,.gate [1] [],.run 6,.run 7,.run 8,.run 9])]
theorem pl38_at_4:planAt pl38 4=[.run 0,.run 1,.run 2,.run 3,.run 4,.run 5,.run 6,.run 7,.run 8,.run 9,.run 10,.run 11,.run 12,.run 13,.run 14,.run 15,.run 16,.run 17,.run 18,.run 19,.run 20,.run 21,.run 22,.run 23,.run 24,.run 25,.run 26,.run 27,.run 28,.run 29,.run 30,.run 31,.run 32,.run 33]:=(rfl)
attribute [simp] pl38_at_4
theorem pl38_at_9:planAt pl38 9=[.run 0,.run 1,.run 2,.run 3,.gate [1] [],.run 4,.mk 5,.gate [1] [],.run 6,.run 7,.run 8,.run 9]:=(rfl)
attribute [simp] pl38_at_9
def pl39:List (Nat×List It):=[(12,[.run 0,.run 1,.run 2,.run 3,.gate [1] [],.run 4,.mk 5,.gate [1] [],.run 6,.run 7,.run 8,.run 9])]
theorem pl39_at_12:planAt pl39 12=[.run 0,.run 1,.run 2,.run 3,.gate [1] [],.run 4,.mk 5,.gate [1] [],.run 6,.run 7,.run 8,.run 9]:=(rfl)
attribute [simp] pl39_at_12
def pl47:List (Nat×List It):=[(4,[.run 0,.run 1,.run 2,.run 3,.run 4,.run 5,.run 6,.mk 7,.run 8,.mk 9,.gate [5,3,1] [7],.run 10]),(18,[.run 0,.run 1,.run 2,.run 3,.run 4,.run 6,.run 5,.run 7,.run 8,.gate [1] [],.run 9]),(19,[.run 0,.run 1,.run 2,.run 3,.run 4,.run 5,.run 6,.run 7,.run 8,.run 9,.run 10,.run 11,.gate [1] [],.run 12])]
theorem pl47_at_4:planAt pl47 4=[.run 0,.run 1,.run 2,.run 3,.run 4,.run 5,.run 6,.mk 7,.run 8,.mk 9,.gate [5,3,1] [7],.run 10]:=(rfl)
attribute [simp] pl47_at_4
theorem pl47_at_18:planAt pl47 18=[.run 0,.run 1,.run 2,.run 3,.run 4,.run 6,.run 5,.run 7,.run 8,.gate [1] [],.run 9]:=(rfl)
attribute [simp] pl47_at_18
theorem pl47_at_19:planAt pl47 19=[.run 0,.run 1,.run 2,.run 3,.run 4,.run 5,.run 6,.run 7,.run 8,.run 9,.run 10,.run 11,.gate [1] [],.run 12]:=(rfl)
attribute [simp] pl47_at_19
def pl49:List (Nat×List It):=[(11,[.run 0,.run 1,.run 2,.run 3,.run 4,.run 5,.run 6,.gate [3,1] [],.run 7,.run 8])]
theorem pl49_at_11:planAt pl49 11=[.run 0,.run 1,.run 2,.run 3,.run 4,.run 5,.run 6,.gate [3,1] [],.run 7,.run 8]:=(rfl)
attribute [simp] pl49_at_11
def pl67:List (Nat×List It):=[(18,[.run 0,.run 1,.run 2,.run 3,.run 4,.run 5,.mk 6,.run 7,.mk 8,.gate [5,3,1] [6],.run 9]),(28,[.run 0,.run 1,.run 2,.run 3,.run 4,.run 5,.run 6,.mk 7,.gate [6,1] [],.run 8,.run 9,.run 10]),(29,[.run 0,.run 1,.run 2,.run 3,.run 4,.run 5,.run 6,.run 7,.run 8,.run 9,.run 10,.run 11,.run 12,.run 13,.run 14,.run 15,.run 16,.run 17,.run 18,.mk 19,.gate [18,15,10,8,3,1] [],.run 20,.run 21,.run 22]),(32,[.run 0,.run 1,.run 2,.run 3,.run 5,.run 6,.run 4,.gate [6,1] [],.run 7,.run 8,.mk 9,.gate [1] [],.run 10,.run 11,.run 12])]
theorem pl67_at_18:planAt pl67 18=[.run 0,.run 1,.run 2,.run 3,.run 4,.run 5,.mk 6,.run 7,.mk 8,.gate [5,3,1] [6],.run 9]:=(rfl)
attribute [simp] pl67_at_18
theorem pl67_at_28:planAt pl67 28=[.run 0,.run 1,.run 2,.run 3,.run 4,.run 5,.run 6,.mk 7,.gate [6,1] [],.run 8,.run 9,.run 10]:=(rfl)
attribute [simp] pl67_at_28
theorem pl67_at_29:planAt pl67 29=[.run 0,.run 1,.run 2,.run 3,.run 4,.run 5,.run 6,.run 7,.run 8,.run 9,.run 10,.run 11,.run 12,.run 13,.run 14,.run 15,.run 16,.run 17,.run 18,.mk 19,.gate [18,15,10,8,3,1] [],.run 20,.run 21,.run 22]:=(rfl)
attribute [simp] pl67_at_29
theorem pl67_at_32:planAt pl67 32=[.run 0,.run 1,.run 2,.run 3,.run 5,.run 6,.run 4,.gate [6,1] [],.run 7,.run 8,.mk 9,.gate [1] [],.run 10,.run 11,.run 12]:=(rfl)
attribute [simp] pl67_at_32
def pl69:List (Nat×List It):=[(1,[.run 0,.run 1,.run 3,.run 4,.run 6,.run 7,.run 8,.run 2,.run 10,.gate [8,4] [],.run 5,.gate [8] [],.run 9,.run 11,.run 12,.run 13,.run 14,.run 15,.run 16]),(5,[.run 0,.run 1,.run 2,.run 3,.run 4,.gate [1] [],.run 5,.run 6,.gate [1] [],.run 7]),(10,[.run 0,.run 1,.run 2,.run 3,.run 4,.gate [1] [],.run 5,.run 6,.gate [1] [],.run 7]),(15,[.run 0,.run 1,.run 2,.run 3,.run 4,.run 5,.gate [2] [],.run 6,.run 7,.gate [2] [],.run 8]),(17,[.run 0,.run 1,.run 3,.run 4,.run 6,.run 7,.run 8,.run 2,.run 10,.gate [8,4] [],.run 5,.gate [8] [],.run 9,.run 11,.run 12,.run 13,.run 14,.run 15,.run 16])]
theorem pl69_at_1:planAt pl69 1=[.run 0,.run 1,.run 3,.run 4,.run 6,.run 7,.run 8,.run 2,.run 10,.gate [8,4] [],.run 5,.gate [8] [],.run 9,.run 11,.run 12,.run 13,.run 14,.run 15,.run 16]:=(rfl)
attribute [simp] pl69_at_1
theorem pl69_at_5:planAt pl69 5=[.run 0,.run 1,.run 2,.run 3,.run 4,.gate [1] [],.run 5,.run 6,.gate [1] [],.run 7]:=(rfl)
attribute [simp] pl69_at_5
theorem pl69_at_10:planAt pl69 10=[.run 0,.run 1,.run 2,.run 3,.run 4,.gate [1] [],.run 5,.run 6,.gate [1] [],.run 7]:=(rfl)
attribute [simp] pl69_at_10
theorem pl69_at_15:planAt pl69 15=[.run 0,.run 1,.run 2,.run 3,.run 4,.run 5,.gate [2] [],.run 6,.run 7,.gate [2] [],.run 8]:=(rfl)
attribute [simp] pl69_at_15
theorem pl69_at_17:planAt pl69 17=[.run 0,.run 1,.run 3,.run 4,.run 6,.run 7,.run 8,.run 2,.run 10,.gate [8,4] [],.run 5,.gate [8] [],.run 9,.run 11,.run 12,.run 13,.run 14,.run 15,.run 16]:=(rfl)
attribute [simp] pl69_at_17
def pl79:List (Nat×List It):=[(5,[.run 0,.run 1,.run 2,.run 3,.gate [0] [],.run 4,.run 5,.run 6,.run 7,.run 8,.run 9])]
theorem pl79_at_5:planAt pl79 5=[.run 0,.run 1,.run 2,.run 3,.gate [0] [],.run 4,.run 5,.run 6,.run 7,.run 8,.run 9]:=(rfl)
attribute [simp] pl79_at_5
def pl80:List (Nat×List It):=[(8,[.run 0,.run 1,.run 2,.run 3,.run 4,.run 5,.run 6,.run 7,.run 8]),(10,[.run 0,.run 1,.run 2,.run 3,.run 4,.run 5,.run 6,.run 7,.run 8])]
theorem pl80_at_8:planAt pl80 8=[.run 0,.run 1,.run 2,.run 3,.run 4,.run 5,.run 6,.run 7,.run 8]:=(rfl)
attribute [simp] pl80_at_8
theorem pl80_at_10:planAt pl80 10=[.run 0,.run 1,.run 2,.run 3,.run 4,.run 5,.run 6,.run 7,.run 8]:=(rfl)
attribute [simp] pl80_at_10
def pl81:List (Nat×List It):=[(7,[.run 0,.run 1,.run 2,.run 3,.run 4,.run 5,.run 6,.run 7,.run 8,.gate [0] []])]
theorem pl81_at_7:planAt pl81 7=[.run 0,.run 1,.run 2,.run 3,.run 4,.run 5,.run 6,.run 7,.run 8,.gate [0] []]:=(rfl)
attribute [simp] pl81_at_7
def pl84:List (Nat×List It):=[(5,[.run 0,.run 1,.run 4,.run 5,.run 6,.run 7,.run 8,.run 9,.run 2,.run 3,.run 10,.gate [9,6] [],.run 11])]
theorem pl84_at_5:planAt pl84 5=[.run 0,.run 1,.run 4,.run 5,.run 6,.run 7,.run 8,.run 9,.run 2,.run 3,.run 10,.gate [9,6] [],.run 11]:=(rfl)
attribute [simp] pl84_at_5
def pl90:List (Nat×List It):=[(1,[.run 0,.run 1,.run 2,.run 3,.run 4,.run 5,.run 6,.run 7,.run 8,.run 9,.run 10,.run 11,.run 12,.run 15,.run 16,.run 13,.run 14,.gate [16] [],.run 17,.run 18,.run 19,.run 20])]
theorem pl90_at_1:planAt pl90 1=[.run 0,.run 1,.run 2,.run 3,.run 4,.run 5,.run 6,.run 7,.run 8,.run 9,.run 10,.run 11,.run 12,.run 15,.run 16,.run 13,.run 14,.gate [16] [],.run 17,.run 18,.run 19,.run 20]:=(rfl)
attribute [simp] pl90_at_1
def pl106:List (Nat×List It):=[(9,[.run 0,.run 1,.run 2,.run 3,.run 4,.run 5,.run 6,.run 7,.run 8,.run 9,.run 10]),(10,[.run 0,.run 1,.run 2,.run 3,.mk 4,.gate [0] [],.run 5,.run 6])]
theorem pl106_at_9:planAt pl106 9=[.run 0,.run 1,.run 2,.run 3,.run 4,.run 5,.run 6,.run 7,.run 8,.run 9,.run 10]:=(rfl)
attribute [simp] pl106_at_9
theorem pl106_at_10:planAt pl106 10=[.run 0,.run 1,.run 2,.run 3,.mk 4,.gate [0] [],.run 5,.run 6]:=(rfl)
attribute [simp] pl106_at_10
def pl111:List (Nat×List It):=[(6,[.run 0,.run 1,.run 2,.run 3,.run 4,.run 5,.run 6,.run 7,.run 8,.run 9,.run 10]),(11,[.run 0,.run 1,.run 2,.run 3,.run 4,.run 5,.run 6,.run 7,.run 8,.run 9,.run 10,.run 11])]
theorem pl111_at_6:planAt pl111 6=[.run 0,.run 1,.run 2,.run 3,.run 4,.run 5,.run 6,.run 7,.run 8,.run 9,.run 10]:=(rfl)
attribute [simp] pl111_at_6
theorem pl111_at_11:planAt pl111 11=[.run 0,.run 1,.run 2,.run 3,.run 4,.run 5,.run 6,.run 7,.run 8,.run 9,.run 10,.run 11]:=(rfl)
attribute [simp] pl111_at_11
def pl112:List (Nat×List It):=[(6,[.run 0,.run 1,.run 2,.run 3,.run 4,.run 5,.run 6,.run 7,.run 8])]
theorem pl112_at_6:planAt pl112 6=[.run 0,.run 1,.run 2,.run 3,.run 4,.run 5,.run 6,.run 7,.run 8]:=(rfl)
attribute [simp] pl112_at_6
def pl116:List (Nat×List It):=[(12,[.run 0,.run 1,.run 2,.run 3,.run 4,.run 5,.run 6,.run 7,.run 8,.run 9])]
theorem pl116_at_12:planAt pl116 12=[.run 0,.run 1,.run 2,.run 3,.run 4,.run 5,.run 6,.run 7,.run 8,.run 9]:=(rfl)
attribute [simp] pl116_at_12
def pl117:List (Nat×List It):=[(3,[.run 0,.run 1,.run 2,.run 3,.run 4,.run 5,.run 6,.run 7,.run 8,.run 9,.run 10,.run 11,.run 12,.run 13,.run 14,.run 15])]
theorem pl117_at_3:planAt pl117 3=[.run 0,.run 1,.run 2,.run 3,.run 4,.run 5,.run 6,.run 7,.run 8,.run 9,.run 10,.run 11,.run 12,.run 13,.run 14,.run 15]:=(rfl)
attribute [simp] pl117_at_3
def pl131:List (Nat×List It):=[(1,[.run 0,.run 1,.run 2,.run 3,.run 4,.run 5,.run 6,.run 7,.run 8,.run 9,.run 10,.run 11,.run 12,.run 13,.run 14,.run 15,.run 16,.run 17,.run 18,.run 19,.run 20,.run 21,.run 22,.run 23,.run 24,.run 25,.run 26,.run 27,.run 28,.gate [0] []])]
theorem pl131_at_1:planAt pl131 1=[.run 0,.run 1,.run 2,.run 3,.run 4,.run 5,.run 6,.run 7,.run 8,.run 9,.run 10,.run 11,.run 12,.run 13,.run 14,.run 15,.run 16,.run 17,.run 18,.run 19,.run 20,.run 21,.run 22,.run 23,.run 24,.run 25,.run 26,.run 27,.run 28,.gate [0] []]:=(rfl)
attribute [simp] pl131_at_1
def pl134:List (Nat×List It):=[(8,[.run 0,.run 1,.run 2,.run 3,.run 4,.run 5,.run 6,.run 7,.run 8,.gate [5] []])]
theorem pl134_at_8:planAt pl134 8=[.run 0,.run 1,.run 2,.run 3,.run 4,.run 5,.run 6,.run 7,.run 8,.gate [5] []]:=(rfl)
attribute [simp] pl134_at_8
def pl135:List (Nat×List It):=[(2,[.run 0,.run 1,.run 2,.run 3,.run 4,.run 5,.run 6,.run 7,.run 8,.run 9,.run 10,.run 11,.run 12,.run 13,.run 14,.run 15,.run 16,.run 17,.run 18,.run 19,.run 20,.run 21]),(4,[.run 0,.run 1,.run 2,.run 3,.run 4,.run 5,.run 6,.run 7,.run 8,.run 9,.run 10])]
theorem pl135_at_2:planAt pl135 2=[.run 0,.run 1,.run 2,.run 3,.run 4,.run 5,.run 6,.run 7,.run 8,.run 9,.run 10,.run 11,.run 12,.run 13,.run 14,.run 15,.run 16,.run 17,.run 18,.run 19,.run 20,.run 21]:=(rfl)
attribute [simp] pl135_at_2
theorem pl135_at_4:planAt pl135 4=[.run 0,.run 1,.run 2,.run 3,.run 4,.run 5,.run 6,.run 7,.run 8,.run 9,.run 10]:=(rfl)
attribute [simp] pl135_at_4
attribute [simp] gsize
theorem hG:0=Tryz.prog.globals.size:=gsize.symm
theorem ent {f:FuncId} {fn:Func} {c:Code} {args:List AV} {K:Ay→Prop} {H:Mem} (plan:List (Nat×List It)) (hf:Tryz.prog.funcs[f]?=some fn) (h:Cp Tryz.prog (orW noO (WC 0 Tryz.prog)) (LX 0 Tryz.prog fn.ntmps) plan c (Hf args) H (G2 Tryz.prog noO fn K)) (hb:fn.body=some c:=by rfl) (hd:(Aw fn.ntmps c&&Hn Tryz.prog plan c)=true:=by decide +kernel) (hl:Nat.ble args.length fn.ntmps=true:=by kernel_rfl):WC 0 Tryz.prog f args H K:=WC.enterP (Ag _ _) hG plan hf hb hd (Nat.le_of_ble_eq_true hl) h
theorem rnd (plan:List (Nat×List It)) {n:Nat} {b:Code} {Q:Out→Prop} {fr:Fr} {H:Mem} (h:Cp Tryz.prog (orW noO (WC 0 Tryz.prog)) (LX 0 Tryz.prog n) plan b fr H (Gl (fun fr H=>LX 0 Tryz.prog n b fr H Q) Q)) (hd:(Aw n b&&Hn Tryz.prog plan b)=true:=by decide +kernel):LX 0 Tryz.prog n b fr H Q:=LX.roundP (Ag _ _) hG plan hd h
attribute [simp] Tryz.results11 Tryz.results12 Tryz.results14 Tryz.results19 Tryz.results22 Tryz.results29 Tryz.results31 Tryz.results37 Tryz.results38 Tryz.results39 Tryz.results47 Tryz.results49 Tryz.results51 Tryz.results52 Tryz.results53 Tryz.results54 Tryz.results57 Tryz.results66 Tryz.results67 Tryz.results68 Tryz.results69 Tryz.results77 Tryz.results78 Tryz.results79 Tryz.results80 Tryz.results81 Tryz.results82 Tryz.results83 Tryz.results84 Tryz.results85 Tryz.results88 Tryz.results89 Tryz.results90 Tryz.results91 Tryz.results92 Tryz.results93 Tryz.results94 Tryz.results96 Tryz.results99 Tryz.results100 Tryz.results101 Tryz.results102 Tryz.results103 Tryz.results104 Tryz.results105 Tryz.results106 Tryz.results107 Tryz.results108 Tryz.results110 Tryz.results111 Tryz.results112 Tryz.results115 Tryz.results116 Tryz.results117 Tryz.results119 Tryz.results120 Tryz.results121 Tryz.results122 Tryz.results123 Tryz.results124 Tryz.results125 Tryz.results126 Tryz.results127 Tryz.results128 Tryz.results129 Tryz.results130 Tryz.results131 Tryz.results132 Tryz.results133 Tryz.results134 Tryz.results135 Tryz.results136 Tryz.results139 Tryz.results140 Tryz.results141 Tryz.results143 Tryz.results144 Tryz.results145 Tryz.results146 Tryz.results158
def inW(w:Wd)(q:Int):Bool:=w.all λi=>decide (0<=i/\i<q)
theorem d9a(x q:Int)(p:Nat)(g:Gb)(n:Nat)(h:g p=some (.cells [.li q] true 0))(A:p<n):
  WC 0 prog 132 [.li x,.ptr p 0] ⟨.fn g,n⟩ λr=>r=.ret (.lit (.bool (decide (¬(0<=x/\x<q))))) ⟨.fn g,n⟩:=by
 by_cases t1:x<0
 .have f:decide (¬(0<=x/\x<q))=true:=decide_eq_true (by omega);rw[f];refine ent [] func132 ?_;simp (disch:=first|omega|simp) [*]
 by_cases t2:q<=x
 .have f:decide (¬(0<=x/\x<q))=true:=decide_eq_true (by omega);rw[f];refine ent [] func132 ?_;simp (disch:=first|omega|simp) [*]
 .have f:decide (¬(0<=x/\x<q))=false:=decide_eq_false (by omega);rw[f];refine ent [] func132 ?_;simp (disch:=first|omega|simp) [*]
theorem d9b(w:Wd)(b2:w.length<=1000000)(q:Int)(sv:AV)(p:Nat)(g:Gb)(n:Nat)(hp:g p=some (.cells [.li q] true 0))(a7:p<n)(Q:Al g n w sv):
  WC 0 prog 143 [sv,.func (.func 132) [] [.ptr p 0]] ⟨.fn g,n⟩ λr=>∃z:Int,r=.ret (.li z) ⟨.fn g,n⟩/\decide (0<=z) = !(w.all λi=>decide (0<=i/\i<q)):=by
 have b3:=@Au prog _ _ _ _ _ Q;have HS:=Xr Q;have HP:=Xr hp;clear Q hp;obtain⟨a0,U⟩:∃b,b = !(w.all λi=>decide (0<=i/\i<q)):=⟨_,rfl⟩;rw[<- U];have a1:=Xr U;clear U;refine ent [] func143 ?_;simp (disch:=first|omega|simp) [*];refine Xv (λm f H'=>∃(k:Nat),k<=w.length/\m=w.length-k/\H'=⟨.fn g,n⟩/\Aa (∀i∈w.take k,0<=i/\i<q) /\
  f 0=some sv/\f 1=some (.func (.func 132) [] [.ptr p 0])/\f 7=some (.li w.length)/\f 8=some (.li k)) (m0:=w.length) ?_ ?_
 .exact⟨0,W3 _,rfl,rfl,⟨by simp⟩,by simp[*]⟩
 rintro m f H' ⟨k,hk,rfl,rfl,a3,w0,w1,w7,w8⟩ ih;refine rnd [] ?_;by_cases A:k<w.length
 .have a8:(k:Int)<(w.length:Int):=by omega
  obtain⟨a2,off,a9,a4,b0⟩:=X4 (P:=prog) HS.out A 1;simp only[Xk] at b0;have b1:=a4.one (k:=k) (s:=1) (by rw[Cb];exact A);rw[(W8.1 (Kq w k A)).2] at b1;have a5:w.take (k+1)=w.take k++[w[k]]:=by rw[e6w,W5 A];rfl
  have HT:=Xr a5;have HM:=Xr (W2 A);clear a5 a4 a9;generalize w[k]=x at *;have HC:=Xr (d9a x q p g n HP.out a7);simp (disch:=first|omega|simp) [*];refine Xs HC.out ?_;rintro _ rfl;by_cases D:0<=x/\x<q
  .have Z:decide (¬(0<=x/\x<q))=false:=decide_eq_false (by omega);rw[Z];have HB:=Xr D;clear D;simp (disch:=first|omega|simp) [*];refine ih.out (w.length-(k+1)) _ _ (by omega) ⟨k+1,by omega,rfl,rfl,⟨λi hi=>?_⟩,by simp[*]⟩;rw[HT.out] at hi;rcases W9.1 hi with h|h
   .exact a3.out i h
   .rw[Xf.1 h];exact HB.out
  .have Z:decide (¬(0<=x/\x<q))=true:=decide_eq_true D;rw[Z];have hr:a0=true:=by
    rw[a1.out,e8h,e8p];exact⟨x,HM.out,by simpa using D⟩
   clear D;simp (disch:=first|omega|simp) [*]
 .have a8:¬(k:Int)<(w.length:Int):=by omega
  have a6:k=w.length:=by omega
  have hr:a0=false:=by
   rw[a1.out,Bool.not_eq_false',W7];intro i hi;have:=a3.out i (by rw[a6,Xl];exact hi);simpa using this
  clear a6;simp (disch:=first|omega|simp) [*]
theorem d9c(w:Wd)(D:w.length<=1000000)(q:Int)(sv:AV)(p:Nat)(g:Gb)(n:Nat)(h:g p=some (.cells [.li q] true 0))(Q:p<n)(A:Al g n w sv):
  WC 0 prog 124 [sv,.func (.func 132) [] [.ptr p 0]] ⟨.fn g,n⟩ λr=>r=.ret (.lit (.bool (!(w.all λi=>decide (0<=i/\i<q))))) ⟨.fn g,n⟩:=by
 have U:=Xr (d9b w D q sv p g n h Q A);clear h A;generalize (!(w.all λi=>decide (0<=i/\i<q)))=Z at *;refine ent [] func124 ?_;simp (disch:=first|omega|simp) [*];refine Xs U.out ?_;rintro _ ⟨z,rfl,f⟩
 cases Z with
 | true =>
  have a0:0<=z:=of_decide_eq_true f;clear f;simp (disch:=first|omega|simp) [*]
 | false =>
  have a0:¬0<=z:=of_decide_eq_false f;clear f;simp (disch:=first|omega|simp) [*]
theorem b3q(w:Wd)(D:w.length<=1000000)(q:Int)(sv:AV)(g:Gb)(n:Nat)(f:Al g n w sv):
  WC 0 prog 101 [sv,.li q] ⟨.fn g,n⟩ λr=>r=.ret (.lit (.bool (inW w q))) ⟨.fn g,n⟩:=by
 refine X0 rfl ?_;have h:=Xr (d9c w D q sv n (Ak g n (some (.cells [.li q] true 0))) (n+1) Ah (by omega) (Xw (by omega) (λa Q=>Ad Q) f));have A:(w.all λi=>decide (0<=i/\i<q))=inW w q:=rfl;rw[A] at h;clear A f;generalize inW w q=U at *;refine ent [] func101 ?_;simp (disch:=first|omega|simp) [*];refine Xs h.out ?_;rintro _ rfl;cases U
 all_goals
  simp (disch:=first|omega|simp) [*]
  all_goals exact⟨W4 n,λb Z=>Ad Z⟩
def RowsT(g:Gb)(n:Nat)(ts:Lq)(cs:List AV):Prop:=
 cs.length=ts.length*2/\∀(k:Nat)(h:k<ts.length),∃s1 s2,cs[k*2]?=some s1/\cs[k*2+1]?=some s2/\Al g n ts[k].1 s1/\Al g n ts[k].2 s2
theorem RowsT.ext{g:Gb}{b f:Nat}{ts:Lq}(h:RowsT g b ts cs)(A:b<=f)(D:∀a x,a<b->g a=some x->g' a=some x):RowsT g' f ts cs:=
 ⟨h.1,λk Q=>let ⟨s1,s2,U,Z,h3,h4⟩:=h.2 k Q;⟨s1,s2,U,Z,Xx A D h3,Xx A D h4⟩⟩
abbrev Y6:=@RowsT.ext
def Du(g:Gb)(n:Nat)(ts:Lq)(sv:AV):Prop:=∃cs,Af g n sv ts.length cs/\RowsT g n ts cs
theorem Du.mono{g:Gb}{n:Nat}{ts:Lq}{sv:AV}(h:Du g n ts sv)(f:n<=n')(A:∀a,a<n->g' a=g a):Du g' n' ts sv:=
 let ⟨cs,D,Q⟩:=h;⟨cs,D.mono f A,Q.ext f λa x U hx=>(A a U).trans hx⟩
theorem a4l{k:Nat}{s1 s2:AV}(f:cs[k]?=some s1)(h:cs[k+1]?=some s2):(cs.drop k).take 2=[s1,s2]:=by
 obtain⟨A,D⟩:=W8.1 f;obtain⟨Q,U⟩:=W8.1 h;rw[Xh A,Xh Q,D,U];rfl
structure AtT (g:Gb) (n:Nat) (sv:AV) (k:Nat) (t:List Int×Wd) (a off:Nat) (s1 s2:AV):Prop where
 an:a<n
 ia:∀{H:Mem}{ev:Ev}{o:Oper}{ty:TypeId},iaS prog H ev o ty (some (none,2)) (some sv) (some (.li (k:Int)))=.val (.ptr a (off+k*2)) H
 agg:Bf (some (true,2)) (g a) (off+k*2)=some (.agg [s1,s2])
 c0:Bf (some (false,1)) (g a) (off+k*2)=some s1
 c1:Bf (some (false,1)) (g a) (off+k*2+1)=some s2
 r1:Al g n t.1 s1
 r2:Al g n t.2 s2
theorem Du.at{g:Gb}{n:Nat}{ts:Lq}{sv:AV}(h:Du g n ts sv){k:Nat}(A:k<ts.length):∃a off s1 s2,AtT g n sv k ts[k] a off s1 s2:=by
 obtain⟨cs,U,D⟩:=h;obtain⟨s1,s2,Q,e2,Z,r2⟩:=D.2 k A;obtain⟨a,off,ha,f,a0⟩:=X4 (P:=prog) U A 2;have hl:=D.1;refine⟨a,off,s1,s2,ha,a0,?_,?_,?_,Z,r2⟩
 .rw[f.agg (k:=k*2) (s:=2) (by omega),a4l Q e2]
 .have:=f.one (k:=k*2) (s:=1) (by omega)
  rwa [(W8.1 Q).2] at this
 .have:=f.one (k:=k*2+1) (s:=1) (by omega);rw[(W8.1 e2).2] at this;rw[e7w];exact this
def Jw(I O:Int)(ts:Lq):Bool:=(ts.all λt=>decide (t.1.length<=256))&&decide (I<=16)&&decide (O<=16)
theorem b3r(I O:Int)(ts:Lq)(hl:ts.length<=200)(hw:∀t∈ts,t.1.length<=300)(g:Gb)(n:Nat)(sv:AV)(hT:Du g n ts sv):
  WC 0 prog 100 [.agg [.li I,.li O,sv]] ⟨.fn g,n⟩ λr=>r=.ret (.lit (.bool (Jw I O ts))) ⟨.fn g,n⟩:=by
 refine X0 rfl ?_;have b8:=@Au prog _ _ _ _ _ hT.choose_spec.1;have a7:=hT.choose_spec.1.one;have b9:allOne [.li I,.li O,sv]=true:=by simp[a7]
 have HT:=Xr hT;have HW:=Xr hw;clear hT hw;obtain⟨Z,a3⟩:∃b,b=Jw I O ts:=⟨_,rfl⟩;rw[<- a3];have a4:=Xr a3;clear a3;refine ent [] func100 ?_;simp (disch:=first|omega|simp) [*];refine Xv (λm A H'=>∃(k st n' : Nat)(gL:Gb),k<=ts.length/\m=ts.length-k/\H'=⟨.fn gL,n'⟩/\n<n'/\Aa (∀b,b<n->gL b=g b)/\gL n=some (.cells [.li I,.li O,sv] true 0) /\
  Aa (∀t∈ts.take k,t.1.length<=256)/\st<=k*300/\A 1=some (.ptr n 0)/\A 3=some (.li st)/\A 7=some sv/\A 8=some (.li ts.length)/\A 9=some (.li k)) (m0:=ts.length) ?_ ?_
 .exact⟨0,0,_,_,W3 _,rfl,rfl,e8w n,⟨λb f=>Ad f⟩,Ah,⟨by simp⟩,by omega,by simp[*]⟩
 rintro m A H' ⟨k,st,n',gL,hk,rfl,rfl,a0,D,a8,HP,c0,w1,w3,w7,w8,w9⟩ ih;refine rnd [] ?_;by_cases a1:k<ts.length
 .have a9:(k:Int)<(ts.length:Int):=by omega
  obtain⟨a2,off,s1,s2,a5⟩:=(HT.out.mono (Xp a0) D.out).at a1;have Q:=Xr a5;clear a5;have c1:∀{H:Mem}{ev:Ev}{o:Oper}{ty:TypeId},iaS prog H ev o ty (some (none,2)) (some sv) (some (.li (k:Int)))=.val (.ptr a2 (off+k*2)) H:=λ{H ev o ty}=>Q.out.ia;have c2:=Q.out.agg;have c6:=@Au prog _ _ _ _ _ Q.out.r1;have b0:=Q.out.r1.one;have b1:=Q.out.r2.one;have c7:allOne [s1,s2]=true:=by simp[b0,b1]
  have c8:=HW.out _ (W2 a1);have b2:Aa (ts.take (k+1)=ts.take k++[ts[k]]):=⟨by rw[e6w,W5 a1];rfl⟩;have b3:=Xr (W2 a1);clear Q;generalize ts[k]=t at *;by_cases b4:t.1.length > 256
  .have b5:256<(t.1.length:Int):=by omega
   have hr:Z=false:=by
    rw[a4.out];unfold Jw;rw[e8u,e8u];left;left;rw[e8p];exact⟨t,b3.out,by simpa using b4⟩
   have b6:¬1024<=(k:Int):=by omega
   simp (disch:=first|omega|simp) [*];exact⟨Xp (e7n a0),λb (f:b<n)=>(Ad (by omega)).trans (D.out b f)⟩
  .have b5:¬256<(t.1.length:Int):=by omega
   have b6:¬1024<=(k:Int):=by omega
   have c9:¬65536<(st:Int)+(t.1.length:Int):=by omega
   have b7:Aa (∀t∈ts.take (k+1),t.1.length<=256):=⟨λv hv=>by
    rw[b2.out] at hv;rcases W9.1 hv with h|h
    .exact HP.out v h
    .rw[Xf.1 h];omega⟩
   simp (disch:=first|omega|simp) [*];exact ih.out (ts.length-(k+1)) _ _ (by omega) ⟨k+1,st+t.1.length,_,_,by omega,rfl,rfl,by omega,⟨λb f=>(Ad (by omega)).trans (D.out b f)⟩,(Ad (by omega)).trans a8,b7,by omega,by simp[*]⟩
 .have a9:¬(k:Int)<(ts.length:Int):=by omega
  have a6:(ts.all λt=>decide (t.1.length<=256))=true:=W7.2 λt ht=>decide_eq_true (HP.out t (by rw[show k=ts.length by omega,Xl];exact ht));have U:Z=(decide (I<=16)&&decide (O<=16)):=by rw[a4.out];unfold Jw;rw[a6,e7o]
  clear a6 HP;by_cases t1:I<=16
  .by_cases t2:O<=16
   .have hr:Z=true:=by rw[U,decide_eq_true t1,decide_eq_true t2];rfl
    clear U;simp (disch:=first|omega|simp) [*];exact⟨Xp a0,λb f=>D.out b f⟩
   .have hr:Z=false:=by rw[U,decide_eq_false t2,e7d]
    clear U;simp (disch:=first|omega|simp) [*];exact⟨Xp a0,λb f=>D.out b f⟩
  .have hr:Z=false:=by rw[U,decide_eq_false t1,e6g]
   clear U;simp (disch:=first|omega|simp) [*];exact⟨Xp a0,λb f=>D.out b f⟩
def okR(O:Int):Bool->Wd->Bool
 | _,[]=>true
 | p,o::r=>!(decide (o < -1)||(decide (O<=o)||(p&&decide (¬o = -1))))&&okR O (decide (o = -1)) r
def B0(I O:Int)(t:List Int×Wd):Bool:=decide (t.2.length=t.1.length)&&inW t.1 I&&okR O false t.2
theorem d9d{O:Int}{k:Nat}(h:k<r.length):okR O p (r.drop k)=(!(decide (r[k] < -1)||(decide (O<=r[k])||(p&&decide (¬r[k] = -1))))&&okR O (decide (r[k] = -1)) (r.drop (k+1))):=by
 rw[Xh h];rfl
theorem d9e(I O:Int)(t:List Int×Wd)(a4:t.1.length<=300)(b2:t.2.length<=300)(g:Gb)(n:Nat)(s1 s2:AV)(Z:Al g n t.1 s1)(h2:Al g n t.2 s2):
  WC 0 prog 115 [.agg [s1,s2],.li I,.li O] ⟨.fn g,n⟩ λr=>r=.ret (.lit (.bool (B0 I O t))) ⟨.fn g,n⟩:=by
 refine X0 rfl ?_;have a5:=@Au prog _ _ _ _ _ Z;have b3:=@Au prog _ _ _ _ _ h2;have a6:=Z.one;have a7:=h2.one;have b4:allOne [s1,s2]=true:=by simp[a6,a7]
 have HI:=Xr (b3q t.1 (by omega) I s1 (Ak g n (some (.cells [s1,s2] true 0))) (n+1) (Xw (by omega) (λa ha=>Ad ha) Z));have H2:=Xr h2;clear Z h2;obtain⟨h,A⟩:∃b,b=B0 I O t:=⟨_,rfl⟩;rw[<- A];unfold B0 at A;by_cases t1:t.2.length=t.1.length
 .rw[decide_eq_true t1,e7o] at A;rw[<- t1] at a5;clear a4 t1;generalize inW t.1 I=bb at *
  cases bb with
  | false =>
   have U:h=false:=by rw[A,e6g]
   clear A;refine ent [] func115 ?_;simp (disch:=first|omega|simp) [*];refine Xs HI.out ?_;rintro _ rfl;simp (disch:=first|omega|simp) [*]
   all_goals exact⟨W4 n,λb f=>Ad f⟩
  | true =>
   rw[e7o] at A;have a8:=Xr A;clear A;refine ent [] func115 ?_;simp (disch:=first|omega|simp) [*];refine Xs HI.out ?_;rintro _ rfl;simp (disch:=first|omega|simp) [*];refine Xv (λm Q H'=>∃(k:Nat)(p:Bool),k<=t.2.length/\m=t.2.length-k/\H'=⟨.fn (Ak g n (some (.cells [s1,s2] true 0))),n+1⟩ /\
    Aa (h=okR O p (t.2.drop k))/\Q 2=some (.li O)/\Q 7=some (.lit (.bool p))/\Q 25=some s2/\Q 26=some (.li t.2.length)/\Q 27=some (.li k)) (m0:=t.2.length) ?_ ?_
   .exact⟨0,false,W3 _,rfl,rfl,⟨by rw[e7u];exact a8.out⟩,by simp[*]⟩
   rintro m Q H' ⟨k,p,hk,rfl,rfl,HP,w2,w7,b5,b6,b7⟩ ih;refine rnd [] ?_;by_cases a0:k<t.2.length
   .have a9:(k:Int)<(t.2.length:Int):=by omega
    obtain⟨a2,off,b8,a3,b0⟩:=X4 (P:=prog) H2.out a0 1;simp only[Xk] at b0;have b1:=a3.one (k:=k) (s:=1) (by rw[Cb];exact a0);rw[(W8.1 (Kq t.2 k a0)).2] at b1;have D:Aa (h=(!(decide (t.2[k] < -1)||(decide (O<=t.2[k])||(p&&decide (¬t.2[k] = -1))))&&okR O (decide (t.2[k] = -1)) (t.2.drop (k+1)))):=⟨by rw[HP.out,d9d a0]⟩;clear a3;generalize t.2[k]=o at *;by_cases u1:o < -1
    .have U:h=false:=by rw[D.out,decide_eq_true u1];rfl
     simp (disch:=first|omega|simp) [*]
     all_goals exact⟨W4 n,λb f=>Ad f⟩
    by_cases u2:O<=o
    .have U:h=false:=by rw[D.out,decide_eq_true u2,Bool.true_or,e9j];rfl
     simp (disch:=first|omega|simp) [*]
     all_goals exact⟨W4 n,λb f=>Ad f⟩
    by_cases u3:o = -1
    .have a1:Aa (h=okR O true (t.2.drop (k+1))):=⟨by rw[D.out,decide_eq_false u1,decide_eq_false u2,decide_eq_true u3,decide_eq_false (by simpa using u3)];simp⟩;subst u3;clear D;cases p
     all_goals
      simp (disch:=first|omega|simp) [*];exact ih.out (t.2.length-(k+1)) _ _ (by omega) ⟨k+1,true,by omega,rfl,rfl,a1,by simp[*]⟩
    .cases p with
     | true =>
      have U:h=false:=by rw[D.out,decide_eq_true (by simpa using u3:¬o = -1)];simp
      simp (disch:=first|omega|simp) [*]
      all_goals exact⟨W4 n,λb f=>Ad f⟩
     | false =>
      have a1:Aa (h=okR O false (t.2.drop (k+1))):=⟨by rw[D.out,decide_eq_false u1,decide_eq_false u2,decide_eq_false u3];simp⟩;clear D;simp (disch:=first|omega|simp) [*];exact ih.out (t.2.length-(k+1)) _ _ (by omega) ⟨k+1,false,by omega,rfl,rfl,a1,by simp[*]⟩
   .have a9:¬(k:Int)<(t.2.length:Int):=by omega
    have U:h=true:=by rw[HP.out,e6f (by omega)];rfl
    simp (disch:=first|omega|simp) [*]
    all_goals exact⟨W4 n,λb f=>Ad f⟩
 .have b9:¬(t.2.length:Int)=(t.1.length:Int):=by omega
  have U:h=false:=by rw[A,decide_eq_false t1];rfl
  clear A;refine ent [] func115 ?_;simp (disch:=first|omega|simp) [*]
  all_goals exact⟨W4 n,λb f=>Ad f⟩
def Sd(I O:Int)(ts:Lq):Int:=if Jw I O ts=false then 3 else if I<1\/O<1 then 1 else if ts.all (B0 I O)=true then 0 else 1
structure b3s (ts:Lq):Prop where
 len:ts.length<=200
 w1:∀t∈ts,t.1.length<=300
 w2:∀t∈ts,t.2.length<=300
theorem b3t(I O:Int)(ts:Lq)(Q:b3s ts)(g:Gb)(n:Nat)(sv:AV)(U:Du g n ts sv):
  WC 0 prog 66 [.agg [.li I,.li O,sv]] ⟨.fn g,n⟩ λr=>r=.ret (.li (Sd I O ts)) ⟨.fn g,n⟩:=by
 refine X0 rfl ?_;have b8:=@Au prog _ _ _ _ _ U.choose_spec.1;have b0:=U.choose_spec.1.one;have b9:allOne [.li I,.li O,sv]=true:=by simp[b0]
 have HT:=Xr U;have HW:=Xr Q;have c0:=Q.len;have a1:=Xr (b3r I O ts Q.len Q.w1 (Ak g n (some (.cells [.li I,.li O,sv] true 0))) (n+1) sv (U.mono (W4 n) λa Z=>Ad Z));clear U Q;obtain⟨a0,A⟩:∃b,b=Sd I O ts:=⟨_,rfl⟩;rw[<- A];unfold Sd at A;generalize Jw I O ts=wb at *
 cases wb with
 | false =>
  have hr:a0=3:=by rw[A,if_pos rfl]
  clear A;refine ent [] func66 ?_;simp (disch:=first|omega|simp) [*];refine Xs a1.out ?_;rintro _ rfl;simp (disch:=first|omega|simp) [*]
  all_goals exact⟨W4 n,λb f=>Ad f⟩
 | true =>
 rw[if_neg (by simp)] at A;by_cases t1:I<1
 .have hr:a0=1:=by rw[A,if_pos (.inl t1)]
  clear A;refine ent [] func66 ?_;simp (disch:=first|omega|simp) [*];refine Xs a1.out ?_;rintro _ rfl;simp (disch:=first|omega|simp) [*]
  all_goals exact⟨W4 n,λb f=>Ad f⟩
 by_cases t2:O<1
 .have hr:a0=1:=by rw[A,if_pos (.inr t2)]
  clear A;refine ent [] func66 ?_;simp (disch:=first|omega|simp) [*];refine Xs a1.out ?_;rintro _ rfl;simp (disch:=first|omega|simp) [*]
  all_goals exact⟨W4 n,λb f=>Ad f⟩
 rw[if_neg (by omega)] at A;have a6:=Xr A;clear A;refine ent [] func66 ?_;simp (disch:=first|omega|simp) [*];refine Xs a1.out ?_;rintro _ rfl;simp (disch:=first|omega|simp) [*];refine Xv (λm gf H'=>∃(k n' : Nat)(gL:Gb),k<=ts.length/\m=ts.length-k/\H'=⟨.fn gL,n'⟩/\n<n'/\Aa (∀b,b<n->gL b=g b)/\gL n=some (.cells [.li I,.li O,sv] true 0) /\
  Aa (∀t∈ts.take k,B0 I O t=true)/\gf 1=some (.ptr n 0)/\gf 17=some sv/\gf 18=some (.li ts.length)/\gf 19=some (.li k)) (m0:=ts.length) ?_ ?_
 .exact⟨0,_,_,W3 _,rfl,rfl,e8w n,⟨λb f=>Ad f⟩,Ah,⟨by simp⟩,by simp[*]⟩
 rintro m gf H' ⟨k,n',gL,hk,rfl,rfl,a3,HG,b1,HP,w1,c1,c2,c6⟩ ih;refine rnd [] ?_;by_cases a4:k<ts.length
 .have b2:(k:Int)<(ts.length:Int):=by omega
  obtain⟨a2,off,s1,s2,a7⟩:=(HT.out.mono (Xp a3) HG.out).at a4;have D:=Xr a7;clear a7;have c7:∀{H:Mem}{ev:Ev}{o:Oper}{ty:TypeId},iaS prog H ev o ty (some (none,2)) (some sv) (some (.li (k:Int)))=.val (.ptr a2 (off+k*2)) H:=λ{H ev o ty}=>D.out.ia;have c8:=D.out.agg;have b3:=D.out.r1.one;have b4:=D.out.r2.one;have c9:allOne [s1,s2]=true:=by simp[b3,b4]
  have a5:=Xr (W2 a4);have b5:Aa (ts.take (k+1)=ts.take k++[ts[k]]):=⟨by rw[e6w,W5 a4];rfl⟩;have HV:=Xr (d9e I O ts[k] (HW.out.w1 _ a5.out) (HW.out.w2 _ a5.out) (Ak gL n' (some (.cells [s1,s2] true 0))) (n'+1) s1 s2 (Xw (W4 n') (λa Z=>Ad Z) D.out.r1) (Xw (W4 n') (λa Z=>Ad Z) D.out.r2));clear D;generalize ts[k]=t at *;have b6:Aa (∃b,b=B0 I O t):=⟨⟨_,rfl⟩⟩;generalize a8:B0 I O t=vb at *;have a9:=Xr a8;clear a8 b6
  cases vb with
  | false =>
   have hr:a0=1:=by
    rw[a6.out,if_neg];intro h;have:=W7.1 h t a5.out;rw[a9.out] at this;exact absurd this (by simp)
   simp (disch:=first|omega|simp) [*];refine Xs HV.out ?_;rintro _ rfl;simp (disch:=first|omega|simp) [*]
   all_goals exact⟨Xp (e7n a3),λb (f:b<n)=>(Ad (by omega)).trans (HG.out b f)⟩
  | true =>
   have b7:Aa (∀t∈ts.take (k+1),B0 I O t=true):=⟨λv hv=>by
    rw[b5.out] at hv;rcases W9.1 hv with h|h
    .exact HP.out v h
    .rw[Xf.1 h];exact a9.out⟩
   simp (disch:=first|omega|simp) [*];refine Xs HV.out ?_;rintro _ rfl;simp (disch:=first|omega|simp) [*];exact ih.out (ts.length-(k+1)) _ _ (by omega) ⟨k+1,_,_,by omega,rfl,rfl,by omega,⟨λb f=>(Ad (by omega)).trans (HG.out b f)⟩,(Ad (by omega)).trans b1,b7,by simp[*]⟩
 .have b2:¬(k:Int)<(ts.length:Int):=by omega
  have hr:a0=0:=by
   rw[a6.out,if_pos];exact W7.2 λt ht=>HP.out t (by rw[show k=ts.length by omega,Xl];exact ht)
  clear HP;simp (disch:=first|omega|simp) [*];exact⟨Xp a3,λb f=>HG.out b f⟩
theorem Al.at{g:Gb}{n:Nat}{w:Wd}{f:AV}(h:Al g n w f){k:Nat}(A:k<w.length):∃a off,a<n/\(∀{H:Mem}{ev:Ev}{o:Oper}{t:TypeId},iaS prog H ev o t (some (none,1)) (some f) (some (.li (k:Int)))=.val (.ptr a (off+k)) H)/\Bf (some (false,1)) (g a) (off+k)=some (.lit (.int .i64 w[k])):=by
 obtain⟨Z,off,a0,D,Q⟩:=X4 (P:=prog) h A 1;simp only[Xk] at Q;have U:=D.one (k:=k) (s:=1) (by grind[Cb]);rw[(W8.1 (Kq w k A)).2] at U;grind
abbrev X5:=@Al.at
def d9f(l:List Nat):List AV:=l.map λ(c:Nat)=>.lit (.int .u16 (c:Int))
theorem stood97:prog.stoodInHeld 97=false:=by kernel_rfl
theorem d9g{P:Program}{d:Nat}{t:TypeId}{k:IntKind}{a b:Int}(f:P.underlying t=some (.int k)):Ap P (Op.equalIn (d+1) t (.int k a) (.int k b))=some (a==b):=by
 unfold Op.equalIn;refine(Bi (m:=underlying t) (Hj f)).trans ?_;dsimp only;rw[if_pos rfl];rfl
theorem d9h(a b c d:Int):Ap prog (Op.equal 97 (.agg #[.int .i64 a,.int .i64 b]) (.agg #[.int .i64 c,.int .i64 d]))=some (a==c&&b==d):=by
 unfold Op.equal;show Ap prog (Op.equalIn (9998+1+1) 97 _ _)=_;rw[Op.equalIn];refine(Bi (m:=underlying 97) (Hj underlying97)).trans ?_;dsimp only;refine(Bi (m:=program) (a:=prog) rfl).trans ?_;rw[if_neg (by simp)];have D:∀x y:Int,Ap prog (part 3 #[Value.int IntKind.i64 x,Value.int IntKind.i64 y] 0)=some (.int .i64 x):=λx y=>rfl;have Q:∀x y:Int,Ap prog (part 3 #[Value.int IntKind.i64 x,Value.int IntKind.i64 y] 1)=some (.int .i64 y):=λx y=>rfl;simp only[List.forIn_toArray,List.forIn_cons,List.forIn_nil];have key:∀(f:String)(u v:Int)(h A:Sem Value),f ≠ "_"->Ap prog h=some (.int .i64 u)->Ap prog A=some (.int .i64 v) ->
   Ap prog (if f ≠ "_" then do
    let x <- h
    let y <- A
    let z <- Op.equalIn (9998+1) 3 x y
    if (!z)=true then pure (ForInStep.done (some false,())) else pure (ForInStep.yield ((none:Option Bool),()))
   else pure (ForInStep.yield (none,())))=some (if (u==v)=true then ForInStep.yield (none,()) else ForInStep.done (some false,())):=by
  intro f u v h A U Z h2;rw[if_pos U];refine(Bi Z).trans ((Bi h2).trans ((Bi (d9g underlying3)).trans ?_));cases (u==v)<;>rfl
 refine(Bi (a:=if (a==c&&b==d)=true then ((none:Option Bool),()) else (some false,())) ?_).trans ?_
 .refine(Bi (key "To" a c _ _ (by decide) (D a b) (D c d))).trans ?_;cases (a==c)
  .rfl
  .refine(Bi (key "Out" b d _ _ (by decide) (Q a b) (Q c d))).trans ?_;cases (b==d)<;>rfl
 .cases (a==c)<;>cases (b==d)<;>rfl
theorem d9i{H:Mem}{ev:Ev}{d:Option Tmp}{ty A:TypeId}{p:String}{af:Array Edge}{g:Option (Nat×Bool)}{x y:Operand}{a b f h:Int}(hx:ev x=some (.agg [.li a,.li b]))(hy:ev y=some (.agg [.li f,.li h])):
  Fx prog H ev ⟨d,.binOp .eql 97 x y A,ty,p,af,g⟩ .eql 97 (some (.agg [.li a,.li b])) (some (.agg [.li f,.li h]))=.val (.lit (.bool (decide (a=f)&&decide (b=h)))) H:=by
 show Bc prog H ev ⟨d,.binOp .eql 97 x y A,ty,p,af,g⟩ .eql 97 (some (.agg [.li a,.li b])) (some (.agg [.li f,.li h]))=_;refine Ni rfl ?_;have Q:(Op.operands (.binOp .eql 97 x y A)).toList=[x,y]:=rfl;unfold A3;dsimp only;rw[Q];have U:toLit (.agg [.li a,.li b])=some (.agg #[.int .i64 a,.int .i64 b]):=rfl;have Z:toLit (.agg [.li f,.li h])=some (.agg #[.int .i64 f,.int .i64 h]):=rfl;simp only[e8a,List.all_nil,hx,hy,U,Z,e7s,if_true];have h2:∀D:Operand->Value,D x=.agg #[.int .i64 a,.int .i64 b]->D y=.agg #[.int .i64 f,.int .i64 h]->Ap prog (execOp D ⟨d,.binOp .eql 97 x y A,ty,p,af,g⟩)=some (.value (.bool (decide (a=f)&&decide (b=h)))):=by
  intro D e1 e2;refine Nj e1 e2 ?_ ?_
  .unfold eqGuard;kernel_rfl
  .show Ap prog (do pure (Value.bool (<- Op.equal 97 _ _)))=_;exact(Bi (d9h a b f h)).trans rfl
 grind
attribute [simp] d9i
theorem Mi(g:Gb)(n:Nat):WC 0 prog 147 [] ⟨.fn g,n⟩ λr=>r=.ret (.agg [.li (-1),.li (-1)]) ⟨.fn (Ak g n (some (.cells [.li (-1),.li (-1)] true 0))),n+1⟩:=by
 have f:allOne [.li (-1),.li (-1)]=true:=by simp
 refine ent [] func147 ?_;simp
theorem d9j(e:Int×Int)(g:Gb)(n:Nat)(Q:List AV)(U:Cx g n M Q):
  WC 0 prog 131 [.agg Q,.agg [.li e.1,.li e.2]] ⟨.fn g,n⟩ λr=>r=.ret (.lit (.bool (Dc M.rows.length M.out e))) ⟨.fn g,n⟩:=by
 refine X0 rfl ?_;obtain⟨Z,a1,rfl,a0,D⟩:=U;have a2:=D.one;have a3:allOne [.li M.inp,.li M.out,Z]=true:=by simp_all
 have a4:=@Au prog _ _ _ _ _ D;obtain⟨to,A⟩:=e;have a5:allOne [.li to,.li A]=true:=by simp
 clear a0 D;refine ent pl131 func131 ?_;by_cases t1:to = -1
 .by_cases t2:A = -1
  .simp (disch:=first|omega|simp) [*];refine Xs (Mi _ _) ?_;rintro _ rfl;simp (disch:=first|omega|simp) [*];refine⟨_,⟨?_,rfl⟩,by grind,λq f=>?_⟩
   .rfl
   (simp_all[Ak];grind)
  .have t3:¬(0:Int)<=to:=by omega
   simp (disch:=first|omega|simp) [*];refine Xs (Mi _ _) ?_;rintro _ rfl;simp (disch:=first|omega|simp) [*];refine⟨_,⟨?_,rfl⟩,by grind,λq f=>?_⟩
   .grind[Dc]
   (simp_all[Ak];grind)
 have a6:¬(to = -1/\A = -1):=λh=>t1 h.1;by_cases t3:0<=to
 .by_cases t4:to<(M.rows.length:Int)
  .by_cases t5:0<=A
   .by_cases t6:A<M.out
    .simp (disch:=first|omega|simp) [*];refine Xs (Mi _ _) ?_;rintro _ rfl;simp (disch:=first|omega|simp) [*];refine⟨_,⟨?_,rfl⟩,by grind,λq f=>?_⟩
     .grind[Dc]
     (simp_all[Ak];grind)
    .simp (disch:=first|omega|simp) [*];refine Xs (Mi _ _) ?_;rintro _ rfl;simp (disch:=first|omega|simp) [*];refine⟨_,⟨?_,rfl⟩,by grind,λq f=>?_⟩
     .grind[Dc]
     (simp_all[Ak];grind)
   .simp (disch:=first|omega|simp) [*];refine Xs (Mi _ _) ?_;rintro _ rfl;simp (disch:=first|omega|simp) [*];refine⟨_,⟨?_,rfl⟩,by grind,λq f=>?_⟩
    all_goals (simp_all[Dc,Ak];grind)
  .simp (disch:=first|omega|simp) [*];refine Xs (Mi _ _) ?_;rintro _ rfl;simp (disch:=first|omega|simp) [*];refine⟨_,⟨?_,rfl⟩,by grind,λq f=>?_⟩
   all_goals (simp_all[Dc,Ak];grind)
 .simp (disch:=first|omega|simp) [*];refine Xs (Mi _ _) ?_;rintro _ rfl;simp (disch:=first|omega|simp) [*];refine⟨_,⟨?_,rfl⟩,by grind,λq f=>?_⟩
  all_goals (simp_all[Dc,Ak];grind)
theorem d9k(e:Int×Int)(p:Nat)(g:Gb)(n:Nat)(A:List AV)(f:Cx g n M A)(hp:g p=some (.cells A true 0))(a0:p<n):
  WC 0 prog 130 [.agg [.li e.1,.li e.2],.ptr p 0] ⟨.fn g,n⟩ λr=>r=.ret (.lit (.bool (!Dc M.rows.length M.out e))) ⟨.fn g,n⟩:=by
 refine X0 rfl ?_;have a1:allOne [.li e.1,.li e.2]=true:=by simp
 have D:=Xr f;obtain⟨Q,U,a2⟩:=f.one;subst U;have a3:allOne [.li M.inp,.li M.out,Q]=true:=by simp_all
 clear f;refine ent [] func130 ?_
 iterate 6 all_goals try first|apply spl<;>intro h|simp (disch:=first|assumption|omega|simp) [*]
 refine Xs (d9j e _ _ _ (D.out.mono (by omega) λq Z=>Ad Z)) ?_;rintro _ rfl
 iterate 6 all_goals try first|apply spl<;>intro h|simp (disch:=first|assumption|omega|simp) [*]
 all_goals exact⟨W4 n,λb hb=>Ad hb⟩
theorem d9l(row:List (Int×Int))(b5:row.length<=1000000)(sv:AV)(p:Nat)(g:Gb)(n:Nat)(A:List AV)(Z:Cx g n M A)(hp:g p=some (.cells A true 0))(b2:p<n)(D:Af g n sv row.length (Ar row)):
  WC 0 prog 146 [sv,.func (.func 130) [] [.ptr p 0]] ⟨.fn g,n⟩ λr=>∃z:Int,r=.ret (.li z) ⟨.fn g,n⟩/\decide (0<=z)=row.any λe=>!Dc M.rows.length M.out e:=by
 have b6:=@Au prog _ _ _ _ _ D;have HR:=Xr Z;have HS:=Xr D;have HP:=Xr hp;clear Z D hp;refine ent [] func146 ?_;simp (disch:=first|omega|simp) [*];refine Xv (λm f H'=>∃(k:Nat),k<=row.length/\m=row.length-k/\H'=⟨.fn g,n⟩/\(∀e∈row.take k,Dc M.rows.length M.out e=true) /\
  f 0=some sv/\f 1=some (.func (.func 130) [] [.ptr p 0])/\f 7=some (.li row.length)/\f 8=some (.li k)) (m0:=row.length) ?_ ?_
 .exact⟨0,W3 _,rfl,rfl,by simp[*]⟩
 rintro m f H' ⟨k,hk,rfl,rfl,a0,w0,w1,w7,w8⟩ ih;have a1:=Xr a0;clear a0;refine rnd [] ?_;by_cases a3:k<row.length
 .have b3:(k:Int)<(row.length:Int):=by omega
  rcases HS.out with⟨h1,_⟩|⟨a2,off,b7,a4,a5⟩
  .omega
  have b4:=a5.agg (k:=k*2) (s:=2) (by grind[rowC_len]);rw[rowC_at row k a3] at b4;have a6:row.take (k+1)=row.take k++[row[k]]:=by simp
  have a7:=W2 a3;have HT:=Xr a6;have HM:=Xr a7;clear a6 a7 a5;generalize row[k]=e at *;have a8:=d9k (M:=M) e p g n A HR.out HP.out b2;have a9:=Xr a8;clear a8
  cases Q:Dc M.rows.length M.out e with
  | true =>
   rcases a4 with⟨U,rfl⟩|⟨U,rfl⟩
   all_goals
    simp (disch:=first|omega|simp) [*];refine Xs a9.out ?_;rintro _ rfl;rw[Q];simp (disch:=first|omega|simp) [*];refine ih.out (row.length-(k+1)) _ _ (by omega) ⟨k+1,by omega,rfl,rfl,λe' b0=>?_,by simp[*]⟩;rw[HT.out] at b0;rcases W9.1 b0 with h|h
    .exact a1.out e' h
    grind
  | false =>
   rcases a4 with⟨U,rfl⟩|⟨U,rfl⟩
   all_goals
    simp (disch:=first|omega|simp) [*];refine Xs a9.out ?_;rintro _ rfl;rw[Q];simp (disch:=first|omega|simp) [*];exact⟨e.1,e.2,HM.out,Q⟩
 .have b3:¬(k:Int)<(row.length:Int):=by omega
  have b1:k=row.length:=by omega
  have b8:=Xr b1;clear b1;simp (disch:=first|omega|simp) [*];have h0:=a1.out;grind
theorem d9m(row:List (Int×Int))(Q:row.length<=1000000)(sv:AV)(p:Nat)(g:Gb)(n:Nat)(f:List AV)(h:Cx g n M f)(A:g p=some (.cells f true 0))(U:p<n)(D:Af g n sv row.length (Ar row)):
  WC 0 prog 129 [sv,.func (.func 130) [] [.ptr p 0]] ⟨.fn g,n⟩ λr=>r=.ret (.lit (.bool (row.any λe=>!Dc M.rows.length M.out e))) ⟨.fn g,n⟩:=by
 have Z:=Xr (d9l row Q sv p g n f h A U D);clear h A D;refine ent [] func129 ?_;simp (disch:=first|omega|simp) [*];refine Xs Z.out ?_;rintro _ ⟨z,rfl,hz⟩;generalize (row.any λe=>!Dc M.rows.length M.out e)=bb at *
 cases bb with
 | true =>
  simp_all
 | false =>
  simp[*]
def Dl(M:Az):Int:=
 if M.inp > 16\/M.out > 16\/M.rows.length > 64 then 3 else if M.inp<1\/M.out<1\/M.rows.length<1 then 1
 else if (∀r∈M.rows,(r.length:Int)=M.inp/\(r.any λe=>!Dc M.rows.length M.out e)=false) then 0 else 1
theorem b3u:Dl M=0↔M.ok:=by
 unfold Dl Az.ok;grind
theorem b3v(D:∀r∈M.rows,r.length<=1000000)(g:Gb)(n:Nat)(ms:List AV)(hr:Cx g n M ms):
  WC 0 prog 99 [.agg ms] ⟨.fn g,n⟩ λr=>r=.ret (.li (Dl M)) ⟨.fn g,n⟩:=by
 refine X0 rfl ?_;have HR:=Xr hr;obtain⟨Q,c7,rfl,a4,a0⟩:=hr;have e7:=a0.one;have e8:allOne [.li M.inp,.li M.out,Q]=true:=by simp_all
 have e9:=@Au prog _ _ _ _ _ a0;have c8:=Xr a4;have c9:=Xr a0;have e0:=Xr D;have g0:=a4.len;clear a4 a0 D;refine ent [] func99 ?_;by_cases a1:(16:Int)<M.inp
 .have f:Dl M=3:=by simp_all[Dl]
  rw[f];simp (disch:=first|omega|simp) [*];exact⟨W4 n,λb A=>Ad A⟩
 by_cases a2:(16:Int)<M.out
 .have f:Dl M=3:=by simp_all[Dl]
  rw[f];simp (disch:=first|omega|simp) [*];exact⟨W4 n,λb A=>Ad A⟩
 by_cases a3:(64:Int)<(M.rows.length:Int)
 .have f:Dl M=3:=by (simp_all[Dl];grind)
  rw[f];simp (disch:=first|omega|simp) [*];exact⟨W4 n,λb A=>Ad A⟩
 by_cases b1:M.inp<1
 .have f:Dl M=1:=by (simp_all[Dl];grind)
  rw[f];simp (disch:=first|omega|simp) [*];exact⟨W4 n,λb A=>Ad A⟩
 by_cases b2:M.out<1
 .have f:Dl M=1:=by (simp_all[Dl];grind)
  rw[f];simp (disch:=first|omega|simp) [*];exact⟨W4 n,λb A=>Ad A⟩
 by_cases b3:(M.rows.length:Int)<1
 .have f:Dl M=1:=by unfold Dl;grind
  rw[f];simp (disch:=first|omega|simp) [*];exact⟨W4 n,λb A=>Ad A⟩
 have a8:Dl M=if (∀r∈M.rows,(r.length:Int)=M.inp/\(r.any λe=>!Dc M.rows.length M.out e)=false) then 0 else 1:=by unfold Dl;grind
 have a5:=Xr a8;clear a8;simp (disch:=first|omega|simp) [*];refine Xv (λm U H'=>∃(k:Nat),k<=M.rows.length/\m=M.rows.length-k/\H'=⟨.fn (Ak g n (some (.cells [.li M.inp,.li M.out,Q] true 0))),n+1⟩/\(∀r∈M.rows.take k,(r.length:Int)=M.inp/\(r.any λe=>!Dc M.rows.length M.out e)=false) /\
  U 1=some (.ptr n 0)/\U 34=some Q/\U 35=some (.li M.rows.length)/\U 36=some (.li k)) (m0:=M.rows.length) ?_ ?_
 .exact⟨0,W3 _,rfl,rfl,by simp[*]⟩
 rintro m U H' ⟨k,hk,rfl,rfl,a9,w1,g1,g2,g3⟩ ih;have b0:=Xr a9;clear a9;refine rnd [] ?_;by_cases b4:k<M.rows.length
 .have e1:(k:Int)<(M.rows.length:Int):=by omega
  have Z:=c8.out.at k b4 (by omega);rcases c9.out with⟨h1,_⟩|⟨g4,off,b5,a6,b6⟩
  .omega
  have b7:=(b6.mono (g':=Ak g n (some (.cells [.li M.inp,.li M.out,Q] true 0))) (Ad b5)).one (k:=k) (s:=1) (by omega);rw[Ad b5] at b7;have b8:M.rows.take (k+1)=M.rows.take k++[M.rows[k]]:=by simp
  have a7:=W2 b4;have D:=e0.out _ a7;have HT:=Xr b8;have HM:=Xr a7;clear b8 a7 b6;generalize c7[k]'(by omega)=sv at Z b7;generalize M.rows[k]=row at Z HT HM D;have g5:=@Au prog _ _ _ _ _ Z;have b9:=d9m (M:=M) row D sv n (Ak g n (some (.cells [.li M.inp,.li M.out,Q] true 0))) (n+1) _ (HR.out.mono (by omega) λq hq=>Ad hq) Ah (by omega) (Z.mono (by omega) λq hq=>Ad hq);have c0:=Xr b9;clear b9 Z;by_cases e5:(row.length:Int)=M.inp
  .cases c1:(row.any λe=>!Dc M.rows.length M.out e) with
   | true =>
    rcases a6 with⟨c2,rfl⟩|⟨c2,rfl⟩
    all_goals
     simp (disch:=first|omega|simp) [*];refine Xs c0.out ?_;rintro _ rfl;rw[c1];have f:Dl M=1:=by rw[a5.out,if_neg (λh=>by have:=(h row HM.out).2;grind)]
     rw[f];simp (disch:=first|omega|simp) [*];exact⟨W4 n,λb A=>Ad A⟩
   | false =>
    rcases a6 with⟨c2,rfl⟩|⟨c2,rfl⟩
    all_goals
     simp (disch:=first|omega|simp) [*];refine Xs c0.out ?_;rintro _ rfl;rw[c1];simp (disch:=first|omega|simp) [*];refine ih.out (M.rows.length-(k+1)) _ _ (by omega) ⟨k+1,by omega,rfl,rfl,λe' c6=>?_,by simp[*]⟩;rw[HT.out] at c6;rcases W9.1 c6 with h|h
     .exact b0.out e' h
     grind
  .rcases a6 with⟨c2,rfl⟩|⟨c2,rfl⟩
   all_goals
    have f:Dl M=1:=by rw[a5.out,if_neg (λh=>e5 (h row HM.out).1)]
    rw[f];simp (disch:=first|omega|simp) [*];exact⟨W4 n,λb A=>Ad A⟩
 .have e1:¬(k:Int)<(M.rows.length:Int):=by omega
  have e6:k=M.rows.length:=by omega
  have f:Dl M=0:=by
   rw[a5.out,if_pos];have h0:=b0.out;grind
  rw[f];clear e6;simp (disch:=first|omega|simp) [*];exact⟨W4 n,λb A=>Ad A⟩
def Cz(M:Az)(s i:Int):Int×Int:=if s<0 then (-1,-1) else (M.rows.getD s.toNat []).getD i.toNat (-1,-1)
def Bl(M:Az):Int->Wd->Wd
 | _,[]=>[]
 | s,i::w=>(Cz M s i).2::Bl M (Cz M s i).1 w
def F4(M:Az):Int->Wd->Int
 | s,[]=>s
 | s,i::w=>F4 M (Cz M s i).1 w
theorem Nz:∀(w:Wd)(s:Int),(Bl M s w).length=w.length
 | [],_=>rfl
 | _::w,s=>by unfold Bl;rw[Xi,Xi,Nz w]
theorem a4m:∀(a b:Wd)(s:Int),Bl M s (a++b)=Bl M s a++Bl M (F4 M s a) b
 | [],_,_=>rfl
 | i::a,b,s=>by
  show (Cz M s i).2::Bl M (Cz M s i).1 (a++b)=_;rw[a4m a b];rfl
theorem a4n:∀(a b:Wd)(s:Int),F4 M s (a++b)=F4 M (F4 M s a) b
 | [],_,_=>rfl
 | i::a,b,s=>a4n a b _
def Se(M:Az)(s:Int):Prop:=s = -1\/∃k:Nat,s=k/\k<M.rows.length
theorem a4o{e:Int×Int}(h:Dc M.rows.length M.out e=true):Se M e.1 /\ -1<=e.2/\(e.2 = -1\/e.2<M.out)/\(e.2 = -1->e.1 = -1):=by
 unfold Dc at h;rcases Bool.or_eq_true_iff.1 h with h|h
 .have h:=of_decide_eq_true h;subst h;exact⟨.inl rfl,by decide,.inl rfl,λ_=>rfl⟩
 .simp only[W0,decide_eq_true_eq] at h;exact⟨.inr ⟨e.1.toNat,by omega,by omega⟩,by omega,.inr h.2.2.2,λf=>by omega⟩
theorem b3w(f:M.ok){k:Nat}{i:Int}(h:k<M.rows.length)(A:0<=i)(D:i<M.inp):∃(hi:i.toNat<(M.rows[k]).length),Cz M k i=(M.rows[k])[i.toNat]/\Dc M.rows.length M.out (Cz M k i)=true:=by
 have Q:=f.2.2.2.2.2.2 _ (W2 h);have hi:i.toNat<(M.rows[k]).length:=by omega
 have e:Cz M k i=(M.rows[k])[i.toNat]:=by
  unfold Cz;grind
 grind
theorem a4p{s i:Int}(h:s<0):Cz M s i=(-1,-1):=if_pos h
theorem a4q(f:M.ok){s i:Int}(h:Se M s)(A:0<=i)(D:i<M.inp):Dc M.rows.length M.out (Cz M s i)=true:=by
 rcases h with rfl|⟨k,rfl,Q⟩
 .rfl
 .exact(b3w f Q A D).2.2
structure d9n (g:Gb) (n:Nat) (rv:AV) (k i:Nat) (e:Int×Int) (a off a2 off2:Nat) (q:AV):Prop where
 an:a<n
 an2:a2<n
 ia:∀{H:Mem}{ev:Ev}{o:Oper}{t:TypeId},iaS prog H ev o t (some (none,1)) (some rv) (some (.li (k:Int)))=.val (.ptr a (off+k)) H
 cell:Bf (some (false,1)) (g a) (off+k)=some q
 ia2:∀{H:Mem}{ev:Ev}{o:Oper}{t:TypeId},iaS prog H ev o t (some (none,2)) (some q) (some (.li (i:Int)))=.val (.ptr a2 (off2+i*2)) H
 cell2:Bf (some (true,2)) (g a2) (off2+i*2)=some (.agg [.li e.1,.li e.2])
theorem Cx.edge{g:Gb}{n:Nat}{a0 b0 D:AV}(h:Cx g n M [a0,b0,D]){k:Nat}(Q:k<M.rows.length){i:Nat}(hi:i<(M.rows[k]).length):∃a off f A q,d9n g n D k i (M.rows[k])[i] a off f A q:=by
 obtain⟨sv,U,e,Z,hs⟩:=h;injection e with _ e;injection e with _ e;injection e with e _;subst e;have a1:k<U.length:=by rw[Z.len];grind
 obtain⟨a,off,ha,a5,a3⟩:=hs.ia (P:=prog) Q 1;simp only[Xk] at a3;have hc:=a5.one (k:=k) (s:=1) a1;obtain⟨f,A,a6,a7,a8⟩:=X4 (P:=prog) (Z.at k Q a1) hi 2;have a4:=a7.agg (k:=i*2) (s:=2) (by grind[rowC_len]);rw[rowC_at _ i hi] at a4;exact⟨a,off,f,A,U[k],ha,a6,a3,hc,a8,a4⟩
theorem Df{f:Type}{l:List f}{k:Nat}(h:k<l.length):l.take (k+1)=l.take k++[l[k]]:=by simp
def E0(g:Gb)(lo n:Nat)(w:Wd)(sv:AV):Prop:=∃gk:Gb,(∀a z,gk a=some z->g a=some z/\lo<=a/\a<n)/\Al gk n w sv
theorem E0.rep{g:Gb}{lo n:Nat}{w:Wd}{sv:AV}(h:E0 g lo n w sv):Al g n w sv:=
 let ⟨_,f,A⟩:=h;Xx (Wy _) (λa z _ D=>(f a z D).1) A
theorem E0.keep{g:Gb}{lo n:Nat}{w:Wd}{sv:AV}(h:E0 g lo n w sv)(U:lo'<=lo)(A:n<=n')(Z:∀a,lo<=a->a<n->g' a=g a):E0 g' lo' n' w sv:=by
 obtain⟨D,h1,Q⟩:=h;refine⟨D,λa z f=>?_,Xx A (λa z _ f=>f) Q⟩;grind
theorem D4.fresh{g:Gb}{lo n len:Nat}{sv:AV}{w:Wd}(h:D4 g lo n B sv len 1 (wdC w))(f:len=w.length):E0 g lo n w sv:=by
 subst f;refine⟨_,λa z A=>?_,h.slice⟩;grind
theorem Sf(w:Wd)(x:Int):wdC (w++[x])=wdC w++[.li x]:=by simp[wdC]
theorem d9o(x q:Int)(p:Nat)(g:Gb)(n:Nat)(h:g p=some (.cells [.li q] true 0))(A:p<n):
  WC 0 prog 125 [.li x,.ptr p 0] ⟨.fn g,n⟩ λr=>r=.ret (.lit (.bool (decide (¬(0<=x/\x<q))))) ⟨.fn g,n⟩:=by
 by_cases t1:x<0
 .have f:decide (¬(0<=x/\x<q))=true:=decide_eq_true (by omega);rw[f];refine ent [] func125 ?_;simp (disch:=first|omega|simp) [*]
 by_cases t2:q<=x
 .have f:decide (¬(0<=x/\x<q))=true:=decide_eq_true (by omega);rw[f];refine ent [] func125 ?_;simp (disch:=first|omega|simp) [*]
 .have f:decide (¬(0<=x/\x<q))=false:=decide_eq_false (by omega);rw[f];refine ent [] func125 ?_;simp (disch:=first|omega|simp) [*]
theorem d9p(w:Wd)(b2:w.length<=1000000)(q:Int)(sv:AV)(p:Nat)(g:Gb)(n:Nat)(hp:g p=some (.cells [.li q] true 0))(a7:p<n)(Q:Al g n w sv):
  WC 0 prog 143 [sv,.func (.func 125) [] [.ptr p 0]] ⟨.fn g,n⟩ λr=>∃z:Int,r=.ret (.li z) ⟨.fn g,n⟩/\decide (0<=z) = !(w.all λi=>decide (0<=i/\i<q)):=by
 have b3:=@Au prog _ _ _ _ _ Q;have HS:=Xr Q;have HP:=Xr hp;clear Q hp;obtain⟨a0,U⟩:∃b,b = !(w.all λi=>decide (0<=i/\i<q)):=⟨_,rfl⟩;rw[<- U];have a1:=Xr U;clear U;refine ent [] func143 ?_;simp (disch:=first|omega|simp) [*];refine Xv (λm f H'=>∃(k:Nat),k<=w.length/\m=w.length-k/\H'=⟨.fn g,n⟩/\Aa (∀i∈w.take k,0<=i/\i<q) /\
  f 0=some sv/\f 1=some (.func (.func 125) [] [.ptr p 0])/\f 7=some (.li w.length)/\f 8=some (.li k)) (m0:=w.length) ?_ ?_
 .exact⟨0,W3 _,rfl,rfl,⟨by simp⟩,by simp[*]⟩
 rintro m f H' ⟨k,hk,rfl,rfl,a3,w0,w1,w7,w8⟩ ih;refine rnd [] ?_;by_cases A:k<w.length
 .have a8:(k:Int)<(w.length:Int):=by omega
  obtain⟨a2,off,a9,a4,b0⟩:=X4 (P:=prog) HS.out A 1;simp only[Xk] at b0;have b1:=a4.one (k:=k) (s:=1) (by rw[Cb];exact A);rw[(W8.1 (Kq w k A)).2] at b1;have a5:w.take (k+1)=w.take k++[w[k]]:=by rw[e6w,W5 A];rfl
  have HT:=Xr a5;have HM:=Xr (W2 A);clear a5 a4 a9;generalize w[k]=x at *;have HC:=Xr (d9o x q p g n HP.out a7);simp (disch:=first|omega|simp) [*];refine Xs HC.out ?_;rintro _ rfl;by_cases D:0<=x/\x<q
  .have Z:decide (¬(0<=x/\x<q))=false:=decide_eq_false (by omega);rw[Z];have HB:=Xr D;clear D;simp (disch:=first|omega|simp) [*];refine ih.out (w.length-(k+1)) _ _ (by omega) ⟨k+1,by omega,rfl,rfl,⟨λi hi=>?_⟩,by simp[*]⟩;rw[HT.out] at hi;rcases W9.1 hi with h|h
   .exact a3.out i h
   .rw[Xf.1 h];exact HB.out
  .have Z:decide (¬(0<=x/\x<q))=true:=decide_eq_true D;rw[Z];have hr:a0=true:=by
    rw[a1.out,e8h,e8p];exact⟨x,HM.out,by simpa using D⟩
   clear D;simp (disch:=first|omega|simp) [*]
 .have a8:¬(k:Int)<(w.length:Int):=by omega
  have a6:k=w.length:=by omega
  have hr:a0=false:=by
   rw[a1.out,Bool.not_eq_false',W7];intro i hi;have:=a3.out i (by rw[a6,Xl];exact hi);simpa using this
  clear a6;simp (disch:=first|omega|simp) [*]
theorem d9q(w:Wd)(D:w.length<=1000000)(q:Int)(sv:AV)(p:Nat)(g:Gb)(n:Nat)(h:g p=some (.cells [.li q] true 0))(Q:p<n)(A:Al g n w sv):
  WC 0 prog 124 [sv,.func (.func 125) [] [.ptr p 0]] ⟨.fn g,n⟩ λr=>r=.ret (.lit (.bool (!(w.all λi=>decide (0<=i/\i<q))))) ⟨.fn g,n⟩:=by
 have U:=Xr (d9p w D q sv p g n h Q A);clear h A;generalize (!(w.all λi=>decide (0<=i/\i<q)))=Z at *;refine ent [] func124 ?_;simp (disch:=first|omega|simp) [*];refine Xs U.out ?_;rintro _ ⟨z,rfl,f⟩
 cases Z with
 | true =>
  have a0:0<=z:=of_decide_eq_true f;clear f;simp (disch:=first|omega|simp) [*]
 | false =>
  have a0:¬0<=z:=of_decide_eq_false f;clear f;simp (disch:=first|omega|simp) [*]
def Bo(w:Wd)(q:Int):Int:=if q > 16\/w.length > 256 then 3 else if q<1\/inW w q=false then 1 else 0
theorem Vg(w:Wd)(Z:w.length<=1000000)(q:Int)(g:Gb)(n:Nat)(sv:AV)(D:Al g n w sv):
  WC 0 prog 77 [sv,.li q] ⟨.fn g,n⟩ λr=>r=.ret (.li (Bo w q)) ⟨.fn g,n⟩:=by
 refine X0 rfl ?_;have a1:=@Au prog _ _ _ _ _ D;have HS:=Xr D;clear D;by_cases t1:q > 16
 .have f:Bo w q=3:=by unfold Bo;rw[if_pos (.inl t1)]
  rw[f];refine ent [] func77 ?_;simp (disch:=first|omega|simp) [*]
  all_goals exact⟨W4 n,λb A=>Ad A⟩
 by_cases t2:w.length > 256
 .have f:Bo w q=3:=by unfold Bo;rw[if_pos (.inr t2)]
  rw[f];have a0:256<(w.length:Int):=by omega
  refine ent [] func77 ?_;simp (disch:=first|omega|simp) [*]
  all_goals exact⟨W4 n,λb A=>Ad A⟩
 have a0:¬256<(w.length:Int):=by omega
 by_cases t3:q<1
 .have f:Bo w q=1:=by unfold Bo;rw[if_neg (by omega),if_pos (.inl t3)]
  rw[f];refine ent [] func77 ?_;simp (disch:=first|omega|simp) [*]
  all_goals exact⟨W4 n,λb A=>Ad A⟩
 have Q:=Xr (d9q w Z q sv n (Ak g n (some (.cells [.li q] true 0))) (n+1) Ah (by omega) (HS.out.mono (by omega) λa ha=>Ad ha));have f:Bo w q=if inW w q=false then 1 else 0:=by
  unfold Bo;rw[if_neg (by omega)];by_cases h:inW w q=false
  .rw[if_pos (.inr h),if_pos h]
  .rw[if_neg (λh2=>h2.elim t3 h),if_neg h]
 rw[f];clear f;have U:(w.all λi=>decide (0<=i/\i<q))=inW w q:=rfl;rw[U] at Q;clear U;generalize inW w q=bb at *;refine ent [] func77 ?_;simp (disch:=first|omega|simp) [*];refine Xs Q.out ?_;rintro _ rfl;cases bb
 all_goals
  simp (disch:=first|omega|simp) [*]
  all_goals exact⟨W4 n,λb A=>Ad A⟩
theorem d9r(f:M.ok)(g:Gb)(n:Nat)(U:List AV)(D:Cx g n M U):
  WC 0 prog 133 [.agg U,.li 0] ⟨.fn g,n⟩ λr=>r=.ret (.li 0) ⟨.fn g,n⟩:=by
 refine X0 rfl ?_;obtain⟨Q,a1,rfl,Z,A⟩:=D;have a2:=A.one;have a3:allOne [.li M.inp,.li M.out,Q]=true:=by simp[a2]
 have a4:=@Au prog _ _ _ _ _ A;have HC:=Xr (b3v (M:=M) (λr D=>by have:=(f.2.2.2.2.2.2 r D).1;have:=f.2.1;omega) (Ak g n (some (.cells [.li M.inp,.li M.out,Q] true 0))) (n+1) _ (Cx.mono (W4 n) (λa ha=>Ad ha) ⟨Q,a1,rfl,Z,A⟩));rw[b3u.2 f] at HC;have a0:0<M.rows.length:=by have:=f.2.2.2.2.1;omega
 have a5:¬M.rows=[]:=λh=>by rw[h] at a0;cases a0
 clear Z A;refine ent [] func133 ?_;simp (disch:=first|omega|simp) [*];refine Xs HC.out ?_;rintro _ rfl;simp (disch:=first|omega|simp) [*]
 all_goals exact⟨W4 n,λb hb=>Ad hb⟩
theorem d9s{w:Wd}{q:Int}(A:1<=q)(D:q<=16)(Q:w.length<=256)(f:inW w q=true):Bo w q=0:=by
 unfold Bo;rw[if_neg (by omega),if_neg];rintro (h|h)
 .omega
 .rw[f] at h;cases h
theorem mkI57:mkI prog 65=some (.li 0):=by kernel_rfl
attribute [simp] mkI57
theorem d9t(hM:M.ok)(w:Wd)(c8:w.length<=300)(hw:inW w M.inp=true)(g:Gb)(n:Nat)(ms:List AV)(wv:AV)(hr:Cx g n M ms)(hv:Al g n w wv):
  WC 0 prog 134 [.agg ms,.li 0,wv] ⟨.fn g,n⟩ λr=>∃g' n',r=.ret (.tup [.sl (n+1) 0 w.length w.length,.li (F4 M 0 w)]) ⟨.fn g',n'⟩/\n+2<=n'/\(∀b,b<n->g' b=g b)/\g' (n+1)=some (.cells (wdC (Bl M 0 w)) true 0):=by
 obtain⟨rv,rfl,b4⟩:=hr.one;have c9:allOne [.li M.inp,.li M.out,rv]=true:=by simp[b4]
 have e0:=@Au prog _ _ _ _ _ hv;have HR:=Xr hr;have HV:=Xr hv;have HM:=Xr hM;have HW:=Xr hw;have e1:=hM.2.2.2.2.1;have e5:(w.length:Int)<=1048576:=by omega
 clear hr hv hM hw;refine ent pl134 func134 ?_;simp (disch:=first|omega|simp) [*];refine Xv (λm f H'=>∃(k n' : Nat)(gL:Gb)(cs:List AV)(s:Int),k<=w.length/\m=w.length-k/\H'=⟨.fn gL,n'⟩/\n+2<=n'/\Aa (∀b,b<n->gL b=g b)/\gL n=some (.cells [.li M.inp,.li M.out,rv] true 0) /\
  gL (n+1)=some (.cells cs true 0)/\cs.length=w.length/\Aa (cs=wdC (Bl M 0 (w.take k))++List.replicate (w.length-k) (.li 0))/\Aa (s=F4 M 0 (w.take k)/\Se M s)/\f 1=some (.li s)/\f 3=some (.ptr n 0)/\f 8=some (.sl (n+1) 0 w.length w.length)/\f 15=some wv/\f 16=some (.li w.length)/\f 17=some (.li k)) (m0:=w.length) ?_ ?_
 .refine⟨0,_,_,_,0,W3 _,rfl,rfl,by omega,⟨λb U=>?_⟩,?_,Ah,?_,⟨?_⟩,⟨rfl,.inr ⟨0,rfl,by omega⟩⟩,by simp[*]⟩
  .exact(Ad (by omega)).trans (Ad U)
  .exact(Ad (by omega)).trans Ah
  .simp
  .simp[wdC,Bl]
 rintro m f H' ⟨k,n',gL,cs,s,hk,rfl,rfl,b5,D,a9,b6,b7,HC,Z,w1,w3,w8,e6,e7,e8⟩ ih;refine rnd pl134 ?_;by_cases a3:k<w.length
 .have b8:(k:Int)<(w.length:Int):=by omega
  obtain⟨a2,off,e9,g0,g1⟩:=Xw (by omega) D.out HV.out |> λh=>X5 (n:=n') (w:=w) h a3;have a0:=Df a3;have hx:=of_decide_eq_true (W7.1 HW.out _ (W2 a3));have HA:Aa (F4 M 0 (w.take (k+1))=(Cz M s w[k]).1):=⟨by rw[a0,a4n,<- Z.out.1];rfl⟩;have b0:Aa (Bl M 0 (w.take (k+1))=Bl M 0 (w.take k)++[(Cz M s w[k]).2]):=⟨by rw[a0,a4m,<- Z.out.1];rfl⟩;have a4:=Xr (a4o (a4q HM.out Z.out.2 hx.1 hx.2)).1;have a5:Aa (cs.set k (.lit (.int .i64 (Cz M s w[k]).2))=wdC (Bl M 0 (w.take (k+1)))++List.replicate (w.length-(k+1)) (.li 0)):=⟨by
   have hl:(wdC (Bl M 0 (w.take k))).length=k:=by rw[Cb,Nz,Xa];omega
   rw[b0.out,Sf,HC.out,e8e _ _ (by omega),hl,e6n,show w.length-k=(w.length-(k+1))+1 by omega,e7m,e8g,e5z];rfl⟩
  have b3:=λgX n2=>Mi gX n2;have HN:=Xr b3;clear b3;have a6:(cs.set k (.lit (.int .i64 (Cz M s w[k]).2))).length=w.length:=by rw[Xe];exact b7
  rcases Z.out.2 with a1|⟨j,a1,hj⟩
  .have Q:=a4p (M:=M) (s:=s) (i:=w[k]) (by omega);clear hx a0;rw[Q] at HA b0 a4 a5 a6;clear Q;generalize w[k]=x at *;subst a1;dsimp only at *;simp (disch:=first|omega|simp) [*];refine Xs (HN.out _ _) ?_;rintro _ rfl;simp (disch:=first|omega|simp) [*];refine ih.out (w.length-(k+1)) _ _ (by omega) ⟨k+1,_,_,_,-1,by omega,rfl,rfl,by omega,⟨λb U=>?_⟩,?_,Ah,a6,a5,⟨HA.out.symm,a4.out⟩,by simp[*]⟩
   .simp (disch:=omega) only[Ad];exact D.out b U
   .simp (disch:=omega) only[Ad];exact a9
  .obtain⟨hi,Q,_⟩:=b3w HM.out hj hx.1 hx.2;rw[<- a1] at Q;obtain⟨b1,o1,b2,o2,q,a7⟩:=(HR.out.mono (Wy _) (λ_ _=>rfl)).edge hj hi;rw[<- Q] at a7;have A:=Xr a7;have b9:((w[k]).toNat:Int)=w[k]:=Int.toNat_of_nonneg hx.1;clear a7 Q hi;clear hx a0;generalize w[k]=x at *;obtain⟨y,rfl⟩:∃y:Nat,x=y:=⟨x.toNat,by omega⟩;subst a1;have c0:b1<n:=A.out.an;have c1:b2<n:=A.out.an2;have g2:∀{H:Mem}{ev:Ev}{o:Oper}{t:TypeId},iaS prog H ev o t (some (none,1)) (some rv) (some (.li (j:Int)))=.val (.ptr b1 (o1+j)) H:=λ{H ev o t}=>A.out.ia;have g3:Bf (some (false,1)) (gL b1) (o1+j)=some q:=(congrArg (λz=>Bf (some (false,1)) z (o1+j)) (D.out b1 c0)).trans A.out.cell;have g4:∀{H:Mem}{ev:Ev}{o:Oper}{t:TypeId},iaS prog H ev o t (some (none,2)) (some q) (some (.li (y:Int)))=.val (.ptr b2 (o2+y*2)) H:=λ{H ev o t}=>A.out.ia2;have g5:Bf (some (true,2)) (gL b2) (o2+y*2)=some (.agg [.lit (.int .i64 (Cz M j y).1),.lit (.int .i64 (Cz M j y).2)]):=(congrArg (λz=>Bf (some (true,2)) z (o2+y*2)) (D.out b2 c1)).trans A.out.cell2;clear A b9;have g6:¬(j:Int) = -1:=by omega
   generalize Cz M j y=e at *;obtain⟨to,eo⟩:=e;dsimp only at *;simp (disch:=first|omega|simp) [*];refine Xs (HN.out _ _) ?_;rintro _ rfl;simp (disch:=first|omega|simp) [*];refine ih.out (w.length-(k+1)) _ _ (by omega) ⟨k+1,_,_,_,to,by omega,rfl,rfl,by omega,⟨λb U=>?_⟩,?_,Ah,a6,a5,⟨HA.out.symm,a4.out⟩,by simp[*]⟩
   .simp (disch:=omega) only[Ad];exact D.out b U
   .simp (disch:=omega) only[Ad];exact a9
 .have b8:¬(k:Int)<(w.length:Int):=by omega
  have a8:k=w.length:=by omega
  have c2:Aa (cs=wdC (Bl M 0 w)):=⟨by rw[HC.out,a8,Xl,e6n];simp⟩;have c6:Aa (s=F4 M 0 w):=⟨by rw[Z.out.1,a8,Xl]⟩;have c7:=c6.out;clear a8;subst c7;simp (disch:=first|omega|simp) [*];exact⟨_,_,⟨rfl,rfl⟩,b5,D.out,by rw[<- c2.out];exact b6⟩
theorem d9u(D:M.ok)(w:Wd)(a1:w.length<=256)(hw:inW w M.inp=true)(g:Gb)(n:Nat)(Q:List AV)(U:AV)(Z:Cx g n M Q)(hv:Al g n w U):
  WC 0 prog 102 [.agg Q,.li 0,U] ⟨.fn g,n⟩ λr=>∃B g' n',r=.ret (.tup [.sl B 0 w.length w.length,.li 0]) ⟨.fn g',n'⟩/\n<=B/\B<n'/\(∀b,b<n->g' b=g b)/\g' B=some (.cells (wdC (Bl M 0 w)) true 0):=by
 have a2:=Xr λ(f:Gb)(n2:Nat)(A:n<=n2)(hX:∀b,b<n->f b=g b)=>d9r D f n2 Q (Z.mono A hX);have a0:=Xr λ(f:Gb)(n2:Nat)(A:n<=n2)(hX:∀b,b<n->f b=g b)=>Vg w (by omega) M.inp f n2 U (Xw A hX hv);have a3:=Xr λ(f:Gb)(n2:Nat)(A:n<=n2)(hX:∀b,b<n->f b=g b)=>d9t D w (by omega) hw f n2 Q U (Z.mono A hX) (Xw A hX hv);rw[d9s D.1 D.2.1 a1 hw] at a0;obtain⟨rv,rfl,a4⟩:=Z.one;have a5:allOne [.li M.inp,.li M.out,rv]=true:=by simp[a4]
 clear Z hv hw D;refine ent [] func102 ?_;simp (disch:=first|omega|simp) [*];refine Xs (a2.out _ _ (by omega) λb h=>Ad h) ?_;rintro _ rfl;simp (disch:=first|omega|simp) [*];refine Xs (a0.out _ _ (by omega) λb h=>Ad h) ?_;rintro _ rfl;simp (disch:=first|omega|simp) [*];refine Xs (a3.out _ _ (by omega) λb h=>Ad h) ?_;rintro _ ⟨g',n',rfl,a6,hX,hB⟩;have HX:Aa (∀b,b<n->g' b=g b):=⟨λb h=>(hX b (by omega)).trans (Ad h)⟩;have HB:=Xr hB;clear hX hB;simp (disch:=first|omega|simp) [*];exact⟨_,_,_,⟨rfl,rfl,rfl⟩,by omega,by omega,HX.out,HB.out⟩
def u8C(bs:List Nat):List AV:=bs.map λ(b:Nat)=>.lit (.int .u8 (b:Int))
def Sg(g:Gb)(n:Nat)(bs:List Nat)(sv:AV):Prop:=Af g n sv bs.length (u8C bs)
theorem Sg.at{g:Gb}{n:Nat}{w:List Nat}{A:AV}(h:Sg g n w A){k:Nat}(f:k<w.length):∃a off,a<n/\(∀{H:Mem}{ev:Ev}{o:Oper}{t:TypeId},iaS prog H ev o t (some (none,1)) (some A) (some (.li (k:Int)))=.val (.ptr a (off+k)) H)/\Bf (some (false,1)) (g a) (off+k)=some (.lit (.int .u8 (w[k]:Nat))):=by
 obtain⟨U,off,Z,a0,D⟩:=X4 (P:=prog) h f 1;simp only[Xk] at D;have Q:=a0.one (k:=k) (s:=1) (by unfold u8C;rw[e6c];exact f);rw[show (u8C w)[k]'(by unfold u8C;rw[e6c];exact f)=.lit (.int .u8 (w[k]:Nat)) by simp[u8C]] at Q;exact⟨U,off,Z,D,Q⟩
theorem Af.cell{g:Gb}{b len:Nat}{sv:AV}:Af g b sv len cs->cellsOf sv=[sv]:=by
 rintro (⟨_,_,rfl|rfl⟩|⟨a,off,_,⟨c,rfl⟩|⟨c,rfl⟩,_⟩)<;>rfl
def A8(g:Gb)(lo n B:Nat)(w:Wd)(sv:AV):Prop:=∃gk:Gb,(∀a z,gk a=some z->g a=some z/\lo<=a/\a<n/\a≠B)/\Al gk n w sv
theorem A8.rep{g:Gb}{lo n:Nat}{w:Wd}{sv:AV}(h:A8 g lo n B w sv):Al g n w sv:=
 let ⟨_,f,A⟩:=h;Xx (Wy _) (λa z _ D=>(f a z D).1) A
theorem A8.keep{g:Gb}{lo n B': Nat}{w:Wd}{sv:AV}(h:A8 g lo n B w sv)(U:lo'<=lo)(A:n<=n')(Z:n<=B'\/B'=B\/B' < lo)(hg:∀a,lo<=a->a<n->a≠B->g' a=g a):A8 g' lo' n' B' w sv:=by
 obtain⟨D,h1,Q⟩:=h;refine⟨D,λa z f=>?_,Xx A (λa z _ f=>f) Q⟩;grind
theorem E0.safe{g:Gb}{lo n:Nat}{w:Wd}{sv:AV}(h:E0 g lo n w sv)(U:lo'<=lo)(A:n<=n')(Z:n<=B\/B<lo)(hg:∀a,lo<=a->a<n->g' a=g a):A8 g' lo' n' B w sv:=by
 obtain⟨D,h1,Q⟩:=h;refine⟨D,λa z f=>?_,Xx A (λa z _ f=>f) Q⟩;grind
def RowsF(g:Gb)(lo n B:Nat)(ts:Lq)(cs:List AV):Prop:=
 cs.length=ts.length*2/\∀(k:Nat)(h:k<ts.length),∃s1 s2,cs[k*2]?=some s1/\cs[k*2+1]?=some s2/\A8 g lo n B ts[k].1 s1/\A8 g lo n B ts[k].2 s2
theorem RowsF.keep{g:Gb}{lo n B': Nat}{ts:Lq}(h:RowsF g lo n B ts cs)(f:lo'<=lo)(A:n<=n')(D:n<=B'\/B'=B\/B' < lo)(Q:∀a,lo<=a->a<n->a≠B->g' a=g a):RowsF g' lo' n' B' ts cs:=
 ⟨h.1,λk U=>let ⟨s1,s2,Z,h3,h4,h5⟩:=h.2 k U;⟨s1,s2,Z,h3,h4.keep f A D Q,h5.keep f A D Q⟩⟩
theorem RowsF.nil{g:Gb}{lo n:Nat}:RowsF g lo n B [] []:=⟨rfl,λk f=>by grind⟩
theorem RowsF.snoc{g:Gb}{lo n:Nat}{ts:Lq}(h:RowsF g lo n B ts cs){t:List Int×Wd}{s1 s2:AV}(D:A8 g lo n B t.1 s1)(Q:A8 g lo n B t.2 s2):RowsF g lo n B (ts++[t]) (cs++[s1,s2]):=by
 have U:=h.1;refine⟨by grind,λk f=>?_⟩;rw[W1,Xj] at f;by_cases A:k<ts.length
 .obtain⟨t1,t2,Z,e2,e3,e4⟩:=h.2 k A;grind
 grind
theorem RowsF.rows{g:Gb}{lo n:Nat}{ts:Lq}(h:RowsF g lo n B ts cs):RowsT g n ts cs:=
 ⟨h.1,λk f=>let ⟨s1,s2,A,D,Q,U⟩:=h.2 k f;⟨s1,s2,A,D,Q.rep,U.rep⟩⟩
def Mj(g:Gb)(lo n B:Nat)(ts:Lq)(sv:AV):Prop:=∃cs,D4 g lo n B sv ts.length 2 cs/\RowsF g lo n B ts cs
theorem Mj.log{g:Gb}{lo n:Nat}{ts:Lq}{sv:AV}(h:Mj g lo n B ts sv):Du g n ts sv:=by
 obtain⟨cs,f,A⟩:=h;refine⟨cs,Xx (Wy _) (λa x _ hx=>?_) f.slice,A.rows⟩;grind
theorem Mj.keep{g:Gb}{lo n:Nat}{ts:Lq}{sv:AV}(h:Mj g lo n B ts sv)(D:lo'<=lo)(Q:n<=n')(A:∀a,lo<=a->a<n->g' a=g a):Mj g' lo' n' B ts sv:=by
 obtain⟨cs,f,U⟩:=h;refine⟨cs,?_,U.keep D Q (.inr (.inl rfl)) λa Z h5 _=>A a Z h5⟩;rcases f with f|⟨k1,k2,k3,k4,k5,k6⟩
 .exact .inl f
 .exact .inr ⟨k1,k2,by omega,by omega,(A B k3 k4).trans k5,k6⟩
theorem Mj.one{g:Gb}{lo n:Nat}{ts:Lq}{sv:AV}(h:Mj g lo n B ts sv):oneC sv=true:=let ⟨_,f,_⟩:=h;f.one
def N0(g:Gb)(n:Nat)(l:List (List Nat))(wv:AV):Prop:=∃svs,Af g n wv l.length svs/\svs.length=l.length/\∀(k:Nat)(h:k<l.length),∃sv,svs[k]?=some sv/\Sg g n l[k] sv
theorem N0.mono{g:Gb}{n:Nat}{l:List (List Nat)}{f:AV}(h:N0 g n l f)(A:n<=n')(D:∀a,a<n->g' a=g a):N0 g' n' l f:=
 let ⟨Q,U,Z,h3⟩:=h;⟨Q,U.mono A D,Z,λk hk=>let ⟨sv,e1,e2⟩:=h3 k hk;⟨sv,e1,Xw A D e2⟩⟩
theorem N0.at{g:Gb}{n:Nat}{l:List (List Nat)}{f:AV}(h:N0 g n l f){k:Nat}(A:k<l.length):∃a off q,a<n/\(∀{H:Mem}{ev:Ev}{o:Oper}{t:TypeId},iaS prog H ev o t (some (none,1)) (some f) (some (.li (k:Int)))=.val (.ptr a (off+k)) H)/\Bf (some (false,1)) (g a) (off+k)=some q/\Sg g n l[k] q:=by
 obtain⟨a0,D,h2,Q⟩:=h;obtain⟨q,e1,e2⟩:=Q k A;obtain⟨a,off,ha,U,Z⟩:=D.ia (P:=prog) A 1;simp only[Xk] at Z;have hc:=U.one (k:=k) (s:=1) (by omega);grind
structure InG (g:Gb) (n:Nat) (st inp out:Nat) (es:List Nat) (ev:AV) (ws:List (List Nat)) (wv:AV):Prop where
 b0:st<256
 b1:inp<256
 b2:out<256
 se:O8 g n ev es.length (d9f es)
 eb:∀c∈es,c<65536
 sw:N0 g n ws wv
 wb:∀w∈ws,∀b∈w,b<256
theorem InG.mono{g:Gb}{n st f A:Nat}{es:List Nat}{ev:AV}{ws:List (List Nat)}{D:AV}(h:InG g n st f A es ev ws D)(Q:n<=n')(U:∀a,a<n->g' a=g a):InG g' n' st f A es ev ws D:=
 ⟨h.b0,h.b1,h.b2,h.se.mono Q U,h.eb,h.sw.mono Q U,h.wb⟩
theorem Vh{O:Int}{o:Int}(f:-1<=o)(h:o<O)(A:p=true->o = -1)(D:okR O (decide (o = -1)) r=true):okR O p (o::r)=true:=by
 show (!(decide (o < -1)||(decide (O<=o)||(p&&decide (¬o = -1))))&&okR O (decide (o = -1)) r)=true;grind
theorem N1{O:Int}{o:Int}(h:okR O p (o::r)=true):-1<=o/\o<O/\(p=true->o = -1)/\okR O (decide (o = -1)) r=true:=by
 have f:(!(decide (o < -1)||(decide (O<=o)||(p&&decide (¬o = -1))))&&okR O (decide (o = -1)) r)=true:=h;grind
theorem b3x(A:M.ok):∀(w:Wd)(s:Int)(p:Bool),Se M s->(p=true->s = -1)->inW w M.inp=true->okR M.out p (Bl M s w)=true
 | [],_,_,_,_,_=>rfl
 | i::w,s,p,Q,U,f=>by
  unfold inW at f;rw[e8a,W0] at f;have hi:=of_decide_eq_true f.1;have D:=a4o (a4q A Q hi.1 hi.2);have Z:=A.2.2.1;show okR M.out p ((Cz M s i).2::Bl M (Cz M s i).1 w)=true;refine Vh D.2.1 (by grind) (λh=>?_) (b3x A w _ _ D.1 (λh=>D.2.2.2 (of_decide_eq_true h)) f.2);grind[a4p]
theorem b3y{O:Int}:∀(r:Wd)(k:Nat)(p:Bool),okR O p r=true->k<r.length -> -1<=r.getD k 0/\r.getD k 0<O
 | [],_,_,_,f=>by grind
 | o::r,0,p,h,_=>by obtain⟨D,Q,_,_⟩:=N1 h;grind
 | o::r,k+1,p,h,f=>by obtain⟨_,_,_,A⟩:=N1 h;exact b3y r k _ A (by grind)
structure Cc (I O:Int) (ts:Lq):Prop where
 len:ts.length<=200
 i1:1<=I
 i2:I<=16
 o1:1<=O
 o2:O<=16
 wl:∀t∈ts,t.1.length<=256
 ok:∀t∈ts,B0 I O t=true
theorem Cc.small{I O:Int}{ts:Lq}(h:Cc I O ts):b3s ts:=by
 refine⟨h.len,λt f=>by have:=h.wl t f;omega,λt f=>?_⟩;have A:=h.ok t f;unfold B0 at A;rw[W0,W0] at A;have D:=of_decide_eq_true A.1.1;have:=h.wl t f;omega
theorem Cc.err{I O:Int}{ts:Lq}(h:Cc I O ts):Sd I O ts=0:=by
 have Q:=h.i1;have f:=h.i2;have U:=h.o1;have A:=h.o2;unfold Sd;have e:Jw I O ts=true:=by
  unfold Jw;rw[decide_eq_true f,decide_eq_true A,e7s,e7s,W7];intro t D;have:=h.wl t D;grind
 rw[e,if_neg (by decide),if_neg (by omega),if_pos];rw[W7];exact h.ok
theorem Cc.lens{I O:Int}{ts:Lq}(h:Cc I O ts){t:List Int×Wd}(f:t∈ts):t.2.length=t.1.length/\inW t.1 I=true/\okR O false t.2=true:=by
 have A:=h.ok t f;simp_all[B0]
theorem b3z{I O:Int}{t:List Int×Wd}(f:t.2.length=t.1.length)(h:inW t.1 I=true)(A:okR O false t.2=true):B0 I O t=true:=by
 grind[B0]
theorem Cc.set{I O:Int}{ts:Lq}(h:Cc I O ts){i:Nat}{t:List Int×Wd}(D:t.1.length<=256)(Q:B0 I O t=true):Cc I O (ts.set i t):=
 ⟨by rw[Xe];exact h.len,h.i1,h.i2,h.o1,h.o2,λu f=>by rcases e7z f with A|rfl;exact h.wl u A;grind,λu f=>by rcases e7z f with A|rfl;exact h.ok u A;grind⟩
theorem G6{f:Type}{l:List f}{k:Nat}{d:f}(h:k<l.length):l.getD k d∈l/\l.getD k d=l[k]:=by
 grind
def stepL:Wd->Wd->Wd->Wd->Nat->Option Nat
 | i::x,a::r,j::y,b::s,k=>if i=j then (if a=b then stepL x r y s (k+1) else some k) else none
 | _,_,_,_,_=>none
def Fk(t:List Int×Wd):Lq->Nat->Option (Nat×Nat)
 | [],_=>none
 | u::us,a=>match stepL u.1 u.2 t.1 t.2 0 with
  | some k=>some (a,k)
  | none=>Fk t us (a+1)
def Dv(ts:Lq):Lq->Nat->Option (Nat×Nat×Nat)
 | [],_=>none
 | t::us,b=>match Fk t (ts.take b) 0 with
  | some (a,k)=>some (a,b,k)
  | none=>Dv ts us (b+1)
theorem b4a:∀(w v:Wd)(s:Int)(k:Nat),stepL w (Bl M s w) v (Bl M s v) k=none
 | [],_,_,_=>rfl
 | _::_,[],_,_=>rfl
 | i::w,j::v,s,k=>by
  show (if i=j then (if (Cz M s i).2=(Cz M s j).2 then _ else _) else none)=none;by_cases h:i=j
  .subst h;rw[if_pos rfl,if_pos rfl];exact b4a w v _ _
  grind
theorem b4b{t:List Int×Wd}(f:t.2=Bl M 0 t.1):∀(us:Lq)(a:Nat),(∀u∈us,u.2=Bl M 0 u.1)->Fk t us a=none
 | [],_,_=>rfl
 | u::us,a,h=>by
  unfold Fk;rw[h u (by simp),f,b4a];exact b4b f us _ λv A=>h v (by simp[A])
theorem b4c{ts:Lq}(h:∀u∈ts,u.2=Bl M 0 u.1):∀(us:Lq)(b:Nat),(∀u∈us,u.2=Bl M 0 u.1)->Dv ts us b=none
 | [],_,_=>rfl
 | t::us,b,f=>by
  unfold Dv;rw[b4b (f t (by simp)) _ _ λu A=>h u (e6p A)];exact b4c h us _ λv D=>f v (by grind)
end Go.Ai
