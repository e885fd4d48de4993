/- Parts of an interpreter and of a proof. No condition. -/
import Derived.Test.YtpimmmnkcgnjjaaGreatRows
import Derived.Test.YtpimmmnkcgnjjaaGreatA05
set_option linter.all false
set_option maxHeartbeats 40000000
set_option maxRecDepth 100000
open Go.Proofs Go.Proofs.Tryz
namespace Go.Ai
attribute [simp] underlying0 underlying1 underlying2 underlying3 underlying4 underlying5 underlying6 underlying7 underlying8 underlying9 underlying10 underlying11 underlying12 underlying13 underlying14 underlying15 underlying16 underlying17 underlying18 underlying19 underlying20 underlying21 underlying22 underlying23 underlying24 underlying25 underlying26 underlying27 underlying28 underlying29 underlying30 underlying31 underlying32 underlying33 underlying34 underlying35 underlying36 underlying37 underlying38 underlying39 underlying40 underlying41 underlying42 underlying43 underlying44 underlying45 underlying46 underlying47 underlying48 underlying49 underlying50 underlying51 underlying52 underlying53 underlying54 underlying55 underlying56 underlying57 underlying58 underlying59 underlying60 underlying61 underlying62 underlying63 underlying64 underlying65 underlying66 underlying67 underlying68 underlying69 underlying70 underlying71 underlying72 underlying73 underlying74 underlying75 underlying76 underlying77 underlying78 underlying79 underlying80 underlying81 underlying82 underlying83 underlying84 underlying85 underlying86 underlying87 underlying88 underlying89 underlying90 underlying91 underlying92 underlying93 underlying94 underlying95 underlying96 underlying97 underlying98 underlying99 underlying100 underlying101 underlying102 underlying103 underlying104 underlying105 underlying106 underlying107 underlying108 underlying109 underlying110 underlying111 underlying112 underlying113 underlying114 underlying115 underlying116 underlying117 underlying118 underlying119 underlying120 underlying121 underlying122 underlying123 underlying124 underlying125 underlying126 underlying127 underlying128 underlying129 underlying130 underlying131 underlying132 underlying133 underlying134 underlying135 underlying136 underlying137 underlying138 underlying139 underlying140 underlying141 underlying142 underlying143 underlying144 underlying145 underlying146 underlying147 underlying148 underlying149 underlying150 underlying151 underlying152 underlying153 underlying154 underlying155 underlying156 underlying157 underlying158 underlying159 underlying160 underlying161 underlying162 underlying163 underlying164 underlying165 underlying166 underlying167 underlying168 underlying169 underlying170 underlying171 underlying172 underlying173 underlying174 underlying175 underlying176 underlying177 underlying178 underlying179 underlying180 underlying181 underlying182 underlying183 underlying184 underlying185 underlying186 underlying187 underlying188 underlying189 underlying190 underlying191 underlying192 underlying193 underlying194 underlying195 underlying196 underlying197 underlying198 underlying199 underlying200 underlying201 underlying202 underlying203 underlying204 underlying205 underlying206 underlying207 underlying208 underlying209 underlying210 underlying211 underlying212 underlying213 underlying214 underlying215 underlying216 underlying217 underlying218 underlying219 underlying220 underlying221 underlying222 underlying223 underlying224
variable {M:Aw}{w:Wd}{g':Gb}
theorem hb3:Ao prog 3=true:=by kernel_rfl
theorem hb4:Ao prog 4=true:=by kernel_rfl
theorem hb5:Ao prog 5=true:=by kernel_rfl
theorem hb6:Ao prog 6=true:=by kernel_rfl
theorem hb12:Ao prog 12=true:=by kernel_rfl
theorem hb13:Ao prog 13=true:=by kernel_rfl
theorem hb14:Ao prog 14=true:=by kernel_rfl
theorem hb15:Ao prog 15=true:=by kernel_rfl
theorem hb16:Ao prog 16=true:=by kernel_rfl
theorem hb17:Ao prog 17=true:=by kernel_rfl
theorem hb18:Ao prog 18=true:=by kernel_rfl
theorem hb19:Ao prog 19=true:=by kernel_rfl
theorem hb20:Ao prog 20=true:=by kernel_rfl
theorem hb22:Ao prog 22=true:=by kernel_rfl
theorem hb23:Ao prog 23=true:=by kernel_rfl
theorem hb25:Ao prog 25=true:=by kernel_rfl
theorem hb29:Ao prog 29=true:=by kernel_rfl
theorem hb35:Ao prog 35=true:=by kernel_rfl
theorem hb37:Ao prog 37=true:=by kernel_rfl
theorem hb42:Ao prog 42=true:=by kernel_rfl
theorem hb43:Ao prog 43=true:=by kernel_rfl
theorem hb44:Ao prog 44=true:=by kernel_rfl
theorem hb45:Ao prog 45=true:=by kernel_rfl
theorem hb47:Ao prog 47=true:=by kernel_rfl
theorem hb49:Ao prog 49=true:=by kernel_rfl
theorem hb51:Ao prog 51=true:=by kernel_rfl
theorem hb52:Ao prog 52=true:=by kernel_rfl
theorem hb53:Ao prog 53=true:=by kernel_rfl
theorem hb54:Ao prog 54=true:=by kernel_rfl
theorem hb59:Ao prog 59=true:=by kernel_rfl
theorem hb60:Ao prog 60=true:=by kernel_rfl
theorem hb61:Ao prog 61=true:=by kernel_rfl
theorem hb62:Ao prog 62=true:=by kernel_rfl
theorem hb63:Ao prog 63=true:=by kernel_rfl
theorem hb64:Ao prog 64=true:=by kernel_rfl
theorem hb65:Ao prog 65=true:=by kernel_rfl
theorem hb66:Ao prog 66=true:=by kernel_rfl
theorem hb67:Ao prog 67=true:=by kernel_rfl
theorem hb68:Ao prog 68=true:=by kernel_rfl
theorem hb69:Ao prog 69=true:=by kernel_rfl
theorem hb71:Ao prog 71=true:=by kernel_rfl
theorem hb73:Ao prog 73=true:=by kernel_rfl
theorem hb74:Ao prog 74=true:=by kernel_rfl
theorem hb75:Ao prog 75=true:=by kernel_rfl
theorem hb77:Ao prog 77=true:=by kernel_rfl
theorem hb78:Ao prog 78=true:=by kernel_rfl
theorem hb80:Ao prog 80=true:=by kernel_rfl
theorem hb85:Ao prog 85=true:=by kernel_rfl
theorem hb88:Ao prog 88=true:=by kernel_rfl
theorem hb89:Ao prog 89=true:=by kernel_rfl
theorem hb90:Ao prog 90=true:=by kernel_rfl
theorem hb91:Ao prog 91=true:=by kernel_rfl
theorem hb93:Ao prog 93=true:=by kernel_rfl
theorem hb94:Ao prog 94=true:=by kernel_rfl
theorem hb96:Ao prog 96=true:=by kernel_rfl
theorem hb97:Ao prog 97=true:=by kernel_rfl
theorem hb99:Ao prog 99=true:=by kernel_rfl
theorem hb100:Ao prog 100=true:=by kernel_rfl
theorem hb101:Ao prog 101=true:=by kernel_rfl
theorem hb102:Ao prog 102=true:=by kernel_rfl
theorem hb103:Ao prog 103=true:=by kernel_rfl
theorem hb104:Ao prog 104=true:=by kernel_rfl
theorem hb105:Ao prog 105=true:=by kernel_rfl
theorem hb106:Ao prog 106=true:=by kernel_rfl
theorem hb107:Ao prog 107=true:=by kernel_rfl
theorem hb108:Ao prog 108=true:=by kernel_rfl
theorem hb109:Ao prog 109=true:=by kernel_rfl
theorem hb110:Ao prog 110=true:=by kernel_rfl
theorem hb111:Ao prog 111=true:=by kernel_rfl
theorem hb112:Ao prog 112=true:=by kernel_rfl
theorem hb113:Ao prog 113=true:=by kernel_rfl
theorem hb114:Ao prog 114=true:=by kernel_rfl
theorem hb115:Ao prog 115=true:=by kernel_rfl
theorem hb116:Ao prog 116=true:=by kernel_rfl
theorem hb117:Ao prog 117=true:=by kernel_rfl
theorem hb118:Ao prog 118=true:=by kernel_rfl
theorem hb120:Ao prog 120=true:=by kernel_rfl
theorem hb121:Ao prog 121=true:=by kernel_rfl
theorem hb122:Ao prog 122=true:=by kernel_rfl
theorem hb123:Ao prog 123=true:=by kernel_rfl
theorem hb124:Ao prog 124=true:=by kernel_rfl
theorem hb125:Ao prog 125=true:=by kernel_rfl
theorem hb126:Ao prog 126=true:=by kernel_rfl
theorem hb129:Ao prog 129=true:=by kernel_rfl
theorem hb130:Ao prog 130=true:=by kernel_rfl
theorem hb131:Ao prog 131=true:=by kernel_rfl
theorem hb132:Ao prog 132=true:=by kernel_rfl
theorem hb133:Ao prog 133=true:=by kernel_rfl
theorem hb134:Ao prog 134=true:=by kernel_rfl
theorem hb135:Ao prog 135=true:=by kernel_rfl
theorem hb139:Ao prog 139=true:=by kernel_rfl
theorem hb140:Ao prog 140=true:=by kernel_rfl
theorem hb141:Ao prog 141=true:=by kernel_rfl
theorem hb143:Ao prog 143=true:=by kernel_rfl
theorem hb144:Ao prog 144=true:=by kernel_rfl
theorem hb146:Ao prog 146=true:=by kernel_rfl
theorem hb147:Ao prog 147=true:=by kernel_rfl
theorem hb158:Ao prog 158=true:=by kernel_rfl
attribute [simp] hb3 hb4 hb5 hb6 hb12 hb13 hb14 hb15 hb16 hb17 hb18 hb19 hb20 hb22 hb23 hb25 hb29 hb35 hb37 hb42 hb43 hb44 hb45 hb47 hb49 hb51 hb52 hb53 hb54 hb59 hb60 hb61 hb62 hb63 hb64 hb65 hb66 hb67 hb68 hb69 hb71 hb73 hb74 hb75 hb77 hb78 hb80 hb85 hb88 hb89 hb90 hb91 hb93 hb94 hb96 hb97 hb99 hb100 hb101 hb102 hb103 hb104 hb105 hb106 hb107 hb108 hb109 hb110 hb111 hb112 hb113 hb114 hb115 hb116 hb117 hb118 hb120 hb121 hb122 hb123 hb124 hb125 hb126 hb129 hb130 hb131 hb132 hb133 hb134 hb135 hb139 hb140 hb141 hb143 hb144 hb146 hb147 hb158
theorem ag_3:Bw prog 3=some (false,1):=by kernel_rfl
theorem ag_84:Bw prog 84=some (true,2):=by kernel_rfl
theorem ag_65:Bw prog 65=some (false,1):=by kernel_rfl
theorem ag_97:Bw prog 97=some (true,2):=by kernel_rfl
theorem ag_22:Bw prog 22=some (false,1):=by kernel_rfl
theorem ag_98:Bw prog 98=some (false,1):=by kernel_rfl
theorem ag_23:Bw prog 23=some (false,1):=by kernel_rfl
theorem ag_49:Bw prog 49=some (true,3):=by kernel_rfl
theorem ag_59:Bw prog 59=some (true,3):=by kernel_rfl
theorem ag_52:Bw prog 52=some (false,1):=by kernel_rfl
theorem ag_54:Bw prog 54=some (true,3):=by kernel_rfl
theorem ag_25:Bw prog 25=some (true,3):=by kernel_rfl
theorem ag_27:Bw prog 27=some (true,7):=by kernel_rfl
theorem ag_4:Bw prog 4=some (false,1):=by kernel_rfl
theorem ag_156:Bw prog 156=some (true,2):=by kernel_rfl
theorem ag_42:Bw prog 42=some (false,1):=by kernel_rfl
theorem ag_39:Bw prog 39=some (false,1):=by kernel_rfl
theorem ag_38:Bw prog 38=some (true,5):=by kernel_rfl
theorem ag_5:Bw prog 5=some (false,1):=by kernel_rfl
theorem ag_41:Bw prog 41=some (true,9):=by kernel_rfl
theorem ag_113:Bw prog 113=some (false,1):=by kernel_rfl
theorem ag_36:Bw prog 36=some (false,1):=by kernel_rfl
theorem ag_44:Bw prog 44=some (true,12):=by kernel_rfl
theorem zl_97:Cb prog 97=some [.li 0,.li 0]:=by kernel_rfl
theorem zl_84:Cb prog 84=some [.nl,.nl]:=by kernel_rfl
theorem zl_59:Cb prog 59=some [.li 0,.li 0,.li 0]:=by kernel_rfl
theorem zl_27:Cb prog 27=some [.li 0,.li 0,.nl,.nl,.li 0,.li 0,.nl]:=by kernel_rfl
theorem zl_156:Cb prog 156=some [.li 0,.li 0]:=by kernel_rfl
theorem zl_54:Cb prog 54=some [.li 0,.li 0,.nl]:=by kernel_rfl
theorem zl_49:Cb prog 49=some [.li 0,.li 0,.nl]:=by kernel_rfl
theorem zl_22:Cb prog 22=some [.nl]:=by kernel_rfl
theorem zl_23:Cb prog 23=some [.nl]:=by kernel_rfl
theorem zl_25:Cb prog 25=some [.li 0,.li 0,.nl]:=by kernel_rfl
theorem fo_27_0:B7 prog 27 0=some 0:=by kernel_rfl
theorem fo_27_2:B7 prog 27 2=some 2:=by kernel_rfl
theorem fo_84_1:B7 prog 84 1=some 1:=by kernel_rfl
theorem fo_84_0:B7 prog 84 0=some 0:=by kernel_rfl
theorem fo_97_0:B7 prog 97 0=some 0:=by kernel_rfl
theorem fo_97_1:B7 prog 97 1=some 1:=by kernel_rfl
theorem fo_49_2:B7 prog 49 2=some 2:=by kernel_rfl
theorem fo_49_1:B7 prog 49 1=some 1:=by kernel_rfl
theorem fo_25_2:B7 prog 25 2=some 2:=by kernel_rfl
theorem fo_54_0:B7 prog 54 0=some 0:=by kernel_rfl
theorem fo_54_2:B7 prog 54 2=some 2:=by kernel_rfl
theorem fo_49_0:B7 prog 49 0=some 0:=by kernel_rfl
theorem fo_54_1:B7 prog 54 1=some 1:=by kernel_rfl
theorem fo_27_4:B7 prog 27 4=some 4:=by kernel_rfl
theorem fo_25_1:B7 prog 25 1=some 1:=by kernel_rfl
theorem fo_25_0:B7 prog 25 0=some 0:=by kernel_rfl
theorem fo_27_3:B7 prog 27 3=some 3:=by kernel_rfl
theorem fo_156_0:B7 prog 156 0=some 0:=by kernel_rfl
theorem fo_156_1:B7 prog 156 1=some 1:=by kernel_rfl
theorem fo_41_1:B7 prog 41 1=some 5:=by kernel_rfl
theorem fo_41_0:B7 prog 41 0=some 0:=by kernel_rfl
theorem fo_27_1:B7 prog 27 1=some 1:=by kernel_rfl
theorem fo_38_3:B7 prog 38 3=some 3:=by kernel_rfl
theorem fo_38_4:B7 prog 38 4=some 4:=by kernel_rfl
theorem fo_38_2:B7 prog 38 2=some 2:=by kernel_rfl
theorem fo_38_1:B7 prog 38 1=some 1:=by kernel_rfl
theorem fo_38_0:B7 prog 38 0=some 0:=by kernel_rfl
theorem fo_44_3:B7 prog 44 3=some 11:=by kernel_rfl
theorem fo_44_2:B7 prog 44 2=some 10:=by kernel_rfl
theorem fo_44_1:B7 prog 44 1=some 9:=by kernel_rfl
theorem fo_44_0:B7 prog 44 0=some 0:=by kernel_rfl
theorem es_52:Bu prog 52=some (none,2):=by kernel_rfl
theorem es_22:Bu prog 22=some (none,1):=by kernel_rfl
theorem es_98:Bu prog 98=some (none,2):=by kernel_rfl
theorem es_65:Bu prog 65=some (none,1):=by kernel_rfl
theorem es_23:Bu prog 23=some (none,1):=by kernel_rfl
theorem es_152:Bu prog 152=some (none,2):=by kernel_rfl
theorem es_39:Bu prog 39=some (none,1):=by kernel_rfl
theorem es_42:Bu prog 42=some (none,1):=by kernel_rfl
theorem es_36:Bu prog 36=some (none,1):=by kernel_rfl
theorem is_102:O6 prog 102=true:=by kernel_rfl
theorem bi_97:Jm prog 97=some ([.li 0,.li 0],[(0,1),(1,1)]):=by kernel_rfl
theorem bi_156:Jm prog 156=some ([.li 0,.li 0],[(0,1),(1,1)]):=by kernel_rfl
theorem bi_59:Jm prog 59=some ([.li 0,.li 0,.li 0],[(0,1),(1,1),(2,1)]):=by kernel_rfl
theorem bi_49:Jm prog 49=some ([.li 0,.li 0,.nl],[(0,1),(1,1),(2,1)]):=by kernel_rfl
theorem bi_54:Jm prog 54=some ([.li 0,.li 0,.nl],[(0,1),(1,1),(2,1)]):=by kernel_rfl
theorem bi_84:Jm prog 84=some ([.nl,.nl],[(0,1),(1,1)]):=by kernel_rfl
theorem bi_25:Jm prog 25=some ([.li 0,.li 0,.nl],[(0,1),(1,1),(2,1)]):=by kernel_rfl
theorem bi_27:Jm prog 27=some ([.li 0,.li 0,.nl,.nl,.li 0,.li 0,.nl],[(0,1),(1,1),(2,1),(3,1),(4,3)]):=by kernel_rfl
theorem bs_65:bsI prog 65=some ([.li 0],1):=by kernel_rfl
theorem bs_98:bsI prog 98=some ([.li 0,.li 0],2):=by kernel_rfl
theorem bs_23:bsI prog 23=some ([.nl],1):=by kernel_rfl
theorem bs_152:bsI prog 152=some ([.li 0,.li 0],2):=by kernel_rfl
theorem bs_22:bsI prog 22=some ([.nl],1):=by kernel_rfl
theorem bs_52:bsI prog 52=some ([.nl,.nl],2):=by kernel_rfl
theorem ap_65_65:apI prog 65 65=some (1,8):=by kernel_rfl
theorem ap_98_98:apI prog 98 98=some (2,16):=by kernel_rfl
theorem ap_23_23:apI prog 23 23=some (1,24):=by kernel_rfl
theorem ap_152_152:apI prog 152 152=some (2,16):=by kernel_rfl
theorem ap_22_22:apI prog 22 22=some (1,24):=by kernel_rfl
theorem ap_52_52:apI prog 52 52=some (2,48):=by kernel_rfl
attribute [simp] ag_3 ag_84 ag_65 ag_97 ag_22 ag_98 ag_23 ag_49 ag_59 ag_52 ag_54 ag_25 ag_27 ag_4 ag_156 ag_42 ag_39 ag_38 ag_5 ag_41 ag_113 ag_36 ag_44 zl_97 zl_84 zl_59 zl_27 zl_156 zl_54 zl_49 zl_22 zl_23 zl_25 fo_27_0 fo_27_2 fo_84_1 fo_84_0 fo_97_0 fo_97_1 fo_49_2 fo_49_1 fo_25_2 fo_54_0 fo_54_2 fo_49_0 fo_54_1 fo_27_4 fo_25_1 fo_25_0 fo_27_3 fo_156_0 fo_156_1 fo_41_1 fo_41_0 fo_27_1 fo_38_3 fo_38_4 fo_38_2 fo_38_1 fo_38_0 fo_44_3 fo_44_2 fo_44_1 fo_44_0 es_52 es_22 es_98 es_65 es_23 es_152 es_39 es_42 es_36 is_102 bi_97 bi_156 bi_59 bi_49 bi_54 bi_84 bi_25 bi_27 bs_65 bs_98 bs_23 bs_152 bs_22 bs_52 ap_65_65 ap_98_98 ap_23_23 ap_152_152 ap_22_22 ap_52_52
theorem gsize:prog.globals.size=0:=by kernel_rfl
def pl4:List (Nat×List It):=[(5,[.run 0,.run 1,.run 2,.run 3,.run 4,.gate [0] [],.run 5,.run 6,.run 7,.run 8,.run 9,.run 10,.run 11])]
theorem pl4_at_5:planAt pl4 5=[.run 0,.run 1,.run 2,.run 3,.run 4,.gate [0] [],.run 5,.run 6,.run 7,.run 8,.run 9,.run 10,.run 11]:=(rfl)
attribute [simp] pl4_at_5
def pl16:List (Nat×List It):=[(11,[.run 0,.run 1,.run 2,.run 3,.run 4,.run 5,.run 6,.run 7,.run 8,.run 9,.run 10,.run 11,.run 12,.run 13,.run 14,.run 15]),(12,[.run 0,.run 1,.mk 2,.run 3,.run 5,.run 6,.run 7,.run 8,.run 9,.run 10,.run 11,.run 12,.run 13,.mk 14,.gate [12,9,6,1] [2],.run 4,.gate [12,9,6,1] [14],.run 15,.gate [1] [],.run 16,.run 17,.run 18]),(16,[.run 0,.run 1,.run 2,.run 3,.run 4,.run 5,.run 6,.run 7,.run 8]),(26,[.mk 0,.run 1,.run 2,.run 3,.run 4,.run 6,.run 7,.run 8,.run 9,.run 10,.run 5,.gate [10,7] [],.run 11,.run 12]),(27,[.run 0,.run 1,.run 2,.run 3,.run 4,.run 5,.run 6,.mk 7,.gate [1] [],.run 8,.run 9,.run 10])]
theorem pl16_at_11:planAt pl16 11=[.run 0,.run 1,.run 2,.run 3,.run 4,.run 5,.run 6,.run 7,.run 8,.run 9,.run 10,.run 11,.run 12,.run 13,.run 14,.run 15]:=(rfl)
attribute [simp] pl16_at_11
theorem pl16_at_12:planAt pl16 12=[.run 0,.run 1,.mk 2,.run 3,.run 5,.run 6,.run 7,.run 8,.run 9,.run 10,.run 11,.run 12,.run 13,.mk 14,.gate [12,9,6,1] [2],.run 4,.gate [12,9,6,1] [14],.run 15,.gate [1] [],.run 16,.run 17,.run 18]:=(rfl)
attribute [simp] pl16_at_12
theorem pl16_at_16:planAt pl16 16=[.run 0,.run 1,.run 2,.run 3,.run 4,.run 5,.run 6,.run 7,.run 8]:=(rfl)
attribute [simp] pl16_at_16
theorem pl16_at_26:planAt pl16 26=[.mk 0,.run 1,.run 2,.run 3,.run 4,.run 6,.run 7,.run 8,.run 9,.run 10,.run 5,.gate [10,7] [],.run 11,.run 12]:=(rfl)
attribute [simp] pl16_at_26
theorem pl16_at_27:planAt pl16 27=[.run 0,.run 1,.run 2,.run 3,.run 4,.run 5,.run 6,.mk 7,.gate [1] [],.run 8,.run 9,.run 10]:=(rfl)
attribute [simp] pl16_at_27
def pl17:List (Nat×List It):=[(6,[.run 0,.run 1,.run 2,.run 3,.run 4,.run 5,.run 6,.run 7,.run 8,.run 9])]
theorem pl17_at_6:planAt pl17 6=[.run 0,.run 1,.run 2,.run 3,.run 4,.run 5,.run 6,.run 7,.run 8,.run 9]:=(rfl)
attribute [simp] pl17_at_6
def pl18:List (Nat×List It):=[(9,[.run 0,.run 1,.run 2,.run 3,.run 4,.run 5,.run 6,.run 7,.run 8,.run 9,.run 10])]
theorem pl18_at_9:planAt pl18 9=[.run 0,.run 1,.run 2,.run 3,.run 4,.run 5,.run 6,.run 7,.run 8,.run 9,.run 10]:=(rfl)
attribute [simp] pl18_at_9
def pl20:List (Nat×List It):=[(16,[.run 0,.run 1,.run 2,.run 3,.run 4,.run 5,.run 6,.run 7,.run 8,.run 9,.run 10,.run 11,.run 12,.mk 13,.gate [10] [],.run 14,.run 15])]
theorem pl20_at_16:planAt pl20 16=[.run 0,.run 1,.run 2,.run 3,.run 4,.run 5,.run 6,.run 7,.run 8,.run 9,.run 10,.run 11,.run 12,.mk 13,.gate [10] [],.run 14,.run 15]:=(rfl)
attribute [simp] pl20_at_16
def pl22:List (Nat×List It):=[(12,[.run 0,.run 1,.run 3,.run 4,.run 2,.gate [4] [],.run 5,.run 6,.run 7])]
theorem pl22_at_12:planAt pl22 12=[.run 0,.run 1,.run 3,.run 4,.run 2,.gate [4] [],.run 5,.run 6,.run 7]:=(rfl)
attribute [simp] pl22_at_12
def pl45:List (Nat×List It):=[(5,[.run 0,.run 1,.run 2,.run 3,.run 4,.run 5,.mk 7,.gate [5,0] [],.run 6,.gate [] [7],.run 8])]
theorem pl45_at_5:planAt pl45 5=[.run 0,.run 1,.run 2,.run 3,.run 4,.run 5,.mk 7,.gate [5,0] [],.run 6,.gate [] [7],.run 8]:=(rfl)
attribute [simp] pl45_at_5
def pl47:List (Nat×List It):=[(4,[.run 0,.run 1,.run 2,.run 3,.run 4,.run 5,.run 6,.mk 7,.run 8,.mk 9,.gate [5,3,1] [7],.run 10]),(18,[.run 0,.run 1,.run 2,.run 3,.run 4,.run 6,.run 5,.run 7,.run 8,.gate [1] [],.run 9]),(19,[.run 0,.run 1,.run 2,.run 3,.run 4,.run 5,.run 6,.run 7,.run 8,.run 9,.run 10,.run 11,.gate [1] [],.run 12])]
theorem pl47_at_4:planAt pl47 4=[.run 0,.run 1,.run 2,.run 3,.run 4,.run 5,.run 6,.mk 7,.run 8,.mk 9,.gate [5,3,1] [7],.run 10]:=(rfl)
attribute [simp] pl47_at_4
theorem pl47_at_18:planAt pl47 18=[.run 0,.run 1,.run 2,.run 3,.run 4,.run 6,.run 5,.run 7,.run 8,.gate [1] [],.run 9]:=(rfl)
attribute [simp] pl47_at_18
theorem pl47_at_19:planAt pl47 19=[.run 0,.run 1,.run 2,.run 3,.run 4,.run 5,.run 6,.run 7,.run 8,.run 9,.run 10,.run 11,.gate [1] [],.run 12]:=(rfl)
attribute [simp] pl47_at_19
def pl49:List (Nat×List It):=[(11,[.run 0,.run 1,.run 2,.run 3,.run 4,.run 5,.run 6,.gate [3,1] [],.run 7,.run 8])]
theorem pl49_at_11:planAt pl49 11=[.run 0,.run 1,.run 2,.run 3,.run 4,.run 5,.run 6,.gate [3,1] [],.run 7,.run 8]:=(rfl)
attribute [simp] pl49_at_11
def pl59:List (Nat×List It):=[(6,[.run 0,.run 1,.run 2,.run 3,.run 4,.run 5,.run 6,.run 7,.run 8]),(7,[.run 0,.run 1,.run 2,.run 3,.run 4,.run 5,.run 6,.mk 7,.gate [1] [],.run 8,.run 9,.run 10])]
theorem pl59_at_6:planAt pl59 6=[.run 0,.run 1,.run 2,.run 3,.run 4,.run 5,.run 6,.run 7,.run 8]:=(rfl)
attribute [simp] pl59_at_6
theorem pl59_at_7:planAt pl59 7=[.run 0,.run 1,.run 2,.run 3,.run 4,.run 5,.run 6,.mk 7,.gate [1] [],.run 8,.run 9,.run 10]:=(rfl)
attribute [simp] pl59_at_7
def pl61:List (Nat×List It):=[(8,[.run 0,.run 1,.run 2,.run 3,.run 4,.run 5,.run 6,.run 7,.run 8]),(10,[.run 0,.run 1,.run 2,.run 3,.run 4,.run 5,.run 6,.run 7,.run 8])]
theorem pl61_at_8:planAt pl61 8=[.run 0,.run 1,.run 2,.run 3,.run 4,.run 5,.run 6,.run 7,.run 8]:=(rfl)
attribute [simp] pl61_at_8
theorem pl61_at_10:planAt pl61 10=[.run 0,.run 1,.run 2,.run 3,.run 4,.run 5,.run 6,.run 7,.run 8]:=(rfl)
attribute [simp] pl61_at_10
def pl63:List (Nat×List It):=[(8,[.run 0,.run 1,.run 2,.run 3,.run 4,.run 5,.run 6,.run 7,.run 8,.run 9,.run 10,.mk 11,.gate [10,8,4,1] [],.run 12])]
theorem pl63_at_8:planAt pl63 8=[.run 0,.run 1,.run 2,.run 3,.run 4,.run 5,.run 6,.run 7,.run 8,.run 9,.run 10,.mk 11,.gate [10,8,4,1] [],.run 12]:=(rfl)
attribute [simp] pl63_at_8
def pl64:List (Nat×List It):=[(9,[.run 0,.run 1,.run 2,.run 3,.run 4,.run 5,.run 6,.run 7,.run 8,.run 9,.run 10,.run 11,.run 12])]
theorem pl64_at_9:planAt pl64 9=[.run 0,.run 1,.run 2,.run 3,.run 4,.run 5,.run 6,.run 7,.run 8,.run 9,.run 10,.run 11,.run 12]:=(rfl)
attribute [simp] pl64_at_9
def pl67:List (Nat×List It):=[(18,[.run 0,.run 1,.run 2,.run 3,.run 4,.run 5,.mk 6,.run 7,.mk 8,.gate [5,3,1] [6],.run 9]),(28,[.run 0,.run 1,.run 2,.run 3,.run 4,.run 5,.run 6,.mk 7,.gate [6,1] [],.run 8,.run 9,.run 10]),(29,[.run 0,.run 1,.run 2,.run 3,.run 4,.run 5,.run 6,.run 7,.run 8,.run 9,.run 10,.run 11,.run 12,.run 13,.run 14,.run 15,.run 16,.run 17,.run 18,.mk 19,.gate [18,15,10,8,3,1] [],.run 20,.run 21,.run 22]),(32,[.run 0,.run 1,.run 2,.run 3,.run 5,.run 6,.run 4,.gate [6,1] [],.run 7,.run 8,.mk 9,.gate [1] [],.run 10,.run 11,.run 12])]
theorem pl67_at_18:planAt pl67 18=[.run 0,.run 1,.run 2,.run 3,.run 4,.run 5,.mk 6,.run 7,.mk 8,.gate [5,3,1] [6],.run 9]:=(rfl)
attribute [simp] pl67_at_18
theorem pl67_at_28:planAt pl67 28=[.run 0,.run 1,.run 2,.run 3,.run 4,.run 5,.run 6,.mk 7,.gate [6,1] [],.run 8,.run 9,.run 10]:=(rfl)
attribute [simp] pl67_at_28
theorem pl67_at_29:planAt pl67 29=[.run 0,.run 1,.run 2,.run 3,.run 4,.run 5,.run 6,.run 7,.run 8,.run 9,.run 10,.run 11,.run 12,.run 13,.run 14,.run 15,.run 16,.run 17,.run 18,.mk 19,.gate [18,15,10,8,3,1] [],.run 20,.run 21,.run 22]:=(rfl)
attribute [simp] pl67_at_29
theorem pl67_at_32:planAt pl67 32=[.run 0,.run 1,.run 2,.run 3,.run 5,.run 6,.run 4,.gate [6,1] [],.run 7,.run 8,.mk 9,.gate [1] [],.run 10,.run 11,.run 12]:=(rfl)
attribute [simp] pl67_at_32
def pl69:List (Nat×List It):=[(1,[.run 0,.run 1,.run 3,.run 4,.run 6,.run 7,.run 8,.run 2,.run 10,.gate [8,4] [],.run 5,.gate [8] [],.run 9,.run 11,.run 12,.run 13,.run 14,.run 15,.run 16]),(5,[.run 0,.run 1,.run 2,.run 3,.run 4,.gate [1] [],.run 5,.run 6,.gate [1] [],.run 7]),(10,[.run 0,.run 1,.run 2,.run 3,.run 4,.gate [1] [],.run 5,.run 6,.gate [1] [],.run 7]),(15,[.run 0,.run 1,.run 2,.run 3,.run 4,.run 5,.gate [2] [],.run 6,.run 7,.gate [2] [],.run 8]),(17,[.run 0,.run 1,.run 3,.run 4,.run 6,.run 7,.run 8,.run 2,.run 10,.gate [8,4] [],.run 5,.gate [8] [],.run 9,.run 11,.run 12,.run 13,.run 14,.run 15,.run 16])]
theorem pl69_at_1:planAt pl69 1=[.run 0,.run 1,.run 3,.run 4,.run 6,.run 7,.run 8,.run 2,.run 10,.gate [8,4] [],.run 5,.gate [8] [],.run 9,.run 11,.run 12,.run 13,.run 14,.run 15,.run 16]:=(rfl)
attribute [simp] pl69_at_1
theorem pl69_at_5:planAt pl69 5=[.run 0,.run 1,.run 2,.run 3,.run 4,.gate [1] [],.run 5,.run 6,.gate [1] [],.run 7]:=(rfl)
attribute [simp] pl69_at_5
theorem pl69_at_10:planAt pl69 10=[.run 0,.run 1,.run 2,.run 3,.run 4,.gate [1] [],.run 5,.run 6,.gate [1] [],.run 7]:=(rfl)
attribute [simp] pl69_at_10
theorem pl69_at_15:planAt pl69 15=[.run 0,.run 1,.run 2,.run 3,.run 4,.run 5,.gate [2] [],.run 6,.run 7,.gate [2] [],.run 8]:=(rfl)
attribute [simp] pl69_at_15
theorem pl69_at_17:planAt pl69 17=[.run 0,.run 1,.run 3,.run 4,.run 6,.run 7,.run 8,.run 2,.run 10,.gate [8,4] [],.run 5,.gate [8] [],.run 9,.run 11,.run 12,.run 13,.run 14,.run 15,.run 16]:=(rfl)
attribute [simp] pl69_at_17
def pl80:List (Nat×List It):=[(8,[.run 0,.run 1,.run 2,.run 3,.run 4,.run 5,.run 6,.run 7,.run 8]),(10,[.run 0,.run 1,.run 2,.run 3,.run 4,.run 5,.run 6,.run 7,.run 8])]
theorem pl80_at_8:planAt pl80 8=[.run 0,.run 1,.run 2,.run 3,.run 4,.run 5,.run 6,.run 7,.run 8]:=(rfl)
attribute [simp] pl80_at_8
theorem pl80_at_10:planAt pl80 10=[.run 0,.run 1,.run 2,.run 3,.run 4,.run 5,.run 6,.run 7,.run 8]:=(rfl)
attribute [simp] pl80_at_10
def pl90:List (Nat×List It):=[(1,[.run 0,.run 1,.run 2,.run 3,.run 4,.run 5,.run 6,.run 7,.run 8,.run 9,.run 10,.run 11,.run 12,.run 15,.run 16,.run 13,.run 14,.gate [16] [],.run 17,.run 18,.run 19,.run 20])]
theorem pl90_at_1:planAt pl90 1=[.run 0,.run 1,.run 2,.run 3,.run 4,.run 5,.run 6,.run 7,.run 8,.run 9,.run 10,.run 11,.run 12,.run 15,.run 16,.run 13,.run 14,.gate [16] [],.run 17,.run 18,.run 19,.run 20]:=(rfl)
attribute [simp] pl90_at_1
def pl106:List (Nat×List It):=[(9,[.run 0,.run 1,.run 2,.run 3,.run 4,.run 5,.run 6,.run 7,.run 8,.run 9,.run 10]),(10,[.run 0,.run 1,.run 2,.run 3,.mk 4,.gate [0] [],.run 5,.run 6])]
theorem pl106_at_9:planAt pl106 9=[.run 0,.run 1,.run 2,.run 3,.run 4,.run 5,.run 6,.run 7,.run 8,.run 9,.run 10]:=(rfl)
attribute [simp] pl106_at_9
theorem pl106_at_10:planAt pl106 10=[.run 0,.run 1,.run 2,.run 3,.mk 4,.gate [0] [],.run 5,.run 6]:=(rfl)
attribute [simp] pl106_at_10
def pl111:List (Nat×List It):=[(6,[.run 0,.run 1,.run 2,.run 3,.run 4,.run 5,.run 6,.run 7,.run 8,.run 9,.run 10]),(11,[.run 0,.run 1,.run 2,.run 3,.run 4,.run 5,.run 6,.run 7,.run 8,.run 9,.run 10,.run 11])]
theorem pl111_at_6:planAt pl111 6=[.run 0,.run 1,.run 2,.run 3,.run 4,.run 5,.run 6,.run 7,.run 8,.run 9,.run 10]:=(rfl)
attribute [simp] pl111_at_6
theorem pl111_at_11:planAt pl111 11=[.run 0,.run 1,.run 2,.run 3,.run 4,.run 5,.run 6,.run 7,.run 8,.run 9,.run 10,.run 11]:=(rfl)
attribute [simp] pl111_at_11
def pl112:List (Nat×List It):=[(6,[.run 0,.run 1,.run 2,.run 3,.run 4,.run 5,.run 6,.run 7,.run 8])]
theorem pl112_at_6:planAt pl112 6=[.run 0,.run 1,.run 2,.run 3,.run 4,.run 5,.run 6,.run 7,.run 8]:=(rfl)
attribute [simp] pl112_at_6
def pl116:List (Nat×List It):=[(12,[.run 0,.run 1,.run 2,.run 3,.run 4,.run 5,.run 6,.run 7,.run 8,.run 9])]
theorem pl116_at_12:planAt pl116 12=[.run 0,.run 1,.run 2,.run 3,.run 4,.run 5,.run 6,.run 7,.run 8,.run 9]:=(rfl)
attribute [simp] pl116_at_12
def pl117:List (Nat×List It):=[(3,[.run 0,.run 1,.run 2,.run 3,.run 4,.run 5,.run 6,.run 7,.run 8,.run 9,.run 10,.run 11,.run 12,.run 13,.run 14,.run 15])]
theorem pl117_at_3:planAt pl117 3=[.run 0,.run 1,.run 2,.run 3,.run 4,.run 5,.run 6,.run 7,.run 8,.run 9,.run 10,.run 11,.run 12,.run 13,.run 14,.run 15]:=(rfl)
attribute [simp] pl117_at_3
def pl131:List (Nat×List It):=[(1,[.run 0,.run 1,.run 2,.run 3,.run 4,.run 5,.run 6,.run 7,.run 8,.run 9,.run 10,.run 11,.run 12,.run 13,.run 14,.run 15,.run 16,.run 17,.run 18,.run 19,.run 20,.run 21,.run 22,.run 23,.run 24,.run 25,.run 26,.run 27,.run 28,.gate [0] []])]
theorem pl131_at_1:planAt pl131 1=[.run 0,.run 1,.run 2,.run 3,.run 4,.run 5,.run 6,.run 7,.run 8,.run 9,.run 10,.run 11,.run 12,.run 13,.run 14,.run 15,.run 16,.run 17,.run 18,.run 19,.run 20,.run 21,.run 22,.run 23,.run 24,.run 25,.run 26,.run 27,.run 28,.gate [0] []]:=(rfl)
attribute [simp] pl131_at_1
def pl134:List (Nat×List It):=[(8,[.run 0,.run 1,.run 2,.run 3,.run 4,.run 5,.run 6,.run 7,.run 8,.gate [5] []])]
theorem pl134_at_8:planAt pl134 8=[.run 0,.run 1,.run 2,.run 3,.run 4,.run 5,.run 6,.run 7,.run 8,.gate [5] []]:=(rfl)
attribute [simp] pl134_at_8
def pl135:List (Nat×List It):=[(2,[.run 0,.run 1,.run 2,.run 3,.run 4,.run 5,.run 6,.run 7,.run 8,.run 9,.run 10,.run 11,.run 12,.run 13,.run 14,.run 15,.run 16,.run 17,.run 18,.run 19,.run 20,.run 21]),(4,[.run 0,.run 1,.run 2,.run 3,.run 4,.run 5,.run 6,.run 7,.run 8,.run 9,.run 10])]
theorem pl135_at_2:planAt pl135 2=[.run 0,.run 1,.run 2,.run 3,.run 4,.run 5,.run 6,.run 7,.run 8,.run 9,.run 10,.run 11,.run 12,.run 13,.run 14,.run 15,.run 16,.run 17,.run 18,.run 19,.run 20,.run 21]:=(rfl)
attribute [simp] pl135_at_2
theorem pl135_at_4:planAt pl135 4=[.run 0,.run 1,.run 2,.run 3,.run 4,.run 5,.run 6,.run 7,.run 8,.run 9,.run 10]:=(rfl)
attribute [simp] pl135_at_4
attribute [simp] gsize
theorem hG:0=Tryz.prog.globals.size:=gsize.symm
theorem ent {f:FuncId} {fn:Func} {c:Code} {args:List AV} {K:A1→Prop} {H:Mem} (plan:List (Nat×List It)) (hf:Tryz.prog.funcs[f]?=some fn) (h:C4 Tryz.prog (orW noO (WC 0 Tryz.prog)) (LX 0 Tryz.prog fn.ntmps) plan c (Hn args) H (G7 Tryz.prog noO fn K)) (hb:fn.body=some c:=by rfl) (hd:(Az fn.ntmps c&&Hu Tryz.prog plan c)=true:=by decide +kernel) (hl:Nat.ble args.length fn.ntmps=true:=by kernel_rfl):WC 0 Tryz.prog f args H K:=WC.enterP (Ah _ _) hG plan hf hb hd (Nat.le_of_ble_eq_true hl) h
theorem rnd (plan:List (Nat×List It)) {n:Nat} {b:Code} {Q:Out→Prop} {fr:Fr} {H:Mem} (h:C4 Tryz.prog (orW noO (WC 0 Tryz.prog)) (LX 0 Tryz.prog n) plan b fr H (Gi (fun fr H=>LX 0 Tryz.prog n b fr H Q) Q)) (hd:(Az n b&&Hu Tryz.prog plan b)=true:=by decide +kernel):LX 0 Tryz.prog n b fr H Q:=LX.roundP (Ah _ _) hG plan hd h
attribute [simp] Tryz.results4 Tryz.results14 Tryz.results16 Tryz.results17 Tryz.results18 Tryz.results19 Tryz.results20 Tryz.results22 Tryz.results25 Tryz.results29 Tryz.results37 Tryz.results42 Tryz.results43 Tryz.results44 Tryz.results45 Tryz.results47 Tryz.results49 Tryz.results51 Tryz.results52 Tryz.results53 Tryz.results54 Tryz.results59 Tryz.results60 Tryz.results61 Tryz.results62 Tryz.results63 Tryz.results64 Tryz.results65 Tryz.results66 Tryz.results67 Tryz.results68 Tryz.results69 Tryz.results71 Tryz.results73 Tryz.results74 Tryz.results75 Tryz.results77 Tryz.results78 Tryz.results80 Tryz.results85 Tryz.results88 Tryz.results89 Tryz.results90 Tryz.results91 Tryz.results93 Tryz.results94 Tryz.results96 Tryz.results97 Tryz.results99 Tryz.results100 Tryz.results101 Tryz.results102 Tryz.results103 Tryz.results104 Tryz.results105 Tryz.results106 Tryz.results107 Tryz.results108 Tryz.results110 Tryz.results111 Tryz.results112 Tryz.results113 Tryz.results114 Tryz.results115 Tryz.results116 Tryz.results117 Tryz.results119 Tryz.results120 Tryz.results121 Tryz.results122 Tryz.results123 Tryz.results124 Tryz.results125 Tryz.results126 Tryz.results129 Tryz.results130 Tryz.results131 Tryz.results132 Tryz.results133 Tryz.results134 Tryz.results135 Tryz.results136 Tryz.results139 Tryz.results140 Tryz.results141 Tryz.results143 Tryz.results144 Tryz.results146 Tryz.results158
def inW(w:Wd)(q:Int):Bool:=w.all λi=>decide (0<=i/\i<q)
theorem d8o(x q:Int)(p:Nat)(g:Gb)(n:Nat)(A:g p=some (.cells [.li q] true 0))(D:p<n):
  WC 0 prog 132 [.li x,.ptr p 0] ⟨.fn g,n⟩ λr=>r=.ret (.lit (.bool (decide (¬(0<=x/\x<q))))) ⟨.fn g,n⟩:=by
 by_cases t1:x<0
 .have h:decide (¬(0<=x/\x<q))=true:=decide_eq_true (by omega);rw[h];refine ent [] func132 ?_;simp (disch:=first|omega|simp) [*]
 by_cases t2:q<=x
 .have h:decide (¬(0<=x/\x<q))=true:=decide_eq_true (by omega);rw[h];refine ent [] func132 ?_;simp (disch:=first|omega|simp) [*]
 .have h:decide (¬(0<=x/\x<q))=false:=decide_eq_false (by omega);rw[h];refine ent [] func132 ?_;simp (disch:=first|omega|simp) [*]
theorem d8p(w:Wd)(b2:w.length<=1000000)(q:Int)(sv:AV)(p:Nat)(g:Gb)(n:Nat)(hp:g p=some (.cells [.li q] true 0))(a7:p<n)(U:Al g n w sv):
  WC 0 prog 143 [sv,.func (.func 132) [] [.ptr p 0]] ⟨.fn g,n⟩ λr=>∃z:Int,r=.ret (.li z) ⟨.fn g,n⟩/\decide (0<=z) = !(w.all λi=>decide (0<=i/\i<q)):=by
 have b3:=@Ap prog _ _ _ _ _ U;have HS:=Xu U;have HP:=Xu hp;clear U hp;obtain⟨a0,Z⟩:∃b,b = !(w.all λi=>decide (0<=i/\i<q)):=⟨_,rfl⟩;rw[<- Z];have a1:=Xu Z;clear Z;refine ent [] func143 ?_;simp (disch:=first|omega|simp) [*];refine Xy (λm A H'=>∃(k:Nat),k<=w.length/\m=w.length-k/\H'=⟨.fn g,n⟩/\Aa (∀i∈w.take k,0<=i/\i<q) /\
  A 0=some sv/\A 1=some (.func (.func 132) [] [.ptr p 0])/\A 7=some (.li w.length)/\A 8=some (.li k)) (m0:=w.length) ?_ ?_
 .exact⟨0,W3 _,rfl,rfl,⟨by simp⟩,by simp[*]⟩
 rintro m A H' ⟨k,hk,rfl,rfl,a3,w0,w1,w7,w8⟩ ih;refine rnd [] ?_;by_cases D:k<w.length
 .have a8:(k:Int)<(w.length:Int):=by omega
  obtain⟨a2,off,a9,a4,b0⟩:=X4 (P:=prog) HS.out D 1;simp only[Xj] at b0;have b1:=a4.one (k:=k) (s:=1) (by rw[A9];exact D);rw[(W8.1 (Hv w k D)).2] at b1;have a5:w.take (k+1)=w.take k++[w[k]]:=by rw[e7b,W6 D];rfl
  have HT:=Xu a5;have HM:=Xu (W2 D);clear a5 a4 a9;generalize w[k]=x at *;have HC:=Xu (d8o x q p g n HP.out a7);simp (disch:=first|omega|simp) [*];refine Xv HC.out ?_;rintro _ rfl;by_cases Q:0<=x/\x<q
  .have hd:decide (¬(0<=x/\x<q))=false:=decide_eq_false (by omega);rw[hd];have HB:=Xu Q;clear Q;simp (disch:=first|omega|simp) [*];refine ih.out (w.length-(k+1)) _ _ (by omega) ⟨k+1,by omega,rfl,rfl,⟨λi hi=>?_⟩,by simp[*]⟩;rw[HT.out] at hi;rcases W9.1 hi with h|h
   .exact a3.out i h
   .rw[Xh.1 h];exact HB.out
  .have hd:decide (¬(0<=x/\x<q))=true:=decide_eq_true Q;rw[hd];have hr:a0=true:=by
    rw[a1.out,e9a,e8w];exact⟨x,HM.out,by simpa using Q⟩
   clear Q;simp (disch:=first|omega|simp) [*]
 .have a8:¬(k:Int)<(w.length:Int):=by omega
  have a6:k=w.length:=by omega
  have hr:a0=false:=by
   rw[a1.out,Bool.not_eq_false',W7];intro i hi;have:=a3.out i (by rw[a6,Xn];exact hi);simpa using this
  clear a6;simp (disch:=first|omega|simp) [*]
theorem d8q(w:Wd)(Q:w.length<=1000000)(q:Int)(sv:AV)(p:Nat)(g:Gb)(n:Nat)(A:g p=some (.cells [.li q] true 0))(U:p<n)(D:Al g n w sv):
  WC 0 prog 124 [sv,.func (.func 132) [] [.ptr p 0]] ⟨.fn g,n⟩ λr=>r=.ret (.lit (.bool (!(w.all λi=>decide (0<=i/\i<q))))) ⟨.fn g,n⟩:=by
 have Z:=Xu (d8p w Q q sv p g n A U D);clear A D;generalize (!(w.all λi=>decide (0<=i/\i<q)))=bb at *;refine ent [] func124 ?_;simp (disch:=first|omega|simp) [*];refine Xv Z.out ?_;rintro _ ⟨z,rfl,h⟩
 cases bb with
 | true =>
  have a0:0<=z:=of_decide_eq_true h;clear h;simp (disch:=first|omega|simp) [*]
 | false =>
  have a0:¬0<=z:=of_decide_eq_false h;clear h;simp (disch:=first|omega|simp) [*]
theorem b3k(w:Wd)(Q:w.length<=1000000)(q:Int)(sv:AV)(g:Gb)(n:Nat)(h:Al g n w sv):
  WC 0 prog 101 [sv,.li q] ⟨.fn g,n⟩ λr=>r=.ret (.lit (.bool (inW w q))) ⟨.fn g,n⟩:=by
 refine X3 rfl ?_;have A:=Xu (d8q w Q q sv n (Ak g n (some (.cells [.li q] true 0))) (n+1) Ag (by omega) (X0 (by omega) (λa U=>Ad U) h));have D:(w.all λi=>decide (0<=i/\i<q))=inW w q:=rfl;rw[D] at A;clear D h;generalize inW w q=Z at *;refine ent [] func101 ?_;simp (disch:=first|omega|simp) [*];refine Xv A.out ?_;rintro _ rfl;cases Z
 all_goals
  simp (disch:=first|omega|simp) [*]
  all_goals exact⟨W5 n,λb hb=>Ad hb⟩
def RowsT(g:Gb)(n:Nat)(ts:Lq)(cs:List AV):Prop:=
 cs.length=ts.length*2/\∀(k:Nat)(h:k<ts.length),∃s1 s2,cs[k*2]?=some s1/\cs[k*2+1]?=some s2/\Al g n ts[k].1 s1/\Al g n ts[k].2 s2
theorem RowsT.ext{g:Gb}{b A:Nat}{ts:Lq}{cs:List AV}(h:RowsT g b ts cs)(D:b<=A)(Q:∀a x,a<b->g a=some x->g' a=some x):RowsT g' A ts cs:=
 ⟨h.1,λk U=>let ⟨s1,s2,Z,h2,h3,h4⟩:=h.2 k U;⟨s1,s2,Z,h2,Xz D Q h3,Xz D Q h4⟩⟩
abbrev Zb:=@RowsT.ext
def El(g:Gb)(n:Nat)(ts:Lq)(sv:AV):Prop:=∃cs,Af g n sv ts.length cs/\RowsT g n ts cs
theorem El.mono{g:Gb}{n n': Nat}{ts:Lq}{sv:AV}(h:El g n ts sv)(A:n<=n')(D:∀a,a<n->g' a=g a):El g' n' ts sv:=
 let ⟨cs,Q,U⟩:=h;⟨cs,Q.mono A D,U.ext A λa x Z hx=>(D a Z).trans hx⟩
theorem a4i{cs:List AV}{k:Nat}{s1 s2:AV}(h:cs[k]?=some s1)(A:cs[k+1]?=some s2):(cs.drop k).take 2=[s1,s2]:=by
 obtain⟨D,Q⟩:=W8.1 h;obtain⟨U,Z⟩:=W8.1 A;rw[Xd D,Xd U,Q,Z];rfl
structure AtT (g:Gb) (n:Nat) (sv:AV) (k:Nat) (t:List Int×Wd) (a off:Nat) (s1 s2:AV):Prop where
 an:a<n
 ia:∀{H:Mem}{ev:Ev}{o:Oper}{ty:TypeId},iaS prog H ev o ty (some (none,2)) (some sv) (some (.li (k:Int)))=.val (.ptr a (off+k*2)) H
 agg:A5 (some (true,2)) (g a) (off+k*2)=some (.agg [s1,s2])
 c0:A5 (some (false,1)) (g a) (off+k*2)=some s1
 c1:A5 (some (false,1)) (g a) (off+k*2+1)=some s2
 r1:Al g n t.1 s1
 r2:Al g n t.2 s2
theorem El.at{g:Gb}{n:Nat}{ts:Lq}{sv:AV}(h:El g n ts sv){k:Nat}(D:k<ts.length):∃a off s1 s2,AtT g n sv k ts[k] a off s1 s2:=by
 obtain⟨cs,Z,Q⟩:=h;obtain⟨s1,s2,U,e2,r1,r2⟩:=Q.2 k D;obtain⟨a,off,ha,A,a0⟩:=X4 (P:=prog) Z D 2;have hl:=Q.1;refine⟨a,off,s1,s2,ha,a0,?_,?_,?_,r1,r2⟩
 .rw[A.agg (k:=k*2) (s:=2) (by omega),a4i U e2]
 .have:=A.one (k:=k*2) (s:=1) (by omega)
  rwa [(W8.1 U).2] at this
 .have:=A.one (k:=k*2+1) (s:=1) (by omega);rw[(W8.1 e2).2] at this;rw[e7n];exact this
def Jy(I O:Int)(ts:Lq):Bool:=(ts.all λt=>decide (t.1.length<=256))&&decide (I<=16)&&decide (O<=16)
theorem b3l(I O:Int)(ts:Lq)(hl:ts.length<=200)(hw:∀t∈ts,t.1.length<=300)(g:Gb)(n:Nat)(sv:AV)(hT:El g n ts sv):
  WC 0 prog 100 [.agg [.li I,.li O,sv]] ⟨.fn g,n⟩ λr=>r=.ret (.lit (.bool (Jy I O ts))) ⟨.fn g,n⟩:=by
 refine X3 rfl ?_;have b9:=@Ap prog _ _ _ _ _ hT.choose_spec.1;have a8:=hT.choose_spec.1.one;have c0:allOne [.li I,.li O,sv]=true:=by simp[a8]
 have HT:=Xu hT;have HW:=Xu hw;clear hT hw;obtain⟨a0,a4⟩:∃b,b=Jy I O ts:=⟨_,rfl⟩;rw[<- a4];have a5:=Xu a4;clear a4;refine ent [] func100 ?_;simp (disch:=first|omega|simp) [*];refine Xy (λm D H'=>∃(k st n' : Nat)(gL:Gb),k<=ts.length/\m=ts.length-k/\H'=⟨.fn gL,n'⟩/\n<n'/\Aa (∀b,b<n->gL b=g b)/\gL n=some (.cells [.li I,.li O,sv] true 0) /\
  Aa (∀t∈ts.take k,t.1.length<=256)/\st<=k*300/\D 1=some (.ptr n 0)/\D 3=some (.li st)/\D 7=some sv/\D 8=some (.li ts.length)/\D 9=some (.li k)) (m0:=ts.length) ?_ ?_
 .exact⟨0,0,_,_,W3 _,rfl,rfl,e8q n,⟨λb A=>Ad A⟩,Ag,⟨by simp⟩,by omega,by simp[*]⟩
 rintro m D H' ⟨k,st,n',gL,hk,rfl,rfl,a1,Q,a9,HP,c1,w1,w3,w7,w8,w9⟩ ih;refine rnd [] ?_;by_cases a3:k<ts.length
 .have b0:(k:Int)<(ts.length:Int):=by omega
  obtain⟨a2,off,s1,s2,a6⟩:=(HT.out.mono (Xr a1) Q.out).at a3;have U:=Xu a6;clear a6;have c2:∀{H:Mem}{ev:Ev}{o:Oper}{ty:TypeId},iaS prog H ev o ty (some (none,2)) (some sv) (some (.li (k:Int)))=.val (.ptr a2 (off+k*2)) H:=λ{H ev o ty}=>U.out.ia;have c6:=U.out.agg;have c7:=@Ap prog _ _ _ _ _ U.out.r1;have b1:=U.out.r1.one;have b2:=U.out.r2.one;have c8:allOne [s1,s2]=true:=by simp[b1,b2]
  have c9:=HW.out _ (W2 a3);have b3:Aa (ts.take (k+1)=ts.take k++[ts[k]]):=⟨by rw[e7b,W6 a3];rfl⟩;have b4:=Xu (W2 a3);clear U;generalize ts[k]=t at *;by_cases b5:t.1.length > 256
  .have b6:256<(t.1.length:Int):=by omega
   have hr:a0=false:=by
    rw[a5.out];unfold Jy;rw[e9b,e9b];left;left;rw[e8w];exact⟨t,b4.out,by simpa using b5⟩
   have b7:¬1024<=(k:Int):=by omega
   simp (disch:=first|omega|simp) [*];exact⟨Xr (e7s a1),λb (A:b<n)=>(Ad (by omega)).trans (Q.out b A)⟩
  .have b6:¬256<(t.1.length:Int):=by omega
   have b7:¬1024<=(k:Int):=by omega
   have e0:¬65536<(st:Int)+(t.1.length:Int):=by omega
   have b8:Aa (∀t∈ts.take (k+1),t.1.length<=256):=⟨λv hv=>by
    rw[b3.out] at hv;rcases W9.1 hv with h|h
    .exact HP.out v h
    .rw[Xh.1 h];omega⟩
   simp (disch:=first|omega|simp) [*];exact ih.out (ts.length-(k+1)) _ _ (by omega) ⟨k+1,st+t.1.length,_,_,by omega,rfl,rfl,by omega,⟨λb A=>(Ad (by omega)).trans (Q.out b A)⟩,(Ad (by omega)).trans a9,b8,by omega,by simp[*]⟩
 .have b0:¬(k:Int)<(ts.length:Int):=by omega
  have a7:(ts.all λt=>decide (t.1.length<=256))=true:=W7.2 λt ht=>decide_eq_true (HP.out t (by rw[show k=ts.length by omega,Xn];exact ht));have Z:a0=(decide (I<=16)&&decide (O<=16)):=by rw[a5.out];unfold Jy;rw[a7,e7t]
  clear a7 HP;by_cases t1:I<=16
  .by_cases t2:O<=16
   .have hr:a0=true:=by rw[Z,decide_eq_true t1,decide_eq_true t2];rfl
    clear Z;simp (disch:=first|omega|simp) [*];exact⟨Xr a1,λb A=>Q.out b A⟩
   .have hr:a0=false:=by rw[Z,decide_eq_false t2,e7h]
    clear Z;simp (disch:=first|omega|simp) [*];exact⟨Xr a1,λb A=>Q.out b A⟩
  .have hr:a0=false:=by rw[Z,decide_eq_false t1,e6n]
   clear Z;simp (disch:=first|omega|simp) [*];exact⟨Xr a1,λb A=>Q.out b A⟩
def okR(O:Int):Bool->Wd->Bool
 | _,[]=>true
 | p,o::r=>!(decide (o < -1)||(decide (O<=o)||(p&&decide (¬o = -1))))&&okR O (decide (o = -1)) r
def Cf(I O:Int)(t:List Int×Wd):Bool:=decide (t.2.length=t.1.length)&&inW t.1 I&&okR O false t.2
theorem d8r{O:Int}{p:Bool}{r:Wd}{k:Nat}(h:k<r.length):okR O p (r.drop k)=(!(decide (r[k] < -1)||(decide (O<=r[k])||(p&&decide (¬r[k] = -1))))&&okR O (decide (r[k] = -1)) (r.drop (k+1))):=by
 rw[Xd h];rfl
theorem d8s(I O:Int)(t:List Int×Wd)(a4:t.1.length<=300)(b2:t.2.length<=300)(g:Gb)(n:Nat)(s1 s2:AV)(h1:Al g n t.1 s1)(h2:Al g n t.2 s2):
  WC 0 prog 115 [.agg [s1,s2],.li I,.li O] ⟨.fn g,n⟩ λr=>r=.ret (.lit (.bool (Cf I O t))) ⟨.fn g,n⟩:=by
 refine X3 rfl ?_;have a5:=@Ap prog _ _ _ _ _ h1;have b3:=@Ap prog _ _ _ _ _ h2;have a6:=h1.one;have a7:=h2.one;have b4:allOne [s1,s2]=true:=by simp[a6,a7]
 have HI:=Xu (b3k t.1 (by omega) I s1 (Ak g n (some (.cells [s1,s2] true 0))) (n+1) (X0 (by omega) (λa ha=>Ad ha) h1));have H2:=Xu h2;clear h1 h2;obtain⟨A,D⟩:∃b,b=Cf I O t:=⟨_,rfl⟩;rw[<- D];unfold Cf at D;by_cases t1:t.2.length=t.1.length
 .rw[decide_eq_true t1,e7t] at D;rw[<- t1] at a5;clear a4 t1;generalize inW t.1 I=bb at *
  cases bb with
  | false =>
   have Z:A=false:=by rw[D,e6n]
   clear D;refine ent [] func115 ?_;simp (disch:=first|omega|simp) [*];refine Xv HI.out ?_;rintro _ rfl;simp (disch:=first|omega|simp) [*]
   all_goals exact⟨W5 n,λb h=>Ad h⟩
  | true =>
   rw[e7t] at D;have a8:=Xu D;clear D;refine ent [] func115 ?_;simp (disch:=first|omega|simp) [*];refine Xv HI.out ?_;rintro _ rfl;simp (disch:=first|omega|simp) [*];refine Xy (λm U H'=>∃(k:Nat)(p:Bool),k<=t.2.length/\m=t.2.length-k/\H'=⟨.fn (Ak g n (some (.cells [s1,s2] true 0))),n+1⟩ /\
    Aa (A=okR O p (t.2.drop k))/\U 2=some (.li O)/\U 7=some (.lit (.bool p))/\U 25=some s2/\U 26=some (.li t.2.length)/\U 27=some (.li k)) (m0:=t.2.length) ?_ ?_
   .exact⟨0,false,W3 _,rfl,rfl,⟨by rw[e7r];exact a8.out⟩,by simp[*]⟩
   rintro m U H' ⟨k,p,hk,rfl,rfl,HP,w2,w7,b5,b6,b7⟩ ih;refine rnd [] ?_;by_cases a0:k<t.2.length
   .have a9:(k:Int)<(t.2.length:Int):=by omega
    obtain⟨a2,off,b8,a3,b0⟩:=X4 (P:=prog) H2.out a0 1;simp only[Xj] at b0;have b1:=a3.one (k:=k) (s:=1) (by rw[A9];exact a0);rw[(W8.1 (Hv t.2 k a0)).2] at b1;have Q:Aa (A=(!(decide (t.2[k] < -1)||(decide (O<=t.2[k])||(p&&decide (¬t.2[k] = -1))))&&okR O (decide (t.2[k] = -1)) (t.2.drop (k+1)))):=⟨by rw[HP.out,d8r a0]⟩;clear a3;generalize t.2[k]=o at *;by_cases u1:o < -1
    .have Z:A=false:=by rw[Q.out,decide_eq_true u1];rfl
     simp (disch:=first|omega|simp) [*]
     all_goals exact⟨W5 n,λb h=>Ad h⟩
    by_cases u2:O<=o
    .have Z:A=false:=by rw[Q.out,decide_eq_true u2,e8o,e9p];rfl
     simp (disch:=first|omega|simp) [*]
     all_goals exact⟨W5 n,λb h=>Ad h⟩
    by_cases u3:o = -1
    .have a1:Aa (A=okR O true (t.2.drop (k+1))):=⟨by rw[Q.out,decide_eq_false u1,decide_eq_false u2,decide_eq_true u3,decide_eq_false (by simpa using u3)];simp⟩;subst u3;clear Q;cases p
     all_goals
      simp (disch:=first|omega|simp) [*];exact ih.out (t.2.length-(k+1)) _ _ (by omega) ⟨k+1,true,by omega,rfl,rfl,a1,by simp[*]⟩
    .cases p with
     | true =>
      have Z:A=false:=by rw[Q.out,decide_eq_true (by simpa using u3:¬o = -1)];simp
      simp (disch:=first|omega|simp) [*]
      all_goals exact⟨W5 n,λb h=>Ad h⟩
     | false =>
      have a1:Aa (A=okR O false (t.2.drop (k+1))):=⟨by rw[Q.out,decide_eq_false u1,decide_eq_false u2,decide_eq_false u3];simp⟩;clear Q;simp (disch:=first|omega|simp) [*];exact ih.out (t.2.length-(k+1)) _ _ (by omega) ⟨k+1,false,by omega,rfl,rfl,a1,by simp[*]⟩
   .have a9:¬(k:Int)<(t.2.length:Int):=by omega
    have Z:A=true:=by rw[HP.out,Xt (by omega)];rfl
    simp (disch:=first|omega|simp) [*]
    all_goals exact⟨W5 n,λb h=>Ad h⟩
 .have b9:¬(t.2.length:Int)=(t.1.length:Int):=by omega
  have Z:A=false:=by rw[D,decide_eq_false t1];rfl
  clear D;refine ent [] func115 ?_;simp (disch:=first|omega|simp) [*]
  all_goals exact⟨W5 n,λb h=>Ad h⟩
def R9(I O:Int)(ts:Lq):Int:=if Jy I O ts=false then 3 else if I<1\/O<1 then 1 else if ts.all (Cf I O)=true then 0 else 1
structure U9 (ts:Lq):Prop where
 len:ts.length<=200
 w1:∀t∈ts,t.1.length<=300
 w2:∀t∈ts,t.2.length<=300
theorem b3m(I O:Int)(ts:Lq)(U:U9 ts)(g:Gb)(n:Nat)(sv:AV)(Z:El g n ts sv):
  WC 0 prog 66 [.agg [.li I,.li O,sv]] ⟨.fn g,n⟩ λr=>r=.ret (.li (R9 I O ts)) ⟨.fn g,n⟩:=by
 refine X3 rfl ?_;have b8:=@Ap prog _ _ _ _ _ Z.choose_spec.1;have b0:=Z.choose_spec.1.one;have b9:allOne [.li I,.li O,sv]=true:=by simp[b0]
 have HT:=Xu Z;have HW:=Xu U;have c0:=U.len;have a1:=Xu (b3l I O ts U.len U.w1 (Ak g n (some (.cells [.li I,.li O,sv] true 0))) (n+1) sv (Z.mono (W5 n) λa ha=>Ad ha));clear Z U;obtain⟨a0,D⟩:∃b,b=R9 I O ts:=⟨_,rfl⟩;rw[<- D];unfold R9 at D;generalize Jy I O ts=wb at *
 cases wb with
 | false =>
  have hr:a0=3:=by rw[D,if_pos rfl]
  clear D;refine ent [] func66 ?_;simp (disch:=first|omega|simp) [*];refine Xv a1.out ?_;rintro _ rfl;simp (disch:=first|omega|simp) [*]
  all_goals exact⟨W5 n,λb A=>Ad A⟩
 | true =>
 rw[if_neg (by simp)] at D;by_cases t1:I<1
 .have hr:a0=1:=by rw[D,if_pos (.inl t1)]
  clear D;refine ent [] func66 ?_;simp (disch:=first|omega|simp) [*];refine Xv a1.out ?_;rintro _ rfl;simp (disch:=first|omega|simp) [*]
  all_goals exact⟨W5 n,λb A=>Ad A⟩
 by_cases t2:O<1
 .have hr:a0=1:=by rw[D,if_pos (.inr t2)]
  clear D;refine ent [] func66 ?_;simp (disch:=first|omega|simp) [*];refine Xv a1.out ?_;rintro _ rfl;simp (disch:=first|omega|simp) [*]
  all_goals exact⟨W5 n,λb A=>Ad A⟩
 rw[if_neg (by omega)] at D;have a6:=Xu D;clear D;refine ent [] func66 ?_;simp (disch:=first|omega|simp) [*];refine Xv a1.out ?_;rintro _ rfl;simp (disch:=first|omega|simp) [*];refine Xy (λm gf H'=>∃(k n' : Nat)(gL:Gb),k<=ts.length/\m=ts.length-k/\H'=⟨.fn gL,n'⟩/\n<n'/\Aa (∀b,b<n->gL b=g b)/\gL n=some (.cells [.li I,.li O,sv] true 0) /\
  Aa (∀t∈ts.take k,Cf I O t=true)/\gf 1=some (.ptr n 0)/\gf 17=some sv/\gf 18=some (.li ts.length)/\gf 19=some (.li k)) (m0:=ts.length) ?_ ?_
 .exact⟨0,_,_,W3 _,rfl,rfl,e8q n,⟨λb A=>Ad A⟩,Ag,⟨by simp⟩,by simp[*]⟩
 rintro m gf H' ⟨k,n',gL,hk,rfl,rfl,a3,HG,b1,HP,w1,c1,c2,c6⟩ ih;refine rnd [] ?_;by_cases a4:k<ts.length
 .have b2:(k:Int)<(ts.length:Int):=by omega
  obtain⟨a2,off,s1,s2,a7⟩:=(HT.out.mono (Xr a3) HG.out).at a4;have Q:=Xu a7;clear a7;have c7:∀{H:Mem}{ev:Ev}{o:Oper}{ty:TypeId},iaS prog H ev o ty (some (none,2)) (some sv) (some (.li (k:Int)))=.val (.ptr a2 (off+k*2)) H:=λ{H ev o ty}=>Q.out.ia;have c8:=Q.out.agg;have b3:=Q.out.r1.one;have b4:=Q.out.r2.one;have c9:allOne [s1,s2]=true:=by simp[b3,b4]
  have a5:=Xu (W2 a4);have b5:Aa (ts.take (k+1)=ts.take k++[ts[k]]):=⟨by rw[e7b,W6 a4];rfl⟩;have HV:=Xu (d8s I O ts[k] (HW.out.w1 _ a5.out) (HW.out.w2 _ a5.out) (Ak gL n' (some (.cells [s1,s2] true 0))) (n'+1) s1 s2 (X0 (W5 n') (λa ha=>Ad ha) Q.out.r1) (X0 (W5 n') (λa ha=>Ad ha) Q.out.r2));clear Q;generalize ts[k]=t at *;have b6:Aa (∃b,b=Cf I O t):=⟨⟨_,rfl⟩⟩;generalize a8:Cf I O t=vb at *;have a9:=Xu a8;clear a8 b6
  cases vb with
  | false =>
   have hr:a0=1:=by
    rw[a6.out,if_neg];intro h;have:=W7.1 h t a5.out;rw[a9.out] at this;exact absurd this (by simp)
   simp (disch:=first|omega|simp) [*];refine Xv HV.out ?_;rintro _ rfl;simp (disch:=first|omega|simp) [*]
   all_goals exact⟨Xr (e7s a3),λb (A:b<n)=>(Ad (by omega)).trans (HG.out b A)⟩
  | true =>
   have b7:Aa (∀t∈ts.take (k+1),Cf I O t=true):=⟨λv hv=>by
    rw[b5.out] at hv;rcases W9.1 hv with h|h
    .exact HP.out v h
    .rw[Xh.1 h];exact a9.out⟩
   simp (disch:=first|omega|simp) [*];refine Xv HV.out ?_;rintro _ rfl;simp (disch:=first|omega|simp) [*];exact ih.out (ts.length-(k+1)) _ _ (by omega) ⟨k+1,_,_,by omega,rfl,rfl,by omega,⟨λb A=>(Ad (by omega)).trans (HG.out b A)⟩,(Ad (by omega)).trans b1,b7,by simp[*]⟩
 .have b2:¬(k:Int)<(ts.length:Int):=by omega
  have hr:a0=0:=by
   rw[a6.out,if_pos];exact W7.2 λt ht=>HP.out t (by rw[show k=ts.length by omega,Xn];exact ht)
  clear HP;simp (disch:=first|omega|simp) [*];exact⟨Xr a3,λb A=>HG.out b A⟩
theorem Al.at{g:Gb}{n:Nat}{A:AV}(h:Al g n w A){k:Nat}(D:k<w.length):∃a off,a<n/\(∀{H:Mem}{ev:Ev}{o:Oper}{t:TypeId},iaS prog H ev o t (some (none,1)) (some A) (some (.li (k:Int)))=.val (.ptr a (off+k)) H)/\A5 (some (false,1)) (g a) (off+k)=some (.lit (.int .i64 w[k])):=by
 obtain⟨a2,off,a0,Q,U⟩:=X4 (P:=prog) h D 1;simp only[Xj] at U;have Z:=Q.one (k:=k) (s:=1) (by grind[A9]);rw[(W8.1 (Hv w k D)).2] at Z;grind
abbrev X6:=@Al.at
def K0(l:List Nat):List AV:=l.map λ(c:Nat)=>.lit (.int .u16 (c:Int))
theorem a4j(st Z a0:Nat)(part:Bool)(es:List Nat)(ev:AV)(g:Gb)(n:Nat)(j2:st<256)(j3:Z<256)(j4:a0<256)(b1:Ks g n ev es.length (K0 es))(c9:∀c∈es,c<65536):
  WC 0 prog 20 [.agg [.lit (.int .u8 st),.lit (.int .u8 Z),.lit (.int .u8 a0),.lit (.bool part),ev]] ⟨.fn g,n⟩ λr=>∃cs g' n',r=.ret (.agg cs) ⟨.fn g',n'⟩/\n<=n'/\(∀b,b<n->g' b=g b)/\Pc g' n n' (Bz st Z a0 part es) cs:=by
 have g9:=b1.one;have j5:allOne [.lit (.int .u8 st),.lit (.int .u8 Z),.lit (.int .u8 a0),.lit (.bool part),ev]=true:=by simp[g9]
 have HE:=Xu b1;have HB:=Xu c9;clear b1 c9;have j6:(st:Int).tmod 6=((st % 6:Nat):Int):=(e7u st 6).symm;have j7:(Z:Int).tmod 3=((Z % 3:Nat):Int):=(e7u Z 3).symm;have j8:(a0:Int).tmod 3=((a0 % 3:Nat):Int):=(e7u a0 3).symm;have HM:Aa (Bz st Z a0 part es=⟨1+((Z % 3:Nat):Int),1+((a0 % 3:Nat):Int),(List.range (1+st % 6)).map (Kt part es (1+st % 6) (1+Z % 3) (1+a0 % 3))⟩):=⟨rfl⟩;have ha:=Xp st (show 0<6 by omega);have hb:=Xp Z (show 0<3 by omega);have hc:=Xp a0 (show 0<3 by omega);generalize Bz st Z a0 part es=M at *;generalize st % 6=a at *;generalize Z % 3=b at *;generalize a0 % 3=c at *;refine ent pl20 func20 ?_;simp (disch:=first|omega|simp) [*];refine Xy (λm U H'=>∃(s n' : Nat)(g' gk:Gb)(A:Nat)(rv:AV)(svs:List AV),s<=1+a/\m=1+a-s/\H'=⟨.fn g',n'⟩/\n+1+1+1<=n'/\(∀b,b<n->g' b=g b)/\g' n=some (.cells [.lit (.int .u8 st),.lit (.int .u8 Z),.lit (.int .u8 a0),.lit (.bool part),ev] true 0)/\g' (n+1)=some (.cells [.li 0,.li 0,.nl] true 0)/\g' (n+1+1)=some (.cells [.li (1+(b:Int)),.li (1+(c:Int)),rv] true 0) /\
  A6 g' (n+1+1+1) n' A rv s 1 svs/\RowsE gk n' ((List.range s).map (Kt part es (1+a) (1+b) (1+c))) svs/\(∀q z,gk q=some z->g' q=some z/\q≠A/\n+1+1+1<=q/\q<n')/\U 1=some (.ptr n 0)/\U 2=some (.ptr (n+1) 0)/\U 3=some (.li (1+(a:Int)))/\U 4=some (.ptr (n+1+1) 0)/\U 5=some (.li s)) (m0:=1+a) ?_ ?_
 .refine⟨0,_,_,λ_=>none,0,_,[],by omega,rfl,rfl,by omega,λq Q=>?_,?_,?_,?_,.inl ⟨rfl,rfl,rfl⟩,rfl,λq z h=>(by cases h),by simp[*]⟩
  .simp (disch:=omega) only[Ad]
  .simp (disch:=omega) only[Ad,Ag]
  .simp (disch:=omega) only[Ad,Ag]
  .simp (disch:=omega) only[Ad,Ag]
 rintro m U H' ⟨s,n1,g1,gk,A,rv,svs,hs,rfl,rfl,j9,e5,e0,e1,e2,hA,e6,hk,w1,w2,w3,w4,w5⟩ ih;have a6:=Xu e5;have HA:=Xu hA;have HK:=Xu hk;have HR:=Xu e6;clear e5 hA hk e6;refine rnd pl20 ?_;by_cases k0:s<1+a
 .have h4:(s:Int)<1+(a:Int):=by omega
  simp (disch:=first|omega|simp) [*];refine Xy (λm U H'=>∃(j n' : Nat)(g' : Gb)(B:Nat)(sv:AV)(rr:List AV),j<=1+b/\m=1+b-j/\H'=⟨.fn g',n'⟩/\n1<=n'/\(∀q,q<n1->g' q=g1 q) /\
   A6 g' n1 n' B sv j 2 rr/\Aa (rr=Au ((List.range j).map λi=>Nv part (1+a) (1+c) (es.getD (s*(1+b)+i) 0)))/\U 1=some (.ptr n 0)/\U 2=some (.ptr (n+1) 0)/\U 3=some (.li (1+(a:Int)))/\U 4=some (.ptr (n+1+1) 0)/\U 5=some (.li s)/\U 6=some sv/\U 7=some (.li j)) (m0:=1+b) ?_ ?_
  .refine⟨0,_,_,0,_,_,by omega,rfl,rfl,by omega,λq Q=>rfl,.inl ⟨rfl,rfl,rfl⟩,⟨rfl⟩,by simp[*]⟩
  rintro m U H' ⟨j,n',g',B,sv,rr,hj,rfl,rfl,k9,e7,hB,b2,v1,v2,v3,v4,v5,v6,v7⟩ a7;have HG:=Xu e7;have b3:=Xu hB;clear e7 hB;have f0:=(HG.out n (by omega)).trans e0;have f2:=(HG.out (n+1+1) (by omega)).trans e2;refine rnd pl20 ?_;by_cases l0:j<1+b
  .have h5:(j:Int)<1+(b:Int):=by omega
   have hp:s*(1+b)<=15:=Xa (e5x (show s<=5 by omega) (show 1+b<=3 by omega)) (by omega);have l1:(s:Int)*(1+(b:Int))=((s*(1+b):Nat):Int):=by simp
   generalize l2:s*(1+b)=p at *;have l3:es.getD (p+j) 0<65536:=by
    rw[Xo]
    cases Q:es[p+j]? with
    | none=>simp
    | some x=>exact HB.out x (e6e Q)
   generalize hv:es.getD (p+j) 0=v at *;have h6:(v:Int).tdiv 4=((v / 4:Nat):Int):=rfl;have h7:(v:Int).tmod 4=((v % 4:Nat):Int):=(e7u v 4).symm;generalize b4:v / 4=q at *;generalize b5:v % 4=r at *;have h8:(q:Int).tmod (1+(a:Int))=((q % (1+a):Nat):Int):=by rw[show (1+(a:Int))=((1+a:Nat):Int) by omega];exact(e7u q (1+a)).symm
   have h9:(q:Int).tdiv (1+(a:Int))=((q / (1+a):Nat):Int):=by rw[show (1+(a:Int))=((1+a:Nat):Int) by omega];rfl
   have i0:q / (1+a)<=q:=Nat.div_le_self _ _;generalize b6:q / (1+a)=d at *;have i1:(d:Int).tmod (1+(c:Int))=((d % (1+c):Nat):Int):=by rw[show (1+(c:Int))=((1+c:Nat):Int) by omega];exact(e7u d (1+c)).symm
   have a8:Aa (Nv part (1+a) (1+c) v=if part=true/\r=3 then (-1,-1) else (((q % (1+a):Nat):Int),((d % (1+c):Nat):Int))):=⟨by rw[<- b5,<- b6,<- b4];rfl⟩;have D:v=0->q % (1+a)=0/\d % (1+c)=0/\r=0:=λe=>by
    have e1:q=0:=by rw[<- b4,e]
    have e2:d=0:=by rw[<- b6,e1];simp
    have e3:r=0:=by rw[<- b5,e]
    exact⟨by rw[e1];simp,by rw[e2];simp,e3⟩
   have HZ:=Xu D;clear D;generalize q % (1+a)=x at *;generalize d % (1+c)=y at *;have l4:q<=v:=by omega
   have e8:∀{H:Mem}{e' : Ev}{o:Oper}{c' : Call}{e:TypeId},Km prog H e' o c' (some (.slice e)) (some [ev])=.val (.li es.length) H:=by
    intro H e' o c' e;rcases HE.out with⟨h1,rfl|rfl⟩|⟨a2,off,c2,_,rfl,_⟩
    .rw[h1];rfl
    .rw[h1];rfl
    .rfl
   have a9:Aa (Au (List.map (λi=>Nv part (1+a) (1+c) (es.getD (p+i) 0)) (List.range (j+1)))=rr++[.lit (.int .i64 (Nv part (1+a) (1+c) v).1),.lit (.int .i64 (Nv part (1+a) (1+c) v).2)]):=⟨by rw[e8z,e6m,e8d,hv,a2w,b2.out]⟩;have l5:d<=v:=by omega
   clear b4 b5 b6 i0;by_cases b7:p+j<es.length
   .have i2:(p:Int)+(j:Int)<(es.length:Int):=by omega
    rcases HE.out with⟨h1,_⟩|⟨a2,off,c2,i3,rfl,e9⟩
    .omega
    have i4:=(e9.mono ((HG.out a2 (by omega)).trans (a6.out a2 i3))).one (k:=p+j) (s:=1) (by simp only[K0,Xl];exact b7);have g0:(K0 es)[p+j]'(by simp only[K0,Xl];exact b7)=.lit (.int .u16 (v:Int)):=by simp only[K0,e6k];rw[<- hv,Xo,W6 b7];rfl
    rw[g0] at i4;clear hv g0 e9;have l6:((p:Int)+(j:Int)).toNat=p+j:=by omega
    rcases b3.out with b8|⟨g2,a1,g3,b9,c0,b0⟩
    .obtain⟨a5,a3,a1⟩:=b8;subst a1;have HJ:=Xu (And.intro a5 a3);clear a5 a3;cases part<;>by_cases i5:r=3
     all_goals
      first
       | have c1:(r:Int)=3:=by omega
       | have c1:¬(r:Int)=3:=by omega
      simp (disch:=first|omega|simp) [*];refine a7.out (1+b-(j+1)) _ _ (by omega) ⟨j+1,n'+1+1,_,n'+1,.slq (n'+1) 0 (j+1) 0,_,by omega,rfl,rfl,by omega,λq Q=>?_,.mk Ag (by omega) (by omega) ?_,⟨?_⟩,by simp[*],by simp[*],by simp[*],by simp[*],by simp[*],by rw[HJ.out.1];simp[*],by simp⟩
      .simp (disch:=omega) only[Ad,Ae];exact HG.out q Q
      .rw[HJ.out.1];simp[*]
      .rw[a9.out,a8.out];rw[HJ.out.2];simp[*]
    .subst a1;have i6:j<=1000000:=by omega
     cases part<;>by_cases i5:r=3
     all_goals
      first
       | have c1:(r:Int)=3:=by omega
       | have c1:¬(r:Int)=3:=by omega
      simp (disch:=first|omega|simp) [*];refine a7.out (1+b-(j+1)) _ _ (by omega) ⟨j+1,n'+1+1,_,n'+1,.slq (n'+1) 0 (j+1) 0,_,by omega,rfl,rfl,by omega,λq Q=>?_,.mk Ag (by omega) (by omega) ?_,⟨?_⟩,by simp[*]⟩
      .simp (disch:=omega) only[Ad,Ae];exact HG.out q Q
      .simp[*];omega
      .rw[a9.out,a8.out];simp[*]
   .have i2:¬(p:Int)+(j:Int)<(es.length:Int):=by omega
    have i7:v=0:=by
     rw[<- hv,Xo,e7a (by omega)];rfl
    obtain⟨l7,l8,l9⟩:=HZ.out i7;clear hv h6 h7 h8 h9 i1;rcases b3.out with b8|⟨g2,a1,g3,b9,c0,b0⟩
    .obtain⟨a5,a3,a1⟩:=b8;subst a1;have HJ:=Xu (And.intro a5 a3);clear a5 a3;cases part
     all_goals
      simp (disch:=first|omega|simp) [*];refine a7.out (1+b-(j+1)) _ _ (by omega) ⟨j+1,n'+1+1,_,n'+1,.slq (n'+1) 0 (j+1) 0,_,by omega,rfl,rfl,by omega,λq Q=>?_,.mk Ag (by omega) (by omega) ?_,⟨?_⟩,by simp[*],by simp[*],by simp[*],by simp[*],by simp[*],by rw[HJ.out.1];simp[*],by simp⟩
      .simp (disch:=omega) only[Ad,Ae];exact HG.out q Q
      .rw[HJ.out.1];simp[*]
      .rw[a9.out,a8.out];rw[HJ.out.2];simp[*]
    .subst a1;have i6:j<=1000000:=by omega
     cases part
     all_goals
      simp (disch:=first|omega|simp) [*];refine a7.out (1+b-(j+1)) _ _ (by omega) ⟨j+1,n'+1+1,_,n'+1,.slq (n'+1) 0 (j+1) 0,_,by omega,rfl,rfl,by omega,λq Q=>?_,.mk Ag (by omega) (by omega) ?_,⟨?_⟩,by simp[*]⟩
      .simp (disch:=omega) only[Ad,Ae];exact HG.out q Q
      .simp[*];omega
      .rw[a9.out,a8.out];simp[*]
  .have c6:Aa (j=1+b):=⟨by omega⟩;have h5:¬(j:Int)<1+(b:Int):=by omega
   have m1:s<=1000000:=by omega
   rcases b3.out with⟨h0,_⟩|⟨g2,a1,g3,b9,c0,b0⟩
   .omega
   subst a1;have m2:=Xu b0;clear b0;have g4:Aa (RowsE (Ak gk B (some (.cells rr true 2))) (n'+1+1) ((List.range (s+1)).map (Kt part es (1+a) (1+b) (1+c))) (svs++[.slq B 0 j 0])):=⟨by
    rw[e8z,e6m,e8d];refine RowsE.snoc ?_ (HR.out.ext (by omega) λq z Q D=>(Ad (by omega)).trans D);rw[show (Kt part es (1+a) (1+b) (1+c) s).length=j by unfold Kt;simp[c6.out]];refine .inr ⟨B,0,by omega,.inr ⟨0,rfl⟩,rr,true,2,Ag,?_,?_⟩
    .rw[show Au (Kt part es (1+a) (1+b) (1+c) s)=rr by rw[b2.out,c6.out];rfl];simp
    .rw[show Au (Kt part es (1+a) (1+b) (1+c) s)=rr by rw[b2.out,c6.out];rfl];simp⟩
   have g5:Aa (∀q z,Ak gk B (some (.cells rr true 2)) q=some z->g' q=some z/\q≠n'/\q≠n'+1/\q≠n+1+1/\n+1+1+1<=q/\q<n'/\(A<n1->q≠A)):=⟨λq z D=>by
    rcases a0d D with⟨rfl,h⟩|⟨_,D⟩
    .cases h;exact⟨c0,by omega,by omega,by omega,by omega,b9,by omega⟩
    .obtain⟨k1,k2,k3,k4⟩:=HK.out q z D;exact⟨(HG.out q k4).trans k1,by omega,by omega,by omega,k3,by omega,λ_=>k2⟩⟩
   rcases HA.out with i8|⟨m3,c7,m4,g6,i9,m5⟩
   .obtain⟨g7,a3,c7⟩:=i8;subst c7;have HJ:=Xu (And.intro g7 a3);clear g7 a3;simp (disch:=first|omega|simp) [*];refine ih.out (1+a-(s+1)) _ _ (by omega) ⟨s+1,n'+1+1,_,_,n'+1,.slq (n'+1) 0 (s+1) 0,svs++[.slq B 0 j 0],by omega,rfl,rfl,by omega,λq Q=>?_,?_,?_,?_,.mk ?_ (by omega) (by omega) ?_,g4.out,λq z D=>?_,by simp[*]⟩
    .simp (disch:=omega) only[Ad,Ae];rw[HG.out q (by omega)];exact a6.out q Q
    .simp (disch:=omega) only[Ad,Ae];exact f0
    .simp (disch:=omega) only[Ad,Ae];rw[HG.out (n+1) (by omega)];exact e1
    .rw[HJ.out.1];simp[*]
    .rw[HJ.out.2];simp (disch:=omega) [Ae,Ag]
    .rw[HJ.out.1,HJ.out.2];simp[*]
    .obtain⟨k1,k2,k3,k4,k5,k6,k7⟩:=g5.out q z D;refine⟨?_,k3,k5,by omega⟩;simp (disch:=omega) only[Ad,Ae];exact k1
   .subst c7;have m6:=(HG.out A g6).trans i9;simp (disch:=first|omega|simp) [*];refine ih.out (1+a-(s+1)) _ _ (by omega) ⟨s+1,n'+1+1,_,_,n'+1,.slq (n'+1) 0 (s+1) 0,svs++[.slq B 0 j 0],by omega,rfl,rfl,by omega,λq Q=>?_,?_,?_,?_,.mk ?_ (by omega) (by omega) ?_,g4.out,λq z D=>?_,by simp[*]⟩
    .simp (disch:=omega) only[Ad,Ae];rw[HG.out q (by omega)];exact a6.out q Q
    .simp (disch:=omega) only[Ad,Ae];exact f0
    .simp (disch:=omega) only[Ad,Ae];rw[HG.out (n+1) (by omega)];exact e1
    .simp[*]
    .simp (disch:=omega) [Ae,Ag]
    .simp[*]
    .obtain⟨k1,k2,k3,k4,k5,k6,k7⟩:=g5.out q z D;refine⟨?_,k3,k5,by omega⟩;have k8:=k7 g6;simp (disch:=omega) only[Ad,Ae];exact k1
 .have h4:¬(s:Int)<1+(a:Int):=by omega
  have c8:s=1+a:=by omega
  have j0:=HA.out.one;have m7:allOne [.li (1+(b:Int)),.li (1+(c:Int)),rv]=true:=by simp[j0]
  have e8:svs.length=s:=by rw[HR.out.len];simp
  have j1:Aa (Cy (λq=>if q=A/\n+1+1+1<=A/\A<n1 then g1 A else gk q) n1 M [.li (1+(b:Int)),.li (1+(c:Int)),rv]):=⟨by
   rw[HM.out];refine⟨rv,svs,rfl,?_,?_⟩
   .show RowsE _ n1 ((List.range (1+a)).map _) svs;have g8:=HR.out;rw[c8] at g8;refine g8.ext (Wy _) λq z _ D=>?_;obtain⟨k1,k2,k3,k4⟩:=HK.out q z D;show (if q=A/\n+1+1+1<=A/\A<n1 then g1 A else gk q)=some z;rw[if_neg (λh=>k2 h.1)];exact D
   .show Af _ n1 rv ((List.range (1+a)).map _).length svs;rw[Xl,e9g,<- c8];refine HA.out.slice.ext (Wy _) λq z _ D=>?_;have a4:(if q=A/\n+1+1+1<=A/\A<n1 then g1 q else none)=some z:=D;show (if q=A/\n+1+1+1<=A/\A<n1 then g1 A else gk q)=some z;split at a4
    .rename_i h;rw[if_pos h,<- h.1];exact a4
    .cases a4⟩
  clear c8 e8;simp (disch:=first|omega|simp) [*];refine⟨_,_,_,⟨rfl,rfl,rfl⟩,by omega,λq Q=>?_,_,λq z D=>?_,j1.out⟩
  .rw[Ad (by omega)];exact a6.out q Q
  .have a4:(if q=A/\n+1+1+1<=A/\A<n1 then g1 A else gk q)=some z:=D;split at a4
   .rename_i h;obtain⟨rfl,h2,h3⟩:=h;exact⟨by rw[Ae (by omega)];exact a4,by omega,h3⟩
   .obtain⟨k1,k2,k3,k4⟩:=HK.out q z a4;exact⟨by rw[Ae (by omega)];exact k1,by omega,k4⟩
theorem stood97:prog.stoodInHeld 97=false:=by kernel_rfl
theorem d8t{P:Program}{d:Nat}{t:TypeId}{k:IntKind}{a b:Int}(h:P.underlying t=some (.int k)):Ar P (Op.equalIn (d+1) t (.int k a) (.int k b))=some (a==b):=by
 unfold Op.equalIn;refine(Bo (m:=underlying t) (Hr h)).trans ?_;dsimp only;rw[if_pos rfl];rfl
theorem d8u(a b c d:Int):Ar prog (Op.equal 97 (.agg #[.int .i64 a,.int .i64 b]) (.agg #[.int .i64 c,.int .i64 d]))=some (a==c&&b==d):=by
 unfold Op.equal;show Ar prog (Op.equalIn (9998+1+1) 97 _ _)=_;rw[Op.equalIn];refine(Bo (m:=underlying 97) (Hr underlying97)).trans ?_;dsimp only;refine(Bo (m:=program) (a:=prog) rfl).trans ?_;rw[if_neg (by simp)];have Q:∀x y:Int,Ar prog (part 3 #[Value.int IntKind.i64 x,Value.int IntKind.i64 y] 0)=some (.int .i64 x):=λx y=>rfl;have U:∀x y:Int,Ar prog (part 3 #[Value.int IntKind.i64 x,Value.int IntKind.i64 y] 1)=some (.int .i64 y):=λx y=>rfl;simp only[List.forIn_toArray,List.forIn_cons,List.forIn_nil];have key:∀(h:String)(u v:Int)(A D:Sem Value),h ≠ "_"->Ar prog A=some (.int .i64 u)->Ar prog D=some (.int .i64 v) ->
   Ar prog (if h ≠ "_" then do
    let x <- A
    let y <- D
    let z <- Op.equalIn (9998+1) 3 x y
    if (!z)=true then pure (ForInStep.done (some false,())) else pure (ForInStep.yield ((none:Option Bool),()))
   else pure (ForInStep.yield (none,())))=some (if (u==v)=true then ForInStep.yield (none,()) else ForInStep.done (some false,())):=by
  intro h u v A D Z h1 h2;rw[if_pos Z];refine(Bo h1).trans ((Bo h2).trans ((Bo (d8t underlying3)).trans ?_));cases (u==v)<;>rfl
 refine(Bo (a:=if (a==c&&b==d)=true then ((none:Option Bool),()) else (some false,())) ?_).trans ?_
 .refine(Bo (key "To" a c _ _ (by decide) (Q a b) (Q c d))).trans ?_;cases (a==c)
  .rfl
  .refine(Bo (key "Out" b d _ _ (by decide) (U a b) (U c d))).trans ?_;cases (b==d)<;>rfl
 .cases (a==c)<;>cases (b==d)<;>rfl
theorem d8v{H:Mem}{ev:Ev}{d:Option Tmp}{ty D:TypeId}{p:String}{af:Array Edge}{g:Option (Nat×Bool)}{x y:Operand}{a b h A:Int}(hx:ev x=some (.agg [.li a,.li b]))(hy:ev y=some (.agg [.li h,.li A])):
  Fz prog H ev ⟨d,.binOp .eql 97 x y D,ty,p,af,g⟩ .eql 97 (some (.agg [.li a,.li b])) (some (.agg [.li h,.li A]))=.val (.lit (.bool (decide (a=h)&&decide (b=A)))) H:=by
 show Bh prog H ev ⟨d,.binOp .eql 97 x y D,ty,p,af,g⟩ .eql 97 (some (.agg [.li a,.li b])) (some (.agg [.li h,.li A]))=_;refine Nr rfl ?_;have U:(Op.operands (.binOp .eql 97 x y D)).toList=[x,y]:=rfl;unfold A7;dsimp only;rw[U];have Z:toLit (.agg [.li a,.li b])=some (.agg #[.int .i64 a,.int .i64 b]):=rfl;have l2:toLit (.agg [.li h,.li A])=some (.agg #[.int .i64 h,.int .i64 A]):=rfl;simp only[e8e,List.all_nil,hx,hy,Z,l2,e7x,if_true];have h2:∀Q:Operand->Value,Q x=.agg #[.int .i64 a,.int .i64 b]->Q y=.agg #[.int .i64 h,.int .i64 A]->Ar prog (execOp Q ⟨d,.binOp .eql 97 x y D,ty,p,af,g⟩)=some (.value (.bool (decide (a=h)&&decide (b=A)))):=by
  intro Q e1 e2;refine Ns e1 e2 ?_ ?_
  .unfold eqGuard;kernel_rfl
  .show Ar prog (do pure (Value.bool (<- Op.equal 97 _ _)))=_;exact(Bo (d8u a b h A)).trans rfl
 grind
attribute [simp] d8v
theorem Mq(g:Gb)(n:Nat):WC 0 prog 147 [] ⟨.fn g,n⟩ λr=>r=.ret (.agg [.li (-1),.li (-1)]) ⟨.fn (Ak g n (some (.cells [.li (-1),.li (-1)] true 0))),n+1⟩:=by
 have h:allOne [.li (-1),.li (-1)]=true:=by simp
 refine ent [] func147 ?_;simp
theorem d8w(e:Int×Int)(g:Gb)(n:Nat)(U:List AV)(Z:Cy g n M U):
  WC 0 prog 131 [.agg U,.agg [.li e.1,.li e.2]] ⟨.fn g,n⟩ λr=>r=.ret (.lit (.bool (Db M.rows.length M.out e))) ⟨.fn g,n⟩:=by
 refine X3 rfl ?_;obtain⟨rv,svs,rfl,a0,Q⟩:=Z;have a1:=Q.one;have a2:allOne [.li M.inp,.li M.out,rv]=true:=by simp_all
 have a3:=@Ap prog _ _ _ _ _ Q;obtain⟨to,D⟩:=e;have a4:allOne [.li to,.li D]=true:=by simp
 clear a0 Q;refine ent pl131 func131 ?_;by_cases t1:to = -1
 .by_cases t2:D = -1
  .simp (disch:=first|omega|simp) [*];refine Xv (Mq _ _) ?_;rintro _ rfl;simp (disch:=first|omega|simp) [*];refine⟨_,⟨?_,rfl⟩,by grind,λq A=>?_⟩
   .rfl
   (simp_all[Ak];grind)
  .have t3:¬(0:Int)<=to:=by omega
   simp (disch:=first|omega|simp) [*];refine Xv (Mq _ _) ?_;rintro _ rfl;simp (disch:=first|omega|simp) [*];refine⟨_,⟨?_,rfl⟩,by grind,λq A=>?_⟩
   .grind[Db]
   (simp_all[Ak];grind)
 have a5:¬(to = -1/\D = -1):=λh=>t1 h.1;by_cases t3:0<=to
 .by_cases t4:to<(M.rows.length:Int)
  .by_cases t5:0<=D
   .by_cases t6:D<M.out
    .simp (disch:=first|omega|simp) [*];refine Xv (Mq _ _) ?_;rintro _ rfl;simp (disch:=first|omega|simp) [*];refine⟨_,⟨?_,rfl⟩,by grind,λq A=>?_⟩
     .grind[Db]
     (simp_all[Ak];grind)
    .simp (disch:=first|omega|simp) [*];refine Xv (Mq _ _) ?_;rintro _ rfl;simp (disch:=first|omega|simp) [*];refine⟨_,⟨?_,rfl⟩,by grind,λq A=>?_⟩
     .grind[Db]
     (simp_all[Ak];grind)
   .simp (disch:=first|omega|simp) [*];refine Xv (Mq _ _) ?_;rintro _ rfl;simp (disch:=first|omega|simp) [*];refine⟨_,⟨?_,rfl⟩,by grind,λq A=>?_⟩
    all_goals (simp_all[Db,Ak];grind)
  .simp (disch:=first|omega|simp) [*];refine Xv (Mq _ _) ?_;rintro _ rfl;simp (disch:=first|omega|simp) [*];refine⟨_,⟨?_,rfl⟩,by grind,λq A=>?_⟩
   all_goals (simp_all[Db,Ak];grind)
 .simp (disch:=first|omega|simp) [*];refine Xv (Mq _ _) ?_;rintro _ rfl;simp (disch:=first|omega|simp) [*];refine⟨_,⟨?_,rfl⟩,by grind,λq A=>?_⟩
  all_goals (simp_all[Db,Ak];grind)
theorem d8x(e:Int×Int)(p:Nat)(g:Gb)(n:Nat)(D:List AV)(A:Cy g n M D)(hp:g p=some (.cells D true 0))(a0:p<n):
  WC 0 prog 130 [.agg [.li e.1,.li e.2],.ptr p 0] ⟨.fn g,n⟩ λr=>r=.ret (.lit (.bool (!Db M.rows.length M.out e))) ⟨.fn g,n⟩:=by
 refine X3 rfl ?_;have a1:allOne [.li e.1,.li e.2]=true:=by simp
 have Q:=Xu A;obtain⟨U,Z,a2⟩:=A.one;subst Z;have a3:allOne [.li M.inp,.li M.out,U]=true:=by simp_all
 clear A;refine ent [] func130 ?_
 iterate 6 all_goals try first|apply spl<;>intro h|simp (disch:=first|assumption|omega|simp) [*]
 refine Xv (d8w e _ _ _ (Q.out.mono (by omega) λq hq=>Ad hq)) ?_;rintro _ rfl
 iterate 6 all_goals try first|apply spl<;>intro h|simp (disch:=first|assumption|omega|simp) [*]
 all_goals exact⟨W5 n,λb hb=>Ad hb⟩
theorem d8y(row:List (Int×Int))(b5:row.length<=1000000)(sv:AV)(p:Nat)(g:Gb)(n:Nat)(D:List AV)(hr:Cy g n M D)(hp:g p=some (.cells D true 0))(b2:p<n)(Q:Af g n sv row.length (Au row)):
  WC 0 prog 146 [sv,.func (.func 130) [] [.ptr p 0]] ⟨.fn g,n⟩ λr=>∃z:Int,r=.ret (.li z) ⟨.fn g,n⟩/\decide (0<=z)=row.any λe=>!Db M.rows.length M.out e:=by
 have b6:=@Ap prog _ _ _ _ _ Q;have HR:=Xu hr;have HS:=Xu Q;have HP:=Xu hp;clear hr Q hp;refine ent [] func146 ?_;simp (disch:=first|omega|simp) [*];refine Xy (λm A H'=>∃(k:Nat),k<=row.length/\m=row.length-k/\H'=⟨.fn g,n⟩/\(∀e∈row.take k,Db M.rows.length M.out e=true) /\
  A 0=some sv/\A 1=some (.func (.func 130) [] [.ptr p 0])/\A 7=some (.li row.length)/\A 8=some (.li k)) (m0:=row.length) ?_ ?_
 .exact⟨0,W3 _,rfl,rfl,by simp[*]⟩
 rintro m A H' ⟨k,hk,rfl,rfl,a0,w0,w1,w7,w8⟩ ih;have a1:=Xu a0;clear a0;refine rnd [] ?_;by_cases a3:k<row.length
 .have b3:(k:Int)<(row.length:Int):=by omega
  rcases HS.out with⟨h1,_⟩|⟨a2,off,b7,a4,a5⟩
  .omega
  have b4:=a5.agg (k:=k*2) (s:=2) (by grind[rowC_len]);rw[rowC_at row k a3] at b4;have a6:row.take (k+1)=row.take k++[row[k]]:=by simp
  have a7:=W2 a3;have HT:=Xu a6;have HM:=Xu a7;clear a6 a7 a5;generalize row[k]=e at *;have a8:=d8x (M:=M) e p g n D HR.out HP.out b2;have a9:=Xu a8;clear a8
  cases U:Db M.rows.length M.out e with
  | true =>
   rcases a4 with⟨Z,rfl⟩|⟨Z,rfl⟩
   all_goals
    simp (disch:=first|omega|simp) [*];refine Xv a9.out ?_;rintro _ rfl;rw[U];simp (disch:=first|omega|simp) [*];refine ih.out (row.length-(k+1)) _ _ (by omega) ⟨k+1,by omega,rfl,rfl,λe' b0=>?_,by simp[*]⟩;rw[HT.out] at b0;rcases W9.1 b0 with h|h
    .exact a1.out e' h
    grind
  | false =>
   rcases a4 with⟨Z,rfl⟩|⟨Z,rfl⟩
   all_goals
    simp (disch:=first|omega|simp) [*];refine Xv a9.out ?_;rintro _ rfl;rw[U];simp (disch:=first|omega|simp) [*];exact⟨e.1,e.2,HM.out,U⟩
 .have b3:¬(k:Int)<(row.length:Int):=by omega
  have b1:k=row.length:=by omega
  have b8:=Xu b1;clear b1;simp (disch:=first|omega|simp) [*];have h0:=a1.out;grind
theorem d8z(row:List (Int×Int))(U:row.length<=1000000)(sv:AV)(p:Nat)(g:Gb)(n:Nat)(h:List AV)(A:Cy g n M h)(D:g p=some (.cells h true 0))(Z:p<n)(Q:Af g n sv row.length (Au row)):
  WC 0 prog 129 [sv,.func (.func 130) [] [.ptr p 0]] ⟨.fn g,n⟩ λr=>r=.ret (.lit (.bool (row.any λe=>!Db M.rows.length M.out e))) ⟨.fn g,n⟩:=by
 have HI:=Xu (d8y row U sv p g n h A D Z Q);clear A D Q;refine ent [] func129 ?_;simp (disch:=first|omega|simp) [*];refine Xv HI.out ?_;rintro _ ⟨z,rfl,hz⟩;generalize (row.any λe=>!Db M.rows.length M.out e)=bb at *
 cases bb with
 | true =>
  simp_all
 | false =>
  simp[*]
def D2(M:Aw):Int:=
 if M.inp > 16\/M.out > 16\/M.rows.length > 64 then 3 else if M.inp<1\/M.out<1\/M.rows.length<1 then 1
 else if (∀r∈M.rows,(r.length:Int)=M.inp/\(r.any λe=>!Db M.rows.length M.out e)=false) then 0 else 1
theorem b3n:D2 M=0↔M.ok:=by
 unfold D2 Aw.ok;grind
theorem b3o(Q:∀r∈M.rows,r.length<=1000000)(g:Gb)(n:Nat)(ms:List AV)(hr:Cy g n M ms):
  WC 0 prog 99 [.agg ms] ⟨.fn g,n⟩ λr=>r=.ret (.li (D2 M)) ⟨.fn g,n⟩:=by
 refine X3 rfl ?_;have HR:=Xu hr;obtain⟨U,svs,rfl,a4,a0⟩:=hr;have e6:=a0.one;have e7:allOne [.li M.inp,.li M.out,U]=true:=by simp_all
 have e8:=@Ap prog _ _ _ _ _ a0;have c7:=Xu a4;have c8:=Xu a0;have c9:=Xu Q;have e9:=a4.len;clear a4 a0 Q;refine ent [] func99 ?_;by_cases a1:(16:Int)<M.inp
 .have A:D2 M=3:=by simp_all[D2]
  rw[A];simp (disch:=first|omega|simp) [*];exact⟨W5 n,λb D=>Ad D⟩
 by_cases a2:(16:Int)<M.out
 .have A:D2 M=3:=by simp_all[D2]
  rw[A];simp (disch:=first|omega|simp) [*];exact⟨W5 n,λb D=>Ad D⟩
 by_cases a3:(64:Int)<(M.rows.length:Int)
 .have A:D2 M=3:=by (simp_all[D2];grind)
  rw[A];simp (disch:=first|omega|simp) [*];exact⟨W5 n,λb D=>Ad D⟩
 by_cases b1:M.inp<1
 .have A:D2 M=1:=by (simp_all[D2];grind)
  rw[A];simp (disch:=first|omega|simp) [*];exact⟨W5 n,λb D=>Ad D⟩
 by_cases b2:M.out<1
 .have A:D2 M=1:=by (simp_all[D2];grind)
  rw[A];simp (disch:=first|omega|simp) [*];exact⟨W5 n,λb D=>Ad D⟩
 by_cases b3:(M.rows.length:Int)<1
 .have A:D2 M=1:=by unfold D2;grind
  rw[A];simp (disch:=first|omega|simp) [*];exact⟨W5 n,λb D=>Ad D⟩
 have a8:D2 M=if (∀r∈M.rows,(r.length:Int)=M.inp/\(r.any λe=>!Db M.rows.length M.out e)=false) then 0 else 1:=by unfold D2;grind
 have a5:=Xu a8;clear a8;simp (disch:=first|omega|simp) [*];refine Xy (λm Z H'=>∃(k:Nat),k<=M.rows.length/\m=M.rows.length-k/\H'=⟨.fn (Ak g n (some (.cells [.li M.inp,.li M.out,U] true 0))),n+1⟩/\(∀r∈M.rows.take k,(r.length:Int)=M.inp/\(r.any λe=>!Db M.rows.length M.out e)=false) /\
  Z 1=some (.ptr n 0)/\Z 34=some U/\Z 35=some (.li M.rows.length)/\Z 36=some (.li k)) (m0:=M.rows.length) ?_ ?_
 .exact⟨0,W3 _,rfl,rfl,by simp[*]⟩
 rintro m Z H' ⟨k,hk,rfl,rfl,a9,w1,g0,g1,g2⟩ ih;have b0:=Xu a9;clear a9;refine rnd [] ?_;by_cases b4:k<M.rows.length
 .have e0:(k:Int)<(M.rows.length:Int):=by omega
  have hR:=c7.out.at k b4 (by omega);rcases c8.out with⟨h1,_⟩|⟨g3,off,b5,a6,b6⟩
  .omega
  have b7:=(b6.mono (g':=Ak g n (some (.cells [.li M.inp,.li M.out,U] true 0))) (Ad b5)).one (k:=k) (s:=1) (by omega);rw[Ad b5] at b7;have b8:M.rows.take (k+1)=M.rows.take k++[M.rows[k]]:=by simp
  have a7:=W2 b4;have Q:=c9.out _ a7;have HT:=Xu b8;have HM:=Xu a7;clear b8 a7 b6;generalize svs[k]'(by omega)=sv at hR b7;generalize M.rows[k]=row at hR HT HM Q;have g4:=@Ap prog _ _ _ _ _ hR;have b9:=d8z (M:=M) row Q sv n (Ak g n (some (.cells [.li M.inp,.li M.out,U] true 0))) (n+1) _ (HR.out.mono (by omega) λq hq=>Ad hq) Ag (by omega) (hR.mono (by omega) λq hq=>Ad hq);have c0:=Xu b9;clear b9 hR;by_cases e1:(row.length:Int)=M.inp
  .cases c1:(row.any λe=>!Db M.rows.length M.out e) with
   | true =>
    rcases a6 with⟨c2,rfl⟩|⟨c2,rfl⟩
    all_goals
     simp (disch:=first|omega|simp) [*];refine Xv c0.out ?_;rintro _ rfl;rw[c1];have A:D2 M=1:=by rw[a5.out,if_neg (λh=>by have:=(h row HM.out).2;grind)]
     rw[A];simp (disch:=first|omega|simp) [*];exact⟨W5 n,λb D=>Ad D⟩
   | false =>
    rcases a6 with⟨c2,rfl⟩|⟨c2,rfl⟩
    all_goals
     simp (disch:=first|omega|simp) [*];refine Xv c0.out ?_;rintro _ rfl;rw[c1];simp (disch:=first|omega|simp) [*];refine ih.out (M.rows.length-(k+1)) _ _ (by omega) ⟨k+1,by omega,rfl,rfl,λe' c6=>?_,by simp[*]⟩;rw[HT.out] at c6;rcases W9.1 c6 with h|h
     .exact b0.out e' h
     grind
  .rcases a6 with⟨c2,rfl⟩|⟨c2,rfl⟩
   all_goals
    have A:D2 M=1:=by rw[a5.out,if_neg (λh=>e1 (h row HM.out).1)]
    rw[A];simp (disch:=first|omega|simp) [*];exact⟨W5 n,λb D=>Ad D⟩
 .have e0:¬(k:Int)<(M.rows.length:Int):=by omega
  have e5:k=M.rows.length:=by omega
  have A:D2 M=0:=by
   rw[a5.out,if_pos];have h0:=b0.out;grind
  rw[A];clear e5;simp (disch:=first|omega|simp) [*];exact⟨W5 n,λb D=>Ad D⟩
def Ci(M:Aw)(s i:Int):Int×Int:=if s<0 then (-1,-1) else (M.rows.getD s.toNat []).getD i.toNat (-1,-1)
def Bc(M:Aw):Int->Wd->Wd
 | _,[]=>[]
 | s,i::w=>(Ci M s i).2::Bc M (Ci M s i).1 w
def Fb(M:Aw):Int->Wd->Int
 | s,[]=>s
 | s,i::w=>Fb M (Ci M s i).1 w
theorem K1:∀(w:Wd)(s:Int),(Bc M s w).length=w.length
 | [],_=>rfl
 | _::w,s=>by unfold Bc;rw[Xk,Xk,K1 w]
theorem Va:∀(a b:Wd)(s:Int),Bc M s (a++b)=Bc M s a++Bc M (Fb M s a) b
 | [],_,_=>rfl
 | i::a,b,s=>by
  show (Ci M s i).2::Bc M (Ci M s i).1 (a++b)=_;rw[Va a b];rfl
theorem Vb:∀(a b:Wd)(s:Int),Fb M s (a++b)=Fb M (Fb M s a) b
 | [],_,_=>rfl
 | i::a,b,s=>Vb a b _
def N7(M:Aw)(s:Int):Prop:=s = -1\/∃k:Nat,s=k/\k<M.rows.length
theorem Vc{e:Int×Int}(h:Db M.rows.length M.out e=true):N7 M e.1 /\ -1<=e.2/\(e.2 = -1\/e.2<M.out)/\(e.2 = -1->e.1 = -1):=by
 unfold Db at h;rcases Bool.or_eq_true_iff.1 h with h|h
 .have h:=of_decide_eq_true h;subst h;exact⟨.inl rfl,by decide,.inl rfl,λ_=>rfl⟩
 .simp only[W1,decide_eq_true_eq] at h;exact⟨.inr ⟨e.1.toNat,by omega,by omega⟩,by omega,.inr h.2.2.2,λA=>by omega⟩
theorem a4k(h:M.ok){k:Nat}{i:Int}(A:k<M.rows.length)(D:0<=i)(Q:i<M.inp):∃(hi:i.toNat<(M.rows[k]).length),Ci M k i=(M.rows[k])[i.toNat]/\Db M.rows.length M.out (Ci M k i)=true:=by
 have U:=h.2.2.2.2.2.2 _ (W2 A);have hi:i.toNat<(M.rows[k]).length:=by omega
 have e:Ci M k i=(M.rows[k])[i.toNat]:=by
  unfold Ci;grind
 grind
theorem Vd{s i:Int}(h:s<0):Ci M s i=(-1,-1):=if_pos h
theorem Ve(h:M.ok){s i:Int}(A:N7 M s)(D:0<=i)(Q:i<M.inp):Db M.rows.length M.out (Ci M s i)=true:=by
 rcases A with rfl|⟨k,rfl,U⟩
 .rfl
 .exact(a4k h U D Q).2.2
structure d9a (g:Gb) (n:Nat) (rv:AV) (k i:Nat) (e:Int×Int) (a off a2 off2:Nat) (q:AV):Prop where
 an:a<n
 an2:a2<n
 ia:∀{H:Mem}{ev:Ev}{o:Oper}{t:TypeId},iaS prog H ev o t (some (none,1)) (some rv) (some (.li (k:Int)))=.val (.ptr a (off+k)) H
 cell:A5 (some (false,1)) (g a) (off+k)=some q
 ia2:∀{H:Mem}{ev:Ev}{o:Oper}{t:TypeId},iaS prog H ev o t (some (none,2)) (some q) (some (.li (i:Int)))=.val (.ptr a2 (off2+i*2)) H
 cell2:A5 (some (true,2)) (g a2) (off2+i*2)=some (.agg [.li e.1,.li e.2])
theorem Cy.edge{g:Gb}{n:Nat}{a0 b0 Q:AV}(h:Cy g n M [a0,b0,Q]){k:Nat}(U:k<M.rows.length){i:Nat}(hi:i<(M.rows[k]).length):∃a off A D q,d9a g n Q k i (M.rows[k])[i] a off A D q:=by
 obtain⟨sv,svs,e,Z,hs⟩:=h;injection e with _ e;injection e with _ e;injection e with e _;subst e;have a1:k<svs.length:=by rw[Z.len];grind
 obtain⟨a,off,ha,a5,a3⟩:=hs.ia (P:=prog) U 1;simp only[Xj] at a3;have hc:=a5.one (k:=k) (s:=1) a1;obtain⟨A,D,a6,a7,a8⟩:=X4 (P:=prog) (Z.at k U a1) hi 2;have a4:=a7.agg (k:=i*2) (s:=2) (by grind[rowC_len]);rw[rowC_at _ i hi] at a4;exact⟨a,off,A,D,svs[k],ha,a6,a3,hc,a8,a4⟩
theorem d9b(hM:M.ok)(s i:Int)(hs:N7 M s)(h0:0<=i)(h1:i<M.inp)(g:Gb)(n:Nat)(Q:List AV)(A:Cy g n M Q):
  WC 0 prog 97 [.agg Q,.li s,.li i] ⟨.fn g,n⟩ λr=>∃g' n',r=.ret (.agg [.lit (.int .i64 (Ci M s i).1),.lit (.int .i64 (Ci M s i).2)]) ⟨.fn g',n'⟩/\n<=n'/\∀b,b<n->g' b=g b:=by
 obtain⟨U,rfl,a1⟩:=A.one;have a3:allOne [.li M.inp,.li M.out,U]=true:=by simp_all
 have HR:=Xu A;clear A;rcases hs with rfl|⟨k,rfl,Z⟩
 .rw[Vd (by decide)];refine ent [] func97 ?_;simp (disch:=first|omega|simp) [*];grind[Ak]
 .obtain⟨hi,he,_⟩:=a4k hM Z h0 h1;obtain⟨a,off,a2,a0,q,D⟩:=HR.out.edge Z hi;rw[<- he] at D;obtain⟨j,rfl⟩:∃j:Nat,i=j:=⟨i.toNat,by omega⟩;have h:=Xu D;clear D he;have a4:=h.out.an;have a5:=h.out.an2;have a6:∀{H:Mem}{ev:Ev}{o:Oper}{t:TypeId},iaS prog H ev o t (some (none,1)) (some U) (some (.li (k:Int)))=.val (.ptr a (off+k)) H:=λ{H ev o t}=>h.out.ia;have hc:=h.out.cell;have a7:∀{H:Mem}{ev:Ev}{o:Oper}{t:TypeId},iaS prog H ev o t (some (none,2)) (some q) (some (.li (j:Int)))=.val (.ptr a2 (a0+j*2)) H:=λ{H ev o t}=>h.out.ia2;have a8:A5 (some (true,2)) (g a2) (a0+j*2)=_:=h.out.cell2;have a9:¬(k:Int)<0:=by omega
  clear h;generalize (Ci M k j).1=x at *;generalize (Ci M k j).2=y at *;refine ent [] func97 ?_;simp (disch:=first|omega|simp) [*];grind[Ak]
theorem Bv{A:Type}{l:List A}{k:Nat}(h:k<l.length):l.take (k+1)=l.take k++[l[k]]:=by simp
def D8(g:Gb)(lo n:Nat)(w:Wd)(sv:AV):Prop:=∃gk:Gb,(∀a z,gk a=some z->g a=some z/\lo<=a/\a<n)/\Al gk n w sv
theorem D8.rep{g:Gb}{lo n:Nat}{sv:AV}(h:D8 g lo n w sv):Al g n w sv:=
 let ⟨_,A,D⟩:=h;Xz (Wy _) (λa z _ Q=>(A a z Q).1) D
theorem D8.keep{g:Gb}{lo lo' n n': Nat}{sv:AV}(h:D8 g lo n w sv)(Z:lo'<=lo)(D:n<=n')(hg:∀a,lo<=a->a<n->g' a=g a):D8 g' lo' n' w sv:=by
 obtain⟨Q,h1,U⟩:=h;refine⟨Q,λa z A=>?_,Xz D (λa z _ A=>A) U⟩;grind
theorem A6.fresh{g:Gb}{lo n B len:Nat}{sv:AV}(h:A6 g lo n B sv len 1 (wdC w))(A:len=w.length):D8 g lo n w sv:=by
 subst A;refine⟨_,λa z D=>?_,h.slice⟩;grind
theorem Gv(w:Wd)(x:Int):wdC (w++[x])=wdC w++[.li x]:=by simp[wdC]
end Go.Ai
