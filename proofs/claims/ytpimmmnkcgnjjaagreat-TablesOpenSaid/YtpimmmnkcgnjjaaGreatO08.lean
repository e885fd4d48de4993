/- A small verified interpreter over names, its proofs, and what was proved with it. No condition. -/
import Derived.Test.YtpimmmnkcgnjjaaGreatRows
import Derived.Test.YtpimmmnkcgnjjaaGreatO05
set_option linter.all false
set_option linter.deprecated false
section
namespace Go.Ai
open Go.Proofs Go.Proofs.Tryz
set_option maxRecDepth 100000
attribute [simp] Tryz.underlying0 Tryz.underlying1 Tryz.underlying2 Tryz.underlying3 Tryz.underlying4 Tryz.underlying5 Tryz.underlying6 Tryz.underlying7 Tryz.underlying8 Tryz.underlying9 Tryz.underlying10 Tryz.underlying11 Tryz.underlying12 Tryz.underlying13 Tryz.underlying14 Tryz.underlying15 Tryz.underlying16 Tryz.underlying17 Tryz.underlying18 Tryz.underlying19 Tryz.underlying20 Tryz.underlying21 Tryz.underlying22 Tryz.underlying23 Tryz.underlying24 Tryz.underlying25 Tryz.underlying26 Tryz.underlying27 Tryz.underlying28 Tryz.underlying29 Tryz.underlying30 Tryz.underlying31 Tryz.underlying32 Tryz.underlying33 Tryz.underlying34 Tryz.underlying35 Tryz.underlying36 Tryz.underlying37 Tryz.underlying38 Tryz.underlying39 Tryz.underlying40 Tryz.underlying41 Tryz.underlying42 Tryz.underlying43 Tryz.underlying44 Tryz.underlying45 Tryz.underlying46 Tryz.underlying47 Tryz.underlying48 Tryz.underlying49 Tryz.underlying50 Tryz.underlying51 Tryz.underlying52 Tryz.underlying53 Tryz.underlying54 Tryz.underlying55 Tryz.underlying56 Tryz.underlying57 Tryz.underlying58 Tryz.underlying59 Tryz.underlying60 Tryz.underlying61 Tryz.underlying62 Tryz.underlying63 Tryz.underlying64 Tryz.underlying65 Tryz.underlying66 Tryz.underlying67 Tryz.underlying68 Tryz.underlying69 Tryz.underlying70 Tryz.underlying71 Tryz.underlying72 Tryz.underlying73 Tryz.underlying74 Tryz.underlying75 Tryz.underlying76 Tryz.underlying77 Tryz.underlying78 Tryz.underlying79 Tryz.underlying80 Tryz.underlying81 Tryz.underlying82 Tryz.underlying83 Tryz.underlying84 Tryz.underlying85 Tryz.underlying86 Tryz.underlying87 Tryz.underlying88 Tryz.underlying89 Tryz.underlying90 Tryz.underlying91 Tryz.underlying92 Tryz.underlying93 Tryz.underlying94 Tryz.underlying95 Tryz.underlying96 Tryz.underlying97 Tryz.underlying98 Tryz.underlying99 Tryz.underlying100 Tryz.underlying101 Tryz.underlying102 Tryz.underlying103 Tryz.underlying104 Tryz.underlying105 Tryz.underlying106 Tryz.underlying107 Tryz.underlying108 Tryz.underlying109 Tryz.underlying110 Tryz.underlying111 Tryz.underlying112 Tryz.underlying113 Tryz.underlying114 Tryz.underlying115 Tryz.underlying116 Tryz.underlying117 Tryz.underlying118 Tryz.underlying119 Tryz.underlying120 Tryz.underlying121 Tryz.underlying122 Tryz.underlying123 Tryz.underlying124 Tryz.underlying125 Tryz.underlying126 Tryz.underlying127 Tryz.underlying128 Tryz.underlying129 Tryz.underlying130 Tryz.underlying131 Tryz.underlying132 Tryz.underlying133 Tryz.underlying134 Tryz.underlying135 Tryz.underlying136 Tryz.underlying137 Tryz.underlying138 Tryz.underlying139 Tryz.underlying140 Tryz.underlying141 Tryz.underlying142 Tryz.underlying143 Tryz.underlying144 Tryz.underlying145 Tryz.underlying146 Tryz.underlying147 Tryz.underlying148 Tryz.underlying149 Tryz.underlying150 Tryz.underlying151 Tryz.underlying152 Tryz.underlying153 Tryz.underlying154 Tryz.underlying155 Tryz.underlying156 Tryz.underlying157 Tryz.underlying158 Tryz.underlying159 Tryz.underlying160 Tryz.underlying161 Tryz.underlying162 Tryz.underlying163 Tryz.underlying164 Tryz.underlying165 Tryz.underlying166 Tryz.underlying167 Tryz.underlying168 Tryz.underlying169 Tryz.underlying170 Tryz.underlying171 Tryz.underlying172 Tryz.underlying173 Tryz.underlying174 Tryz.underlying175 Tryz.underlying176 Tryz.underlying177 Tryz.underlying178 Tryz.underlying179 Tryz.underlying180 Tryz.underlying181 Tryz.underlying182 Tryz.underlying183 Tryz.underlying184 Tryz.underlying185 Tryz.underlying186 Tryz.underlying187 Tryz.underlying188 Tryz.underlying189 Tryz.underlying190 Tryz.underlying191 Tryz.underlying192 Tryz.underlying193 Tryz.underlying194 Tryz.underlying195 Tryz.underlying196 Tryz.underlying197 Tryz.underlying198 Tryz.underlying199 Tryz.underlying200 Tryz.underlying201 Tryz.underlying202 Tryz.underlying203 Tryz.underlying204 Tryz.underlying205 Tryz.underlying206 Tryz.underlying207 Tryz.underlying208 Tryz.underlying209 Tryz.underlying210 Tryz.underlying211 Tryz.underlying212 Tryz.underlying213 Tryz.underlying214 Tryz.underlying215 Tryz.underlying216 Tryz.underlying217 Tryz.underlying218 Tryz.underlying219 Tryz.underlying220 Tryz.underlying221 Tryz.underlying222 Tryz.underlying223 Tryz.underlying224
theorem hb5:Aq prog 5=true:=by kernel_rfl
theorem hb6:Aq prog 6=true:=by kernel_rfl
theorem hb13:Aq prog 13=true:=by kernel_rfl
theorem hb16:Aq prog 16=true:=by kernel_rfl
theorem hb18:Aq prog 18=true:=by kernel_rfl
theorem hb20:Aq prog 20=true:=by kernel_rfl
theorem hb25:Aq prog 25=true:=by kernel_rfl
theorem hb28:Aq prog 28=true:=by kernel_rfl
theorem hb29:Aq prog 29=true:=by kernel_rfl
theorem hb30:Aq prog 30=true:=by kernel_rfl
theorem hb31:Aq prog 31=true:=by kernel_rfl
theorem hb32:Aq prog 32=true:=by kernel_rfl
theorem hb33:Aq prog 33=true:=by kernel_rfl
theorem hb34:Aq prog 34=true:=by kernel_rfl
theorem hb35:Aq prog 35=true:=by kernel_rfl
theorem hb37:Aq prog 37=true:=by kernel_rfl
theorem hb42:Aq prog 42=true:=by kernel_rfl
theorem hb43:Aq prog 43=true:=by kernel_rfl
theorem hb44:Aq prog 44=true:=by kernel_rfl
theorem hb45:Aq prog 45=true:=by kernel_rfl
theorem hb51:Aq prog 51=true:=by kernel_rfl
theorem hb52:Aq prog 52=true:=by kernel_rfl
theorem hb59:Aq prog 59=true:=by kernel_rfl
theorem hb60:Aq prog 60=true:=by kernel_rfl
theorem hb61:Aq prog 61=true:=by kernel_rfl
theorem hb62:Aq prog 62=true:=by kernel_rfl
theorem hb63:Aq prog 63=true:=by kernel_rfl
theorem hb64:Aq prog 64=true:=by kernel_rfl
theorem hb65:Aq prog 65=true:=by kernel_rfl
theorem hb71:Aq prog 71=true:=by kernel_rfl
theorem hb73:Aq prog 73=true:=by kernel_rfl
theorem hb74:Aq prog 74=true:=by kernel_rfl
theorem hb75:Aq prog 75=true:=by kernel_rfl
theorem hb77:Aq prog 77=true:=by kernel_rfl
theorem hb78:Aq prog 78=true:=by kernel_rfl
theorem hb79:Aq prog 79=true:=by kernel_rfl
theorem hb80:Aq prog 80=true:=by kernel_rfl
theorem hb81:Aq prog 81=true:=by kernel_rfl
theorem hb82:Aq prog 82=true:=by kernel_rfl
theorem hb83:Aq prog 83=true:=by kernel_rfl
theorem hb84:Aq prog 84=true:=by kernel_rfl
theorem hb85:Aq prog 85=true:=by kernel_rfl
theorem hb86:Aq prog 86=true:=by kernel_rfl
theorem hb87:Aq prog 87=true:=by kernel_rfl
theorem hb88:Aq prog 88=true:=by kernel_rfl
theorem hb89:Aq prog 89=true:=by kernel_rfl
theorem hb90:Aq prog 90=true:=by kernel_rfl
theorem hb91:Aq prog 91=true:=by kernel_rfl
theorem hb93:Aq prog 93=true:=by kernel_rfl
theorem hb94:Aq prog 94=true:=by kernel_rfl
theorem hb96:Aq prog 96=true:=by kernel_rfl
theorem hb97:Aq prog 97=true:=by kernel_rfl
theorem hb108:Aq prog 108=true:=by kernel_rfl
theorem hb109:Aq prog 109=true:=by kernel_rfl
theorem hb111:Aq prog 111=true:=by kernel_rfl
theorem hb112:Aq prog 112=true:=by kernel_rfl
theorem hb113:Aq prog 113=true:=by kernel_rfl
theorem hb114:Aq prog 114=true:=by kernel_rfl
theorem hb124:Aq prog 124=true:=by kernel_rfl
theorem hb125:Aq prog 125=true:=by kernel_rfl
theorem hb126:Aq prog 126=true:=by kernel_rfl
theorem hb139:Aq prog 139=true:=by kernel_rfl
theorem hb140:Aq prog 140=true:=by kernel_rfl
theorem hb141:Aq prog 141=true:=by kernel_rfl
theorem hb143:Aq prog 143=true:=by kernel_rfl
theorem hb144:Aq prog 144=true:=by kernel_rfl
theorem hb158:Aq prog 158=true:=by kernel_rfl
attribute [simp] hb5 hb6 hb13 hb16 hb18 hb20 hb25 hb28 hb29 hb30 hb31 hb32 hb33 hb34 hb35 hb37 hb42 hb43 hb44 hb45 hb51 hb52 hb59 hb60 hb61 hb62 hb63 hb64 hb65 hb71 hb73 hb74 hb75 hb77 hb78 hb79 hb80 hb81 hb82 hb83 hb84 hb85 hb86 hb87 hb88 hb89 hb90 hb91 hb93 hb94 hb96 hb97 hb108 hb109 hb111 hb112 hb113 hb114 hb124 hb125 hb126 hb139 hb140 hb141 hb143 hb144 hb158
theorem ag_3:Cf prog 3=some (false,1):=by kernel_rfl
theorem ag_84:Cf prog 84=some (true,2):=by kernel_rfl
theorem ag_65:Cf prog 65=some (false,1):=by kernel_rfl
theorem ag_97:Cf prog 97=some (true,2):=by kernel_rfl
theorem ag_22:Cf prog 22=some (false,1):=by kernel_rfl
theorem ag_98:Cf prog 98=some (false,1):=by kernel_rfl
theorem ag_23:Cf prog 23=some (false,1):=by kernel_rfl
theorem ag_49:Cf prog 49=some (true,3):=by kernel_rfl
theorem ag_52:Cf prog 52=some (false,1):=by kernel_rfl
theorem ag_54:Cf prog 54=some (true,3):=by kernel_rfl
theorem ag_25:Cf prog 25=some (true,3):=by kernel_rfl
theorem ag_27:Cf prog 27=some (true,7):=by kernel_rfl
theorem ag_4:Cf prog 4=some (false,1):=by kernel_rfl
theorem ag_42:Cf prog 42=some (false,1):=by kernel_rfl
theorem ag_39:Cf prog 39=some (false,1):=by kernel_rfl
theorem ag_38:Cf prog 38=some (true,5):=by kernel_rfl
theorem ag_5:Cf prog 5=some (false,1):=by kernel_rfl
theorem ag_41:Cf prog 41=some (true,9):=by kernel_rfl
theorem ag_113:Cf prog 113=some (false,1):=by kernel_rfl
theorem ag_36:Cf prog 36=some (false,1):=by kernel_rfl
theorem ag_44:Cf prog 44=some (true,12):=by kernel_rfl
theorem zl_3:Cl prog 3=some [.li 0]:=by kernel_rfl
theorem zl_97:Cl prog 97=some [.li 0,.li 0]:=by kernel_rfl
theorem zl_84:Cl prog 84=some [.nl,.nl]:=by kernel_rfl
theorem zl_65:Cl prog 65=some [.nl]:=by kernel_rfl
theorem zl_27:Cl prog 27=some [.li 0,.li 0,.nl,.nl,.li 0,.li 0,.nl]:=by kernel_rfl
theorem zl_54:Cl prog 54=some [.li 0,.li 0,.nl]:=by kernel_rfl
theorem zl_49:Cl prog 49=some [.li 0,.li 0,.nl]:=by kernel_rfl
theorem zl_22:Cl prog 22=some [.nl]:=by kernel_rfl
theorem zl_25:Cl prog 25=some [.li 0,.li 0,.nl]:=by kernel_rfl
theorem fo_27_0:Cm prog 27 0=some 0:=by kernel_rfl
theorem fo_27_2:Cm prog 27 2=some 2:=by kernel_rfl
theorem fo_84_1:Cm prog 84 1=some 1:=by kernel_rfl
theorem fo_84_0:Cm prog 84 0=some 0:=by kernel_rfl
theorem fo_97_0:Cm prog 97 0=some 0:=by kernel_rfl
theorem fo_97_1:Cm prog 97 1=some 1:=by kernel_rfl
theorem fo_49_2:Cm prog 49 2=some 2:=by kernel_rfl
theorem fo_49_1:Cm prog 49 1=some 1:=by kernel_rfl
theorem fo_25_2:Cm prog 25 2=some 2:=by kernel_rfl
theorem fo_54_0:Cm prog 54 0=some 0:=by kernel_rfl
theorem fo_54_2:Cm prog 54 2=some 2:=by kernel_rfl
theorem fo_49_0:Cm prog 49 0=some 0:=by kernel_rfl
theorem fo_54_1:Cm prog 54 1=some 1:=by kernel_rfl
theorem fo_27_4:Cm prog 27 4=some 4:=by kernel_rfl
theorem fo_25_1:Cm prog 25 1=some 1:=by kernel_rfl
theorem fo_25_0:Cm prog 25 0=some 0:=by kernel_rfl
theorem fo_27_3:Cm prog 27 3=some 3:=by kernel_rfl
theorem fo_41_1:Cm prog 41 1=some 5:=by kernel_rfl
theorem fo_41_0:Cm prog 41 0=some 0:=by kernel_rfl
theorem fo_27_1:Cm prog 27 1=some 1:=by kernel_rfl
theorem fo_38_3:Cm prog 38 3=some 3:=by kernel_rfl
theorem fo_38_4:Cm prog 38 4=some 4:=by kernel_rfl
theorem fo_38_2:Cm prog 38 2=some 2:=by kernel_rfl
theorem fo_38_1:Cm prog 38 1=some 1:=by kernel_rfl
theorem fo_38_0:Cm prog 38 0=some 0:=by kernel_rfl
theorem fo_44_3:Cm prog 44 3=some 11:=by kernel_rfl
theorem fo_44_2:Cm prog 44 2=some 10:=by kernel_rfl
theorem fo_44_1:Cm prog 44 1=some 9:=by kernel_rfl
theorem fo_44_0:Cm prog 44 0=some 0:=by kernel_rfl
theorem es_52:Cd prog 52=some (none,2):=by kernel_rfl
theorem es_22:Cd prog 22=some (none,1):=by kernel_rfl
theorem es_98:Cd prog 98=some (none,2):=by kernel_rfl
theorem es_65:Cd prog 65=some (none,1):=by kernel_rfl
theorem es_23:Cd prog 23=some (none,1):=by kernel_rfl
theorem es_39:Cd prog 39=some (none,1):=by kernel_rfl
theorem es_42:Cd prog 42=some (none,1):=by kernel_rfl
theorem es_36:Cd prog 36=some (none,1):=by kernel_rfl
theorem is_102:b6j prog 102=true:=by kernel_rfl
theorem bi_97:b0g prog 97=some ([.li 0,.li 0],[(0,1),(1,1)]):=by kernel_rfl
theorem bi_49:b0g prog 49=some ([.li 0,.li 0,.nl],[(0,1),(1,1),(2,1)]):=by kernel_rfl
theorem bi_54:b0g prog 54=some ([.li 0,.li 0,.nl],[(0,1),(1,1),(2,1)]):=by kernel_rfl
theorem bi_84:b0g prog 84=some ([.nl,.nl],[(0,1),(1,1)]):=by kernel_rfl
theorem bi_25:b0g prog 25=some ([.li 0,.li 0,.nl],[(0,1),(1,1),(2,1)]):=by kernel_rfl
theorem bi_27:b0g prog 27=some ([.li 0,.li 0,.nl,.nl,.li 0,.li 0,.nl],[(0,1),(1,1),(2,1),(3,1),(4,3)]):=by kernel_rfl
theorem bs_65:bsI prog 65=some ([.li 0],1):=by kernel_rfl
theorem bs_98:bsI prog 98=some ([.li 0,.li 0],2):=by kernel_rfl
theorem bs_23:bsI prog 23=some ([.nl],1):=by kernel_rfl
theorem bs_22:bsI prog 22=some ([.nl],1):=by kernel_rfl
theorem bs_52:bsI prog 52=some ([.nl,.nl],2):=by kernel_rfl
theorem ap_65_65:apI prog 65 65=some (1,8):=by kernel_rfl
theorem ap_98_98:apI prog 98 98=some (2,16):=by kernel_rfl
theorem ap_23_23:apI prog 23 23=some (1,24):=by kernel_rfl
theorem ap_22_22:apI prog 22 22=some (1,24):=by kernel_rfl
theorem ap_52_52:apI prog 52 52=some (2,48):=by kernel_rfl
attribute [simp] ag_3 ag_84 ag_65 ag_97 ag_22 ag_98 ag_23 ag_49 ag_52 ag_54 ag_25 ag_27 ag_4 ag_42 ag_39 ag_38 ag_5 ag_41 ag_113 ag_36 ag_44 zl_3 zl_97 zl_84 zl_65 zl_27 zl_54 zl_49 zl_22 zl_25 fo_27_0 fo_27_2 fo_84_1 fo_84_0 fo_97_0 fo_97_1 fo_49_2 fo_49_1 fo_25_2 fo_54_0 fo_54_2 fo_49_0 fo_54_1 fo_27_4 fo_25_1 fo_25_0 fo_27_3 fo_41_1 fo_41_0 fo_27_1 fo_38_3 fo_38_4 fo_38_2 fo_38_1 fo_38_0 fo_44_3 fo_44_2 fo_44_1 fo_44_0 es_52 es_22 es_98 es_65 es_23 es_39 es_42 es_36 is_102 bi_97 bi_49 bi_54 bi_84 bi_25 bi_27 bs_65 bs_98 bs_23 bs_22 bs_52 ap_65_65 ap_98_98 ap_23_23 ap_22_22 ap_52_52
theorem gsize:prog.globals.size=0:=by kernel_rfl
end Go.Ai
end
section
namespace Go.Ai
def pl16:List (Nat×List It):=[(11,[.run 0,.run 1,.run 2,.run 3,.run 4,.run 5,.run 6,.run 7,.run 8,.run 9,.run 10,.run 11,.run 12,.run 13,.run 14,.run 15]),(12,[.run 0,.run 1,.mk 2,.run 3,.run 5,.run 6,.run 7,.run 8,.run 9,.run 10,.run 11,.run 12,.run 13,.mk 14,.gate [12,9,6,1] [2],.run 4,.gate [12,9,6,1] [14],.run 15,.gate [1] [],.run 16,.run 17,.run 18]),(16,[.run 0,.run 1,.run 2,.run 3,.run 4,.run 5,.run 6,.run 7,.run 8]),(26,[.mk 0,.run 1,.run 2,.run 3,.run 4,.run 6,.run 7,.run 8,.run 9,.run 10,.run 5,.gate [10,7] [],.run 11,.run 12]),(27,[.run 0,.run 1,.run 2,.run 3,.run 4,.run 5,.run 6,.mk 7,.gate [1] [],.run 8,.run 9,.run 10])]
theorem pl16_at_11:planAt pl16 11=[.run 0,.run 1,.run 2,.run 3,.run 4,.run 5,.run 6,.run 7,.run 8,.run 9,.run 10,.run 11,.run 12,.run 13,.run 14,.run 15]:=(rfl)
attribute [simp] pl16_at_11
theorem pl16_at_12:planAt pl16 12=[.run 0,.run 1,.mk 2,.run 3,.run 5,.run 6,.run 7,.run 8,.run 9,.run 10,.run 11,.run 12,.run 13,.mk 14,.gate [12,9,6,1] [2],.run 4,.gate [12,9,6,1] [14],.run 15,.gate [1] [],.run 16,.run 17,.run 18]:=(rfl)
attribute [simp] pl16_at_12
theorem pl16_at_16:planAt pl16 16=[.run 0,.run 1,.run 2,.run 3,.run 4,.run 5,.run 6,.run 7,.run 8]:=(rfl)
attribute [simp] pl16_at_16
theorem pl16_at_26:planAt pl16 26=[.mk 0,.run 1,.run 2,.run 3,.run 4,.run 6,.run 7,.run 8,.run 9,.run 10,.run 5,.gate [10,7] [],.run 11,.run 12]:=(rfl)
attribute [simp] pl16_at_26
theorem pl16_at_27:planAt pl16 27=[.run 0,.run 1,.run 2,.run 3,.run 4,.run 5,.run 6,.mk 7,.gate [1] [],.run 8,.run 9,.run 10]:=(rfl)
attribute [simp] pl16_at_27
def pl18:List (Nat×List It):=[(9,[.run 0,.run 1,.run 2,.run 3,.run 4,.run 5,.run 6,.run 7,.run 8,.run 9,.run 10])]
theorem pl18_at_9:planAt pl18 9=[.run 0,.run 1,.run 2,.run 3,.run 4,.run 5,.run 6,.run 7,.run 8,.run 9,.run 10]:=(rfl)
attribute [simp] pl18_at_9
def pl20:List (Nat×List It):=[(16,[.run 0,.run 1,.run 2,.run 3,.run 4,.run 5,.run 6,.run 7,.run 8,.run 9,.run 10,.run 11,.run 12,.mk 13,.gate [10] [],.run 14,.run 15])]
theorem pl20_at_16:planAt pl20 16=[.run 0,.run 1,.run 2,.run 3,.run 4,.run 5,.run 6,.run 7,.run 8,.run 9,.run 10,.run 11,.run 12,.mk 13,.gate [10] [],.run 14,.run 15]:=(rfl)
attribute [simp] pl20_at_16
def pl28:List (Nat×List It):=[(5,[.run 0,.run 1,.run 2,.run 3,.run 4,.run 5,.run 6,.run 7,.run 8,.gate [1] [],.run 9,.run 10,.run 11,.run 12,.run 13,.run 14])]
theorem pl28_at_5:planAt pl28 5=[.run 0,.run 1,.run 2,.run 3,.run 4,.run 5,.run 6,.run 7,.run 8,.gate [1] [],.run 9,.run 10,.run 11,.run 12,.run 13,.run 14]:=(rfl)
attribute [simp] pl28_at_5
def pl30:List (Nat×List It):=[(6,[.run 0,.run 1,.run 2,.gate [0] [],.run 3,.run 4])]
theorem pl30_at_6:planAt pl30 6=[.run 0,.run 1,.run 2,.gate [0] [],.run 3,.run 4]:=(rfl)
attribute [simp] pl30_at_6
def pl31:List (Nat×List It):=[(9,[.run 0,.run 1,.run 2,.run 3,.run 4,.run 5,.run 6,.mk 7,.run 8,.mk 9,.gate [6,5,3,1] [7],.run 10]),(15,[.run 0,.run 1,.run 2,.run 3,.run 4,.mk 5,.run 6,.gate [4,1] [],.run 7]),(19,[.run 0,.run 1,.run 2,.run 3,.run 4,.run 5,.run 6,.run 7,.run 8,.run 9,.mk 10,.gate [6,4,1] [],.run 11,.gate [6,4,1] [],.run 12,.run 13,.gate [4,1] [],.run 14])]
theorem pl31_at_9:planAt pl31 9=[.run 0,.run 1,.run 2,.run 3,.run 4,.run 5,.run 6,.mk 7,.run 8,.mk 9,.gate [6,5,3,1] [7],.run 10]:=(rfl)
attribute [simp] pl31_at_9
theorem pl31_at_15:planAt pl31 15=[.run 0,.run 1,.run 2,.run 3,.run 4,.mk 5,.run 6,.gate [4,1] [],.run 7]:=(rfl)
attribute [simp] pl31_at_15
theorem pl31_at_19:planAt pl31 19=[.run 0,.run 1,.run 2,.run 3,.run 4,.run 5,.run 6,.run 7,.run 8,.run 9,.mk 10,.gate [6,4,1] [],.run 11,.gate [6,4,1] [],.run 12,.run 13,.gate [4,1] [],.run 14]:=(rfl)
attribute [simp] pl31_at_19
def pl32:List (Nat×List It):=[(10,[.run 0,.run 1,.run 2,.run 3,.run 4,.run 5,.run 6,.run 7,.run 8,.run 9,.run 10,.run 11]),(11,[.run 0,.run 1,.run 3,.run 2,.run 4,.run 5,.run 6,.run 7,.run 8,.run 9,.run 10,.run 11,.run 12,.run 13,.run 14]),(22,[.run 0,.run 1,.run 2,.run 4,.run 5,.run 6,.run 7,.run 8,.run 9,.run 3,.run 10,.mk 11,.gate [9,6] [],.run 12,.run 13])]
theorem pl32_at_10:planAt pl32 10=[.run 0,.run 1,.run 2,.run 3,.run 4,.run 5,.run 6,.run 7,.run 8,.run 9,.run 10,.run 11]:=(rfl)
attribute [simp] pl32_at_10
theorem pl32_at_11:planAt pl32 11=[.run 0,.run 1,.run 3,.run 2,.run 4,.run 5,.run 6,.run 7,.run 8,.run 9,.run 10,.run 11,.run 12,.run 13,.run 14]:=(rfl)
attribute [simp] pl32_at_11
theorem pl32_at_22:planAt pl32 22=[.run 0,.run 1,.run 2,.run 4,.run 5,.run 6,.run 7,.run 8,.run 9,.run 3,.run 10,.mk 11,.gate [9,6] [],.run 12,.run 13]:=(rfl)
attribute [simp] pl32_at_22
def pl33:List (Nat×List It):=[(6,[.run 0,.run 1,.run 2,.run 3,.run 4,.run 5,.run 6,.run 7,.run 8,.run 9,.run 10,.run 11,.run 12]),(11,[.run 0,.run 1,.run 2,.run 3,.run 4,.run 5,.run 6,.run 7,.run 8,.run 9,.run 10,.run 11,.run 12,.run 13,.run 14,.run 15,.run 16])]
theorem pl33_at_6:planAt pl33 6=[.run 0,.run 1,.run 2,.run 3,.run 4,.run 5,.run 6,.run 7,.run 8,.run 9,.run 10,.run 11,.run 12]:=(rfl)
attribute [simp] pl33_at_6
theorem pl33_at_11:planAt pl33 11=[.run 0,.run 1,.run 2,.run 3,.run 4,.run 5,.run 6,.run 7,.run 8,.run 9,.run 10,.run 11,.run 12,.run 13,.run 14,.run 15,.run 16]:=(rfl)
attribute [simp] pl33_at_11
def pl35:List (Nat×List It):=[(5,[.run 0,.run 1,.run 2,.run 3,.run 4,.run 5,.run 6,.run 7,.run 8,.run 9,.run 10]),(6,[.run 0,.run 1,.run 2,.run 3,.run 4,.run 5,.run 6,.run 7,.run 8,.run 9,.run 10,.run 11])]
theorem pl35_at_5:planAt pl35 5=[.run 0,.run 1,.run 2,.run 3,.run 4,.run 5,.run 6,.run 7,.run 8,.run 9,.run 10]:=(rfl)
attribute [simp] pl35_at_5
theorem pl35_at_6:planAt pl35 6=[.run 0,.run 1,.run 2,.run 3,.run 4,.run 5,.run 6,.run 7,.run 8,.run 9,.run 10,.run 11]:=(rfl)
attribute [simp] pl35_at_6
def pl45:List (Nat×List It):=[(5,[.run 0,.run 1,.run 2,.run 3,.run 4,.run 5,.mk 7,.gate [5,0] [],.run 6,.gate [] [7],.run 8])]
theorem pl45_at_5:planAt pl45 5=[.run 0,.run 1,.run 2,.run 3,.run 4,.run 5,.mk 7,.gate [5,0] [],.run 6,.gate [] [7],.run 8]:=(rfl)
attribute [simp] pl45_at_5
def pl59:List (Nat×List It):=[(6,[.run 0,.run 1,.run 2,.run 3,.run 4,.run 5,.run 6,.run 7,.run 8]),(7,[.run 0,.run 1,.run 2,.run 3,.run 4,.run 5,.run 6,.mk 7,.gate [1] [],.run 8,.run 9,.run 10])]
theorem pl59_at_6:planAt pl59 6=[.run 0,.run 1,.run 2,.run 3,.run 4,.run 5,.run 6,.run 7,.run 8]:=(rfl)
attribute [simp] pl59_at_6
theorem pl59_at_7:planAt pl59 7=[.run 0,.run 1,.run 2,.run 3,.run 4,.run 5,.run 6,.mk 7,.gate [1] [],.run 8,.run 9,.run 10]:=(rfl)
attribute [simp] pl59_at_7
def pl61:List (Nat×List It):=[(8,[.run 0,.run 1,.run 2,.run 3,.run 4,.run 5,.run 6,.run 7,.run 8]),(10,[.run 0,.run 1,.run 2,.run 3,.run 4,.run 5,.run 6,.run 7,.run 8])]
theorem pl61_at_8:planAt pl61 8=[.run 0,.run 1,.run 2,.run 3,.run 4,.run 5,.run 6,.run 7,.run 8]:=(rfl)
attribute [simp] pl61_at_8
theorem pl61_at_10:planAt pl61 10=[.run 0,.run 1,.run 2,.run 3,.run 4,.run 5,.run 6,.run 7,.run 8]:=(rfl)
attribute [simp] pl61_at_10
def pl63:List (Nat×List It):=[(8,[.run 0,.run 1,.run 2,.run 3,.run 4,.run 5,.run 6,.run 7,.run 8,.run 9,.run 10,.mk 11,.gate [10,8,4,1] [],.run 12])]
theorem pl63_at_8:planAt pl63 8=[.run 0,.run 1,.run 2,.run 3,.run 4,.run 5,.run 6,.run 7,.run 8,.run 9,.run 10,.mk 11,.gate [10,8,4,1] [],.run 12]:=(rfl)
attribute [simp] pl63_at_8
def pl64:List (Nat×List It):=[(9,[.run 0,.run 1,.run 2,.run 3,.run 4,.run 5,.run 6,.run 7,.run 8,.run 9,.run 10,.run 11,.run 12])]
theorem pl64_at_9:planAt pl64 9=[.run 0,.run 1,.run 2,.run 3,.run 4,.run 5,.run 6,.run 7,.run 8,.run 9,.run 10,.run 11,.run 12]:=(rfl)
attribute [simp] pl64_at_9
def pl79:List (Nat×List It):=[(5,[.run 0,.run 1,.run 2,.run 3,.gate [0] [],.run 4,.run 5,.run 6,.run 7,.run 8,.run 9])]
theorem pl79_at_5:planAt pl79 5=[.run 0,.run 1,.run 2,.run 3,.gate [0] [],.run 4,.run 5,.run 6,.run 7,.run 8,.run 9]:=(rfl)
attribute [simp] pl79_at_5
def pl80:List (Nat×List It):=[(8,[.run 0,.run 1,.run 2,.run 3,.run 4,.run 5,.run 6,.run 7,.run 8]),(10,[.run 0,.run 1,.run 2,.run 3,.run 4,.run 5,.run 6,.run 7,.run 8])]
theorem pl80_at_8:planAt pl80 8=[.run 0,.run 1,.run 2,.run 3,.run 4,.run 5,.run 6,.run 7,.run 8]:=(rfl)
attribute [simp] pl80_at_8
theorem pl80_at_10:planAt pl80 10=[.run 0,.run 1,.run 2,.run 3,.run 4,.run 5,.run 6,.run 7,.run 8]:=(rfl)
attribute [simp] pl80_at_10
def pl81:List (Nat×List It):=[(7,[.run 0,.run 1,.run 2,.run 3,.run 4,.run 5,.run 6,.run 7,.run 8,.gate [0] []])]
theorem pl81_at_7:planAt pl81 7=[.run 0,.run 1,.run 2,.run 3,.run 4,.run 5,.run 6,.run 7,.run 8,.gate [0] []]:=(rfl)
attribute [simp] pl81_at_7
def pl84:List (Nat×List It):=[(5,[.run 0,.run 1,.run 4,.run 5,.run 6,.run 7,.run 8,.run 9,.run 2,.run 3,.run 10,.gate [9,6] [],.run 11])]
theorem pl84_at_5:planAt pl84 5=[.run 0,.run 1,.run 4,.run 5,.run 6,.run 7,.run 8,.run 9,.run 2,.run 3,.run 10,.gate [9,6] [],.run 11]:=(rfl)
attribute [simp] pl84_at_5
def pl86:List (Nat×List It):=[(4,[.run 0,.run 1,.run 2,.run 3,.run 4,.run 5,.run 6,.run 7,.run 8,.run 9,.run 10,.run 11])]
theorem pl86_at_4:planAt pl86 4=[.run 0,.run 1,.run 2,.run 3,.run 4,.run 5,.run 6,.run 7,.run 8,.run 9,.run 10,.run 11]:=(rfl)
attribute [simp] pl86_at_4
def pl90:List (Nat×List It):=[(1,[.run 0,.run 1,.run 2,.run 3,.run 4,.run 5,.run 6,.run 7,.run 8,.run 9,.run 10,.run 11,.run 12,.run 15,.run 16,.run 13,.run 14,.gate [16] [],.run 17,.run 18,.run 19,.run 20])]
theorem pl90_at_1:planAt pl90 1=[.run 0,.run 1,.run 2,.run 3,.run 4,.run 5,.run 6,.run 7,.run 8,.run 9,.run 10,.run 11,.run 12,.run 15,.run 16,.run 13,.run 14,.gate [16] [],.run 17,.run 18,.run 19,.run 20]:=(rfl)
attribute [simp] pl90_at_1
def pl111:List (Nat×List It):=[(6,[.run 0,.run 1,.run 2,.run 3,.run 4,.run 5,.run 6,.run 7,.run 8,.run 9,.run 10]),(11,[.run 0,.run 1,.run 2,.run 3,.run 4,.run 5,.run 6,.run 7,.run 8,.run 9,.run 10,.run 11])]
theorem pl111_at_6:planAt pl111 6=[.run 0,.run 1,.run 2,.run 3,.run 4,.run 5,.run 6,.run 7,.run 8,.run 9,.run 10]:=(rfl)
attribute [simp] pl111_at_6
theorem pl111_at_11:planAt pl111 11=[.run 0,.run 1,.run 2,.run 3,.run 4,.run 5,.run 6,.run 7,.run 8,.run 9,.run 10,.run 11]:=(rfl)
attribute [simp] pl111_at_11
def pl112:List (Nat×List It):=[(6,[.run 0,.run 1,.run 2,.run 3,.run 4,.run 5,.run 6,.run 7,.run 8])]
theorem pl112_at_6:planAt pl112 6=[.run 0,.run 1,.run 2,.run 3,.run 4,.run 5,.run 6,.run 7,.run 8]:=(rfl)
attribute [simp] pl112_at_6
end Go.Ai
end
section
namespace Go.Ai
open Go.Proofs Go.Proofs.Tryz
attribute [simp] gsize
theorem hG:0=Tryz.prog.globals.size:=gsize.symm
theorem ent {f:FuncId} {fn:Func} {c:Code} {args:List AV} {K:Ar→Prop} {H:Mem} (plan:List (Nat×List It)) (hf:Tryz.prog.funcs[f]?=some fn) (hb:fn.body=some c) (hd:(Au fn.ntmps c&&a5g Tryz.prog plan c)=true) (hl:Nat.ble args.length fn.ntmps=true) (h:Df Tryz.prog (orW noO (WC 0 Tryz.prog)) (LX 0 Tryz.prog fn.ntmps) plan c (a4w args) H (a4l Tryz.prog noO fn K)):WC 0 Tryz.prog f args H K:=WC.enterP (Ah _ _) hG plan hf hb hd (Nat.le_of_ble_eq_true hl) h
theorem rnd (plan:List (Nat×List It)) {n:Nat} {b:Code} {Q:Out→Prop} {fr:Fr} {H:Mem} (hd:(Au n b&&a5g Tryz.prog plan b)=true) (h:Df Tryz.prog (orW noO (WC 0 Tryz.prog)) (LX 0 Tryz.prog n) plan b fr H (a3t (fun fr H=>LX 0 Tryz.prog n b fr H Q) Q)):LX 0 Tryz.prog n b fr H Q:=LX.roundP (Ah _ _) hG plan hd h
attribute [simp] Tryz.results7 Tryz.results16 Tryz.results18 Tryz.results20 Tryz.results25 Tryz.results28 Tryz.results29 Tryz.results30 Tryz.results31 Tryz.results32 Tryz.results33 Tryz.results34 Tryz.results35 Tryz.results37 Tryz.results42 Tryz.results43 Tryz.results44 Tryz.results45 Tryz.results51 Tryz.results52 Tryz.results59 Tryz.results60 Tryz.results61 Tryz.results62 Tryz.results63 Tryz.results64 Tryz.results65 Tryz.results71 Tryz.results73 Tryz.results74 Tryz.results75 Tryz.results77 Tryz.results78 Tryz.results79 Tryz.results80 Tryz.results81 Tryz.results82 Tryz.results83 Tryz.results84 Tryz.results85 Tryz.results86 Tryz.results87 Tryz.results88 Tryz.results89 Tryz.results90 Tryz.results91 Tryz.results93 Tryz.results94 Tryz.results96 Tryz.results97 Tryz.results108 Tryz.results110 Tryz.results111 Tryz.results112 Tryz.results113 Tryz.results114 Tryz.results124 Tryz.results125 Tryz.results126 Tryz.results136 Tryz.results139 Tryz.results140 Tryz.results141 Tryz.results143 Tryz.results144 Tryz.results158
end Go.Ai
end
section
namespace Go.Ai
open Go.Proofs Go.Proofs.Tryz
set_option maxRecDepth 10000
set_option maxHeartbeats 40000000
def inW (w:Wd) (q:Int) : Bool:=w.all fun i=>decide (0<=i/\i<q)
end Go.Ai
end
section
namespace Go.Ai
open Go.Proofs Go.Proofs.Tryz
set_option maxRecDepth 10000
set_option maxHeartbeats 40000000
variable {g:Gb} {ts:Lq}
def RowsT (g:Gb) (n:Nat) (ts:Lq) (cs:List AV) : Prop :=
 cs.length=ts.length*2/\∀ (k:Nat) (h:k<ts.length),∃ s1 s2,cs[k*2]?=some s1/\cs[k*2+1]?=some s2/\Aj g n ts[k].1 s1/\Aj g n ts[k].2 s2
theorem RowsT.ext {g': Gb} {b b': Nat} {cs:List AV} (h:RowsT g b ts cs) (hb:b<=b') (hg:∀ a x,a<b->g a=some x->g' a=some x) : RowsT g' b' ts cs :=
 ⟨h.1,fun k hk=>let ⟨s1,s2,h1,h2,h3,h4⟩:=h.2 k hk;⟨s1,s2,h1,h2,Af.ext hb hg h3,Af.ext hb hg h4⟩⟩
def b0v (g:Gb) (n:Nat) (ts:Lq) (sv:AV) : Prop:=∃ cs,Af g n sv ts.length cs/\RowsT g n ts cs
theorem b0v.mono {g': Gb} {n n': Nat} {sv:AV} (h:b0v g n ts sv) (hn:n<=n') (hg:∀ a,a<n->g' a=g a) : b0v g' n' ts sv :=
 let ⟨cs,h1,h2⟩:=h;⟨cs,h1.mono hn hg,h2.ext hn fun a x ha hx=>(hg a ha).trans hx⟩
theorem d5d {cs:List AV} {k:Nat} {s1 s2:AV} (h1:cs[k]?=some s1) (h2:cs[k+1]?=some s2) : (cs.drop k).take 2=[s1,s2]:=by
 obtain⟨a1,b1⟩:=Eb.1 h1;obtain⟨a2,b2⟩:=Eb.1 h2;rw[El a1,El a2,b1,b2];rfl
structure AtT (g:Gb) (n:Nat) (sv:AV) (k:Nat) (t:List Int×Wd) (a off:Nat) (s1 s2:AV) : Prop where
 an:a<n
 ia:∀ {H:Mem} {ev:Ev} {o:Oper} {ty:TypeId},iaS prog H ev o ty (some (none,2)) (some sv) (some (.li (k:Int)))=.val (.ptr a (off+k*2)) H
 agg:Be (some (true,2)) (g a) (off+k*2)=some (.agg [s1,s2])
 c0:Be (some (false,1)) (g a) (off+k*2)=some s1
 c1:Be (some (false,1)) (g a) (off+k*2+1)=some s2
 r1:Aj g n t.1 s1
 r2:Aj g n t.2 s2
theorem b0v.at {n:Nat} {sv:AV} (h:b0v g n ts sv) {k:Nat} (hk:k<ts.length) : ∃ a off s1 s2,AtT g n sv k ts[k] a off s1 s2:=by
 obtain⟨cs,h1,h2⟩:=h;obtain⟨s1,s2,e1,e2,r1,r2⟩:=h2.2 k hk;obtain⟨a,off,ha,hrow,hia⟩:=Af.ia (P:=prog) h1 hk 2;have hl:=h2.1;refine⟨a,off,s1,s2,ha,hia,?_,?_,?_,r1,r2⟩
 ·rw[hrow.agg (k:=k*2) (s:=2) (by omega),d5d e1 e2]
 ·have:=hrow.one (k:=k*2) (s:=1) (by omega)
  rwa [(Eb.1 e1).2] at this
 ·have:=hrow.one (k:=k*2+1) (s:=1) (by omega);rw[(Eb.1 e2).2] at this;rw[g5k];exact this
def c6p (I O:Int) (ts:Lq) : Bool:=(ts.all fun t=>decide (t.1.length<=256)) && decide (I<=16) && decide (O<=16)
end Go.Ai
end
section
namespace Go.Ai
open Go.Proofs Go.Proofs.Tryz
set_option maxRecDepth 10000
set_option maxHeartbeats 40000000
def okR (O:Int) : Bool->Wd->Bool
 | _,[]=>true
 | p,o :: r=>!(decide (o < -1) || (decide (O<=o) || (p && decide (¬o = -1)))) && okR O (decide (o = -1)) r
def a1a (I O:Int) (t:List Int×Wd) : Bool:=decide (t.2.length=t.1.length) && inW t.1 I && okR O false t.2
end Go.Ai
end
section
namespace Go.Ai
open Go.Proofs Go.Proofs.Tryz
set_option maxRecDepth 10000
set_option maxHeartbeats 40000000
def d5e (I O:Int) (ts:Lq) : Int:=if c6p I O ts=false then 3 else if I<1\/O<1 then 1 else if ts.all (a1a I O)=true then 0 else 1
structure c6q (ts:Lq) : Prop where
 len:ts.length<=200
 w1:∀ t∈ts,t.1.length<=300
 w2:∀ t∈ts,t.2.length<=300
end Go.Ai
end
section
namespace Go.Ai
open Go.Proofs Go.Proofs.Tryz
set_option maxRecDepth 10000
set_option maxHeartbeats 40000000
theorem Aj.at {g:Gb} {n:Nat} {w:Wd} {q1:AV} (h:Aj g n w q1) {k:Nat} (hk:k<w.length) : ∃ a off,a<n/\(∀ {H:Mem} {ev:Ev} {o:Oper} {t:TypeId},iaS prog H ev o t (some (none,1)) (some q1) (some (.li (k:Int)))=.val (.ptr a (off+k)) H)/\Be (some (false,1)) (g a) (off+k)=some (.lit (.int .i64 w[k])):=by
 obtain⟨a2,off,ha2,hrow,hia⟩:=Af.ia (P:=prog) h hk 1;simp only[Ea] at hia;have hcell:=hrow.one (k:=k) (s:=1) (by rw[Bl];exact hk);rw[(Eb.1 (a7a w k hk)).2] at hcell;exact⟨a2,off,ha2,hia,hcell⟩
end Go.Ai
end
section
namespace Go.Ai
open Go.Proofs Go.Proofs.Tryz
set_option maxRecDepth 10000
set_option maxHeartbeats 40000000
def a8t (l:List Nat) : List AV:=l.map fun (c:Nat)=>.lit (.int .u16 (c:Int))
theorem d5f (st inp out:Nat) (part:Bool) (es:List Nat) (ev:AV) (g:Gb) (n:Nat) (hst:st<256) (hinp:inp<256) (hout:out<256) (hes:a8h g n ev es.length (a8t es)) (heb:∀ c∈es,c<65536) :
  WC 0 prog 20 [.agg [.lit (.int .u8 st),.lit (.int .u8 inp),.lit (.int .u8 out),.lit (.bool part),ev]] ⟨.fn g,n⟩ fun r=>∃ cs g' n',r=.ret (.agg cs) ⟨.fn g',n'⟩/\n<=n'/\(∀ b,b<n->g' b=g b)/\b3y g' n n' (Ce st inp out part es) cs:=by
 have h1e:=hes.one;have h1a:allOne [.lit (.int .u8 st),.lit (.int .u8 inp),.lit (.int .u8 out),.lit (.bool part),ev]=true:=by simp[h1e]
 have HE:=Aa.mk hes;have HB:=Aa.mk heb;clear hes heb;have hm1:(st:Int).tmod 6=((st % 6:Nat) : Int):=(g5i st 6).symm;have hm2:(inp:Int).tmod 3=((inp % 3:Nat) : Int):=(g5i inp 3).symm;have hm3:(out:Int).tmod 3=((out % 3:Nat) : Int):=(g5i out 3).symm;have HM:Aa (Ce st inp out part es=⟨1+((inp % 3:Nat) : Int),1+((out % 3:Nat) : Int),(List.range (1+st % 6)).map (a8i part es (1+st % 6) (1+inp % 3) (1+out % 3))⟩):=⟨rfl⟩;have ha:=Eo st (show 0<6 by omega);have hb:=Eo inp (show 0<3 by omega);have hc:=Eo out (show 0<3 by omega);generalize Ce st inp out part es=M at *;generalize st % 6=a at *;generalize inp % 3=b at *;generalize out % 3=c at *;refine ent pl20 func20 rfl (by decide +kernel) (by kernel_rfl) ?_
 iterate 6 all_goals try first|apply spl<;>intro h|simp (disch:=first|assumption|omega|simp) [*]
 refine LX.ind (fun m gf H'=>∃ (s n' : Nat) (g' gk:Gb) (A:Nat) (rv:AV) (svs:List AV),s<=1+a/\m=1+a-s/\H'=⟨.fn g',n'⟩/\n+1+1+1<=n'/\(∀ b,b<n->g' b=g b)/\g' n=some (.cells [.lit (.int .u8 st),.lit (.int .u8 inp),.lit (.int .u8 out),.lit (.bool part),ev] true 0)/\g' (n+1)=some (.cells [.li 0,.li 0,.nl] true 0)/\g' (n+1+1)=some (.cells [.li (1+(b:Int)),.li (1+(c:Int)),rv] true 0) /\
  Bc g' (n+1+1+1) n' A rv s 1 svs/\RowsE gk n' ((List.range s).map (a8i part es (1+a) (1+b) (1+c))) svs/\(∀ q z,gk q=some z->g' q=some z/\q≠A/\n+1+1+1<=q/\q<n')/\gf 1=some (.ptr n 0)/\gf 2=some (.ptr (n+1) 0)/\gf 3=some (.li (1+(a:Int)))/\gf 4=some (.ptr (n+1+1) 0)/\gf 5=some (.li s)) (m0:=1+a) ?_ ?_
 ·refine⟨0,_,_,fun _=>none,0,_,[],by omega,rfl,rfl,by omega,fun q hq=>?_,?_,?_,?_,.inl ⟨rfl,rfl,rfl⟩,rfl,fun q z h=>(by cases h),by simp[*]⟩
  ·simp (disch:=omega) only[Ad]
  ·simp (disch:=omega) only[Ad,Ag]
  ·simp (disch:=omega) only[Ad,Ag]
  ·simp (disch:=omega) only[Ad,Ag]
 rintro m gf H' ⟨s,n1,g1,gk,A,rv,svs,hs,rfl,rfl,hn1,hg1,e0,e1,e2,hA,hrows,hk,w1,w2,w3,w4,w5⟩ ih;have HG1:=Aa.mk hg1;have HA:=Aa.mk hA;have HK:=Aa.mk hk;have HR:=Aa.mk hrows;clear hg1 hA hk hrows;refine rnd pl20 (by decide +kernel) ?_;by_cases hlt:s<1+a
 ·have hltI:(s:Int)<1+(a:Int):=by omega
  iterate 6 all_goals try first|apply spl<;>intro h|simp (disch:=first|assumption|omega|simp) [*]
  refine LX.ind (fun m gf H'=>∃ (j n' : Nat) (g' : Gb) (B:Nat) (sv:AV) (rr:List AV),j<=1+b/\m=1+b-j/\H'=⟨.fn g',n'⟩/\n1<=n'/\(∀ q,q<n1->g' q=g1 q) /\
   Bc g' n1 n' B sv j 2 rr/\Aa (rr=Bz ((List.range j).map fun i=>b2d part (1+a) (1+c) (es.getD (s*(1+b)+i) 0)))/\gf 1=some (.ptr n 0)/\gf 2=some (.ptr (n+1) 0)/\gf 3=some (.li (1+(a:Int)))/\gf 4=some (.ptr (n+1+1) 0)/\gf 5=some (.li s)/\gf 6=some sv/\gf 7=some (.li j)) (m0:=1+b) ?_ ?_
  ·refine⟨0,_,_,0,_,_,by omega,rfl,rfl,by omega,fun q hq=>rfl,.inl ⟨rfl,rfl,rfl⟩,⟨rfl⟩,by simp[*]⟩
  rintro m gf H' ⟨j,n',g',B,sv,rr,hj,rfl,rfl,hn',hg',hB,hrr,v1,v2,v3,v4,v5,v6,v7⟩ ihj;have HG:=Aa.mk hg';have HBv:=Aa.mk hB;clear hg' hB;have f0:=(HG.out n (by omega)).trans e0;have f2:=(HG.out (n+1+1) (by omega)).trans e2;refine rnd pl20 (by decide +kernel) ?_;by_cases hjt:j<1+b
  ·have hjtI:(j:Int)<1+(b:Int):=by omega
   have hp:s*(1+b)<=15:=Dw (g3w (show s<=5 by omega) (show 1+b<=3 by omega)) (by omega);have hmul:(s:Int)*(1+(b:Int))=((s*(1+b) : Nat) : Int):=by simp
   generalize hpe:s*(1+b)=p at *;have hvl:es.getD (p+j) 0<65536:=by
    rw[g3s]
    cases hq:es[p+j]? with
    | none=>simp
    | some x=>exact HB.out x (En hq)
   generalize hv:es.getD (p+j) 0=v at *;have hq4:(v:Int).tdiv 4=((v / 4:Nat) : Int):=rfl;have hr4:(v:Int).tmod 4=((v % 4:Nat) : Int):=(g5i v 4).symm;generalize hqe:v / 4=q at *;generalize hre:v % 4=r at *;have hqa:(q:Int).tmod (1+(a:Int))=((q % (1+a) : Nat) : Int):=by rw[show (1+(a:Int))=((1+a:Nat) : Int) by omega];exact(g5i q (1+a)).symm
   have hqb:(q:Int).tdiv (1+(a:Int))=((q / (1+a) : Nat) : Int):=by rw[show (1+(a:Int))=((1+a:Nat) : Int) by omega];rfl
   have hql:q / (1+a)<=q:=Nat.div_le_self _ _;generalize hde:q / (1+a)=d at *;have hdc:(d:Int).tmod (1+(c:Int))=((d % (1+c) : Nat) : Int):=by rw[show (1+(c:Int))=((1+c:Nat) : Int) by omega];exact(g5i d (1+c)).symm
   have hEd:Aa (b2d part (1+a) (1+c) v=if part=true/\r=3 then (-1,-1) else (((q % (1+a) : Nat) : Int),((d % (1+c) : Nat) : Int))):=⟨by rw[<- hre,<- hde,<- hqe];rfl⟩;have hz:v=0->q % (1+a)=0/\d % (1+c)=0/\r=0:=fun e=>by
    have e1:q=0:=by rw[<- hqe,e]
    have e2:d=0:=by rw[<- hde,e1];simp
    have e3:r=0:=by rw[<- hre,e]
    exact⟨by rw[e1];simp,by rw[e2];simp,e3⟩
   have HZ:=Aa.mk hz;clear hz;generalize q % (1+a)=x at *;generalize d % (1+c)=y at *;have hql2:q<=v:=by omega
   have hlen:∀ {H:Mem} {e' : Ev} {o:Oper} {c' : Call} {e:TypeId},a5a prog H e' o c' (some (.slice e)) (some [ev])=.val (.li es.length) H:=by
    intro H e' o c' e;rcases HE.out with⟨h1,rfl|rfl⟩|⟨a2,off,c2,_,rfl,_⟩
    ·rw[h1];rfl
    ·rw[h1];rfl
    ·rfl
   have hEr:Aa (Bz (List.map (fun i=>b2d part (1+a) (1+c) (es.getD (p+i) 0)) (List.range (j+1)))=rr++[.lit (.int .i64 (b2d part (1+a) (1+c) v).1),.lit (.int .i64 (b2d part (1+a) (1+c) v).2)]):=⟨by rw[g6v,g3z,g5v,hv,b2c,hrr.out]⟩;have hdv:d<=v:=by omega
   clear hqe hre hde hql;by_cases hin:p+j<es.length
   ·have hinI:(p:Int)+(j:Int)<(es.length:Int):=by omega
    rcases HE.out with⟨h1,_⟩|⟨a2,off,c2,ha2,rfl,hrow⟩
    ·omega
    have hnum:=(hrow.mono ((HG.out a2 (by omega)).trans (HG1.out a2 ha2))).one (k:=p+j) (s:=1) (by simp only[a8t,Ei];exact hin);have hcell:(a8t es)[p+j]'(by simp only[a8t,Ei];exact hin)=.lit (.int .u16 (v:Int)):=by simp only[a8t,g4v];rw[<- hv,g3s,Dy hin];rfl
    rw[hcell] at hnum;clear hv hcell hrow;have htn:((p:Int)+(j:Int)).toNat=p+j:=by omega
    rcases HBv.out with hB0|⟨hpos,hsv,hB1,hB2,hB3,hB4⟩
    ·obtain⟨hj0,hnil,hsv⟩:=hB0;subst hsv;have HJ:=Aa.mk (And.intro hj0 hnil);clear hj0 hnil;cases part<;>by_cases hr3:r=3
     all_goals
      first
       | have hrI:(r:Int)=3:=by omega
       | have hrI:¬(r:Int)=3:=by omega
      iterate 6 all_goals try first|apply spl<;>intro h|simp (disch:=first|assumption|omega|simp) [*]
      refine ihj.out (1+b-(j+1)) _ _ (by omega) ⟨j+1,n'+1+1,_,n'+1,.slq (n'+1) 0 (j+1) 0,_,by omega,rfl,rfl,by omega,fun q hq=>?_,.mk Ag (by omega) (by omega) ?_,⟨?_⟩,by simp[*],by simp[*],by simp[*],by simp[*],by simp[*],by rw[HJ.out.1];simp[*],by simp⟩
      ·simp (disch:=omega) only[Ad,Ae];exact HG.out q hq
      ·rw[HJ.out.1];simp[*]
      ·rw[hEr.out,hEd.out];rw[HJ.out.2];simp[*]
    ·subst hsv;have hj6:j<=1000000:=by omega
     cases part<;>by_cases hr3:r=3
     all_goals
      first
       | have hrI:(r:Int)=3:=by omega
       | have hrI:¬(r:Int)=3:=by omega
      iterate 6 all_goals try first|apply spl<;>intro h|simp (disch:=first|assumption|omega|simp) [*]
      refine ihj.out (1+b-(j+1)) _ _ (by omega) ⟨j+1,n'+1+1,_,n'+1,.slq (n'+1) 0 (j+1) 0,_,by omega,rfl,rfl,by omega,fun q hq=>?_,.mk Ag (by omega) (by omega) ?_,⟨?_⟩,by simp[*]⟩
      ·simp (disch:=omega) only[Ad,Ae];exact HG.out q hq
      ·simp[*];omega
      ·rw[hEr.out,hEd.out];simp[*]
   ·have hinI:¬(p:Int)+(j:Int)<(es.length:Int):=by omega
    have hv0:v=0:=by
     rw[<- hv,g3s,List.getElem?_eq_none (by omega)];rfl
    obtain⟨hx0,hy0,hr0⟩:=HZ.out hv0;clear hv hq4 hr4 hqa hqb hdc;rcases HBv.out with hB0|⟨hpos,hsv,hB1,hB2,hB3,hB4⟩
    ·obtain⟨hj0,hnil,hsv⟩:=hB0;subst hsv;have HJ:=Aa.mk (And.intro hj0 hnil);clear hj0 hnil;cases part
     all_goals
      iterate 6 all_goals try first|apply spl<;>intro h|simp (disch:=first|assumption|omega|simp) [*]
      refine ihj.out (1+b-(j+1)) _ _ (by omega) ⟨j+1,n'+1+1,_,n'+1,.slq (n'+1) 0 (j+1) 0,_,by omega,rfl,rfl,by omega,fun q hq=>?_,.mk Ag (by omega) (by omega) ?_,⟨?_⟩,by simp[*],by simp[*],by simp[*],by simp[*],by simp[*],by rw[HJ.out.1];simp[*],by simp⟩
      ·simp (disch:=omega) only[Ad,Ae];exact HG.out q hq
      ·rw[HJ.out.1];simp[*]
      ·rw[hEr.out,hEd.out];rw[HJ.out.2];simp[*]
    ·subst hsv;have hj6:j<=1000000:=by omega
     cases part
     all_goals
      iterate 6 all_goals try first|apply spl<;>intro h|simp (disch:=first|assumption|omega|simp) [*]
      refine ihj.out (1+b-(j+1)) _ _ (by omega) ⟨j+1,n'+1+1,_,n'+1,.slq (n'+1) 0 (j+1) 0,_,by omega,rfl,rfl,by omega,fun q hq=>?_,.mk Ag (by omega) (by omega) ?_,⟨?_⟩,by simp[*]⟩
      ·simp (disch:=omega) only[Ad,Ae];exact HG.out q hq
      ·simp[*];omega
      ·rw[hEr.out,hEd.out];simp[*]
  ·have Hj2:Aa (j=1+b):=⟨by omega⟩;have hjtI:¬(j:Int)<1+(b:Int):=by omega
   have hs6:s<=1000000:=by omega
   rcases HBv.out with⟨h0,_⟩|⟨hpos,hsv,hB1,hB2,hB3,hB4⟩
   ·omega
   subst hsv;have HB4:=Aa.mk hB4;clear hB4;have HR2:Aa (RowsE (Ap gk B (some (.cells rr true 2))) (n'+1+1) ((List.range (s+1)).map (a8i part es (1+a) (1+b) (1+c))) (svs++[.slq B 0 j 0])):=⟨by
    rw[g6v,g3z,g5v];refine RowsE.snoc ?_ (HR.out.ext (by omega) fun q z hq hz=>(Ad (by omega)).trans hz);rw[show (a8i part es (1+a) (1+b) (1+c) s).length=j by unfold a8i;simp[Hj2.out]];refine .inr ⟨B,0,by omega,.inr ⟨0,rfl⟩,rr,true,2,Ag,?_,?_⟩
    ·rw[show Bz (a8i part es (1+a) (1+b) (1+c) s)=rr by rw[hrr.out,Hj2.out];rfl];simp
    ·rw[show Bz (a8i part es (1+a) (1+b) (1+c) s)=rr by rw[hrr.out,Hj2.out];rfl];simp⟩
   have HK2:Aa (∀ q z,Ap gk B (some (.cells rr true 2)) q=some z->g' q=some z/\q≠n'/\q≠n'+1/\q≠n+1+1/\n+1+1+1<=q/\q<n'/\(A<n1->q≠A)):=⟨fun q z hz=>by
    rcases c2w hz with⟨rfl,h⟩|⟨_,hz⟩
    ·cases h;exact⟨hB3,by omega,by omega,by omega,by omega,hB2,by omega⟩
    ·obtain⟨k1,k2,k3,k4⟩:=HK.out q z hz;exact⟨(HG.out q k4).trans k1,by omega,by omega,by omega,k3,by omega,fun _=>k2⟩⟩
   rcases HA.out with hA0|⟨hspos,hrv,hA1,hA2,hA3,hA4⟩
   ·obtain⟨hs0,hnil,hrv⟩:=hA0;subst hrv;have HJ:=Aa.mk (And.intro hs0 hnil);clear hs0 hnil
    iterate 6 all_goals try first|apply spl<;>intro h|simp (disch:=first|assumption|omega|simp) [*]
    refine ih.out (1+a-(s+1)) _ _ (by omega) ⟨s+1,n'+1+1,_,_,n'+1,.slq (n'+1) 0 (s+1) 0,svs++[.slq B 0 j 0],by omega,rfl,rfl,by omega,fun q hq=>?_,?_,?_,?_,.mk ?_ (by omega) (by omega) ?_,HR2.out,fun q z hz=>?_,by simp[*]⟩
    ·simp (disch:=omega) only[Ad,Ae];rw[HG.out q (by omega)];exact HG1.out q hq
    ·simp (disch:=omega) only[Ad,Ae];exact f0
    ·simp (disch:=omega) only[Ad,Ae];rw[HG.out (n+1) (by omega)];exact e1
    ·rw[HJ.out.1];simp[*]
    ·rw[HJ.out.2];simp (disch:=omega) [Ae,Ag]
    ·rw[HJ.out.1,HJ.out.2];simp[*]
    ·obtain⟨k1,k2,k3,k4,k5,k6,k7⟩:=HK2.out q z hz;refine⟨?_,k3,k5,by omega⟩;simp (disch:=omega) only[Ad,Ae];exact k1
   ·subst hrv;have hA5:=(HG.out A hA2).trans hA3
    iterate 6 all_goals try first|apply spl<;>intro h|simp (disch:=first|assumption|omega|simp) [*]
    refine ih.out (1+a-(s+1)) _ _ (by omega) ⟨s+1,n'+1+1,_,_,n'+1,.slq (n'+1) 0 (s+1) 0,svs++[.slq B 0 j 0],by omega,rfl,rfl,by omega,fun q hq=>?_,?_,?_,?_,.mk ?_ (by omega) (by omega) ?_,HR2.out,fun q z hz=>?_,by simp[*]⟩
    ·simp (disch:=omega) only[Ad,Ae];rw[HG.out q (by omega)];exact HG1.out q hq
    ·simp (disch:=omega) only[Ad,Ae];exact f0
    ·simp (disch:=omega) only[Ad,Ae];rw[HG.out (n+1) (by omega)];exact e1
    ·simp[*]
    ·simp (disch:=omega) [Ae,Ag]
    ·simp[*]
    ·obtain⟨k1,k2,k3,k4,k5,k6,k7⟩:=HK2.out q z hz;refine⟨?_,k3,k5,by omega⟩;have k8:=k7 hA2;simp (disch:=omega) only[Ad,Ae];exact k1
 ·have hltI:¬(s:Int)<1+(a:Int):=by omega
  have hs2:s=1+a:=by omega
  have h1r:=HA.out.one;have h1m:allOne [.li (1+(b:Int)),.li (1+(c:Int)),rv]=true:=by simp[h1r]
  have hlen:svs.length=s:=by rw[HR.out.len];simp
  have HREP:Aa (a3k (fun q=>if q=A/\n+1+1+1<=A/\A<n1 then g1 A else gk q) n1 M [.li (1+(b:Int)),.li (1+(c:Int)),rv]):=⟨by
   rw[HM.out];refine⟨rv,svs,rfl,?_,?_⟩
   ·show RowsE _ n1 ((List.range (1+a)).map _) svs;have hrs:=HR.out;rw[hs2] at hrs;refine hrs.ext (Dm _) fun q z _ hz=>?_;obtain⟨k1,k2,k3,k4⟩:=HK.out q z hz;show (if q=A/\n+1+1+1<=A/\A<n1 then g1 A else gk q)=some z;rw[if_neg (fun h=>k2 h.1)];exact hz
   ·show Af _ n1 rv ((List.range (1+a)).map _).length svs;rw[Ei,List.length_range,<- hs2];refine HA.out.slice.ext (Dm _) fun q z _ hz=>?_;have hz' : (if q=A/\n+1+1+1<=A/\A<n1 then g1 q else none)=some z:=hz;show (if q=A/\n+1+1+1<=A/\A<n1 then g1 A else gk q)=some z;split at hz'
    ·rename_i h;rw[if_pos h,<- h.1];exact hz'
    ·cases hz'⟩
  clear hs2 hlen
  iterate 6 all_goals try first|apply spl<;>intro h|simp (disch:=first|assumption|omega|simp) [*]
  refine⟨_,_,_,⟨rfl,rfl,rfl⟩,by omega,fun q hq=>?_,_,fun q z hz=>?_,HREP.out⟩
  ·rw[Ad (by omega)];exact HG1.out q hq
  ·have hz' : (if q=A/\n+1+1+1<=A/\A<n1 then g1 A else gk q)=some z:=hz;split at hz'
   ·rename_i h;obtain⟨rfl,h2,h3⟩:=h;exact⟨by rw[Ae (by omega)];exact hz',by omega,h3⟩
   ·obtain⟨k1,k2,k3,k4⟩:=HK.out q z hz';exact⟨by rw[Ae (by omega)];exact k1,by omega,k4⟩
end Go.Ai
end
section
namespace Go.Ai
open Go.Proofs Go.Proofs.Tryz
set_option maxRecDepth 10000
set_option maxHeartbeats 40000000
theorem stood97:prog.stoodInHeld 97=false:=by kernel_rfl
theorem f8t {P:Program} {d:Nat} {t:TypeId} {k:IntKind} {a b:Int} (ht:P.underlying t=some (.int k)) : Ao P (Op.equalIn (d+1) t (.int k a) (.int k b))=some (a == b):=by
 unfold Op.equalIn;refine(Bt (m:=underlying t) (a5b ht)).trans ?_;dsimp only;rw[if_pos rfl];rfl
theorem f8u (a b c d:Int) : Ao prog (Op.equal 97 (.agg #[.int .i64 a,.int .i64 b]) (.agg #[.int .i64 c,.int .i64 d]))=some (a == c && b == d):=by
 unfold Op.equal;show Ao prog (Op.equalIn (9998+1+1) 97 _ _)=_;rw[Op.equalIn];refine(Bt (m:=underlying 97) (a5b underlying97)).trans ?_;dsimp only;refine(Bt (m:=program) (a:=prog) rfl).trans ?_;rw[if_neg (by rw[stood97];decide)];have p0:∀ x y:Int,Ao prog (part 3 #[Value.int IntKind.i64 x,Value.int IntKind.i64 y] 0)=some (.int .i64 x):=fun x y=>rfl;have p1:∀ x y:Int,Ao prog (part 3 #[Value.int IntKind.i64 x,Value.int IntKind.i64 y] 1)=some (.int .i64 y):=fun x y=>rfl;simp only[List.forIn_toArray,List.forIn_cons,List.forIn_nil];have key:∀ (nm:String) (u v:Int) (m1 m2:Sem Value),nm ≠ "_"->Ao prog m1=some (.int .i64 u)->Ao prog m2=some (.int .i64 v) ->
   Ao prog (if nm ≠ "_" then do
    let x <- m1
    let y <- m2
    let z <- Op.equalIn (9998+1) 3 x y
    if (!z)=true then pure (ForInStep.done (some false,())) else pure (ForInStep.yield ((none:Option Bool),()))
   else pure (ForInStep.yield (none,())))=some (if (u == v)=true then ForInStep.yield (none,()) else ForInStep.done (some false,())):=by
  intro nm u v m1 m2 hn h1 h2;rw[if_pos hn];refine(Bt h1).trans ((Bt h2).trans ((Bt (f8t underlying3)).trans ?_));cases (u == v)<;>rfl
 refine(Bt (a:=if (a == c && b == d)=true then ((none:Option Bool),()) else (some false,())) ?_).trans ?_
 ·refine(Bt (key "To" a c _ _ (by decide) (p0 a b) (p0 c d))).trans ?_;cases (a == c)
  ·rfl
  ·refine(Bt (key "Out" b d _ _ (by decide) (p1 a b) (p1 c d))).trans ?_;cases (b == d)<;>rfl
 ·cases (a == c)<;>cases (b == d)<;>rfl
end Go.Ai
end
section
namespace Go.Ai
open Go.Proofs Go.Proofs.Tryz
set_option maxRecDepth 10000
set_option maxHeartbeats 40000000
end Go.Ai
end
section
namespace Go.Ai
open Go.Proofs Go.Proofs.Tryz
set_option maxRecDepth 10000
set_option maxHeartbeats 40000000
end Go.Ai
end
section
namespace Go.Ai
open Go.Proofs Go.Proofs.Tryz
set_option maxRecDepth 10000
set_option maxHeartbeats 40000000
variable {M:Bg} {g:Gb} {n:Nat} {w:Wd} {sv:AV}
def a0q (M:Bg) (s i:Int) : Int×Int:=if s<0 then (-1,-1) else (M.rows.getD s.toNat []).getD i.toNat (-1,-1)
def Dh (M:Bg) : Int->Wd->Wd
 | _,[]=>[]
 | s,i :: w=>(a0q M s i).2 :: Dh M (a0q M s i).1 w
def b2r (M:Bg) : Int->Wd->Int
 | s,[]=>s
 | s,i :: w=>b2r M (a0q M s i).1 w
theorem b7r : ∀ (w:Wd) (s:Int),(Dh M s w).length=w.length
 | [],_=>rfl
 | _ :: w,s=>by unfold Dh;rw[Ej,Ej,b7r w]
theorem d5g : ∀ (a b:Wd) (s:Int),Dh M s (a++b)=Dh M s a++Dh M (b2r M s a) b
 | [],_,_=>rfl
 | i :: a,b,s=>by
  show (a0q M s i).2 :: Dh M (a0q M s i).1 (a++b)=_;rw[d5g a b];rfl
theorem d5h : ∀ (a b:Wd) (s:Int),b2r M s (a++b)=b2r M (b2r M s a) b
 | [],_,_=>rfl
 | i :: a,b,s=>d5h a b _
def b7s (M:Bg) (s:Int) : Prop:=s = -1\/∃ k:Nat,s=k/\k<M.rows.length
theorem d5i {e:Int×Int} (h:b2b M.rows.length M.out e=true) : b7s M e.1 /\ -1<=e.2/\(e.2 = -1\/e.2<M.out)/\(e.2 = -1->e.1 = -1):=by
 unfold b2b at h;rcases Bool.or_eq_true_iff.1 h with h|h
 ·have h:=of_decide_eq_true h;subst h;exact⟨.inl rfl,by decide,.inl rfl,fun _=>rfl⟩
 ·simp only[Dq,decide_eq_true_eq] at h;exact⟨.inr ⟨e.1.toNat,by omega,by omega⟩,by omega,.inr h.2.2.2,fun h2=>by omega⟩
theorem d5j (hM:M.ok) {k:Nat} {i:Int} (hk:k<M.rows.length) (h0:0<=i) (h1:i<M.inp) : ∃ (hi:i.toNat<(M.rows[k]).length),a0q M k i=(M.rows[k])[i.toNat]/\b2b M.rows.length M.out (a0q M k i)=true:=by
 have hr:=hM.2.2.2.2.2.2 _ (Ds hk);have hi:i.toNat<(M.rows[k]).length:=by omega
 have e:a0q M k i=(M.rows[k])[i.toNat]:=by
  unfold a0q;grind
 grind
theorem d5k {s i:Int} (h:s<0) : a0q M s i=(-1,-1):=if_pos h
theorem d5l (hM:M.ok) {s i:Int} (hs:b7s M s) (h0:0<=i) (h1:i<M.inp) : b2b M.rows.length M.out (a0q M s i)=true:=by
 rcases hs with rfl|⟨k,rfl,hk⟩
 ·rfl
 ·exact(d5j hM hk h0 h1).2.2
structure f8v (g:Gb) (n:Nat) (rv:AV) (k i:Nat) (e:Int×Int) (a off a2 off2:Nat) (q:AV) : Prop where
 an:a<n
 an2:a2<n
 ia:∀ {H:Mem} {ev:Ev} {o:Oper} {t:TypeId},iaS prog H ev o t (some (none,1)) (some rv) (some (.li (k:Int)))=.val (.ptr a (off+k)) H
 cell:Be (some (false,1)) (g a) (off+k)=some q
 ia2:∀ {H:Mem} {ev:Ev} {o:Oper} {t:TypeId},iaS prog H ev o t (some (none,2)) (some q) (some (.li (i:Int)))=.val (.ptr a2 (off2+i*2)) H
 cell2:Be (some (true,2)) (g a2) (off2+i*2)=some (.agg [.li e.1,.li e.2])
theorem a3k.edge {a0 b0 rv:AV} (h:a3k g n M [a0,b0,rv]) {k:Nat} (hk:k<M.rows.length) {i:Nat} (hi:i<(M.rows[k]).length) : ∃ a off a2 off2 q,f8v g n rv k i (M.rows[k])[i] a off a2 off2 q:=by
 obtain⟨sv,svs,e,hr,hs⟩:=h;injection e with _ e;injection e with _ e;injection e with e _;subst e;have hkl:k<svs.length:=by rw[hr.len];grind
 obtain⟨a,off,ha,hrow,hia⟩:=hs.ia (P:=prog) hk 1;simp only[Ea] at hia;have hc:=hrow.one (k:=k) (s:=1) hkl;obtain⟨a2,off2,ha2,hrow2,hia2⟩:=Af.ia (P:=prog) (hr.at k hk hkl) hi 2;have hc2:=hrow2.agg (k:=i*2) (s:=2) (by grind[rowC_len]);rw[rowC_at _ i hi] at hc2;exact⟨a,off,a2,off2,svs[k],ha,ha2,hia,hc,hia2,hc2⟩
theorem f8w {M:Bg} (hM:M.ok) (s i:Int) (hs:b7s M s) (h0:0≤i) (h1:i < M.inp) (g:Nat→Option Blk) (n:Nat) (ms:List AV) (hr:a3k g n M ms) :
  WC 0 prog 97 [.agg ms,.lit (.int .i64 s),.lit (.int .i64 i)] ⟨.fn g,n⟩ fun r=>∃ g' n',r=.ret (.agg [.lit (.int .i64 (a0q M s i).1),.lit (.int .i64 (a0q M s i).2)]) ⟨.fn g',n'⟩∧n≤n'∧∀ b,b < n→g' b=g b:=by
 obtain ⟨rv,rfl,h1r⟩:=hr.one
 have h1a:allOne [.lit (.int .i64 M.inp),.lit (.int .i64 M.out),rv]=true:=by simp_all
 have HR:=Aa.mk hr
 clear hr
 rcases hs with rfl | ⟨k,rfl,hk⟩
 ·rw [d5k (by decide)]
  refine WC.enterP (Ah _ _) hG [] func97 rfl (by rfl) (Nat.le_of_ble_eq_true (by rfl)) ?_
  iterate 8 all_goals try first|with_reducible refine Ab (fun h=>?_) fun h=>?_|with_reducible refine Ac (fun h=>?_) fun h=>?_|simp (maxSteps:=999999) (disch:=first|assumption|omega|(simp;done)|fail) [results97, *]
  grind [Ap]
 ·obtain ⟨hi,he,_⟩:=d5j hM hk h0 h1
  obtain ⟨a,off,a2,off2,q,HE0⟩:=HR.out.edge hk hi
  rw [← he] at HE0
  obtain ⟨j,rfl⟩ : ∃ j:Nat,i=j:=⟨i.toNat,by omega⟩
  have HE:=Aa.mk HE0
  clear HE0 he
  have han:=HE.out.an
  have han2:=HE.out.an2
  have hia:∀ {H:Mem} {ev:Ev} {o:Oper} {t:TypeId},iaS prog H ev o t (some (none,1)) (some rv) (some (.lit (.int .i64 (k:Int))))=.val (.ptr a (off+k)) H:=fun {H ev o t}=>HE.out.ia
  have hc:=HE.out.cell
  have hia2:∀ {H:Mem} {ev:Ev} {o:Oper} {t:TypeId},iaS prog H ev o t (some (none,2)) (some q) (some (.lit (.int .i64 (j:Int))))=.val (.ptr a2 (off2+j * 2)) H:=fun {H ev o t}=>HE.out.ia2
  have hc2:Be (some (true,2)) (g a2) (off2+j * 2)=_:=HE.out.cell2
  have hk0:¬(k:Int) < 0:=by omega
  clear HE
  generalize (a0q M k j).1=x at *
  generalize (a0q M k j).2=y at *
  refine WC.enterP (Ah _ _) hG [] func97 rfl (by rfl) (Nat.le_of_ble_eq_true (by rfl)) ?_
  iterate 8 all_goals try first|with_reducible refine Ab (fun h=>?_) fun h=>?_|with_reducible refine Ac (fun h=>?_) fun h=>?_|simp (maxSteps:=999999) (disch:=first|assumption|omega|(simp;done)|fail) [results97, *]
  grind [Ap]
theorem a2l {α:Type} {l:List α} {k:Nat} (h:k<l.length) : l.take (k+1)=l.take k++[l[k]]:=by simp
def a1b (g:Gb) (lo n:Nat) (w:Wd) (sv:AV) : Prop:=∃ gk:Gb,(∀ a z,gk a=some z->g a=some z/\lo<=a/\a<n)/\Aj gk n w sv
theorem a1b.rep {lo:Nat} (h:a1b g lo n w sv) : Aj g n w sv :=
 let ⟨_,h1,h3⟩:=h;Af.ext (Dm _) (fun a z _ hz=>(h1 a z hz).1) h3
theorem a1b.keep {g': Gb} {lo lo' n': Nat} (h:a1b g lo n w sv) (h0:lo'<=lo) (h2:n<=n') (hg:∀ a,lo<=a->a<n->g' a=g a) : a1b g' lo' n' w sv:=by
 obtain⟨gk,h1,h3⟩:=h;refine⟨gk,fun a z hz=>?_,Af.ext h2 (fun a z _ hz=>hz) h3⟩;grind
theorem Bc.fresh {lo B len:Nat} (h:Bc g lo n B sv len 1 (wdC w)) (hl:len=w.length) : a1b g lo n w sv:=by
 subst hl;refine⟨_,fun a z hz=>?_,h.slice⟩;grind
theorem a8u (w:Wd) (x:Int) : wdC (w++[x])=wdC w++[.li x]:=by simp[wdC]
end Go.Ai
end
section
namespace Go.Ai
open Go.Proofs Go.Proofs.Tryz
set_option maxRecDepth 10000
set_option maxHeartbeats 40000000
theorem f8x (x q:Int) (p:Nat) (g:Gb) (n:Nat) (hp:g p=some (.cells [.li q] true 0)) (hpn:p<n) :
  WC 0 prog 125 [.li x,.ptr p 0] ⟨.fn g,n⟩ fun r=>r=.ret (.lit (.bool (decide (¬(0<=x/\x<q))))) ⟨.fn g,n⟩:=by
 by_cases t1:x<0
 ·have hd:decide (¬(0<=x/\x<q))=true:=decide_eq_true (by omega);rw[hd];refine ent [] func125 rfl (by decide +kernel) (by kernel_rfl) ?_
  iterate 6 all_goals try first|apply spl<;>intro h|simp (disch:=first|assumption|omega|simp) [*]
 by_cases t2:q<=x
 ·have hd:decide (¬(0<=x/\x<q))=true:=decide_eq_true (by omega);rw[hd];refine ent [] func125 rfl (by decide +kernel) (by kernel_rfl) ?_
  iterate 6 all_goals try first|apply spl<;>intro h|simp (disch:=first|assumption|omega|simp) [*]
 ·have hd:decide (¬(0<=x/\x<q))=false:=decide_eq_false (by omega);rw[hd];refine ent [] func125 rfl (by decide +kernel) (by kernel_rfl) ?_
  iterate 6 all_goals try first|apply spl<;>intro h|simp (disch:=first|assumption|omega|simp) [*]
theorem f8y (w:Wd) (hwl:w.length<=1000000) (q:Int) (sv:AV) (p:Nat) (g:Gb) (n:Nat) (hp:g p=some (.cells [.li q] true 0)) (hpn:p<n) (hsv:Aj g n w sv) :
  WC 0 prog 143 [sv,.func (.func 125) [] [.ptr p 0]] ⟨.fn g,n⟩ fun r=>∃ z:Int,r=.ret (.li z) ⟨.fn g,n⟩/\decide (0<=z) = !(w.all fun i=>decide (0<=i/\i<q)):=by
 have hlen:=@Am prog _ _ _ _ _ hsv;have HS:=Aa.mk hsv;have HP:=Aa.mk hp;clear hsv hp;obtain⟨ret,hret⟩ : ∃ b,b = !(w.all fun i=>decide (0<=i/\i<q)):=⟨_,rfl⟩;rw[<- hret];have HRET:=Aa.mk hret;clear hret;refine ent [] func143 rfl (by decide +kernel) (by kernel_rfl) ?_
 iterate 6 all_goals try first|apply spl<;>intro h|simp (disch:=first|assumption|omega|simp) [*]
 refine LX.ind (fun m gf H'=>∃ (k:Nat),k<=w.length/\m=w.length-k/\H'=⟨.fn g,n⟩/\Aa (∀ i∈w.take k,0<=i/\i<q) /\
  gf 0=some sv/\gf 1=some (.func (.func 125) [] [.ptr p 0])/\gf 7=some (.li w.length)/\gf 8=some (.li k)) (m0:=w.length) ?_ ?_
 ·exact⟨0,Dt _,rfl,rfl,⟨by simp⟩,by simp[*]⟩
 rintro m gf H' ⟨k,hk,rfl,rfl,HPRE,w0,w1,w7,w8⟩ ih;refine rnd [] (by decide +kernel) ?_;by_cases hlt:k<w.length
 ·have hltI:(k:Int)<(w.length:Int):=by omega
  obtain⟨a2,off,ha2,hrow,hia⟩:=Af.ia (P:=prog) HS.out hlt 1;simp only[Ea] at hia;have hcell:=hrow.one (k:=k) (s:=1) (by rw[Bl];exact hlt);rw[(Eb.1 (a7a w k hlt)).2] at hcell;have htk:w.take (k+1)=w.take k++[w[k]]:=by rw[g5j,Dy hlt];rfl
  have HT:=Aa.mk htk;have HM:=Aa.mk (Ds hlt);clear htk hrow ha2;generalize w[k]=x at *;have HC:=Aa.mk (f8x x q p g n HP.out hpn)
  iterate 6 all_goals try first|apply spl<;>intro h|simp (disch:=first|assumption|omega|simp) [*]
  refine WC.mono HC.out ?_;rintro _ rfl;by_cases hb:0<=x/\x<q
  ·have hd:decide (¬(0<=x/\x<q))=false:=decide_eq_false (by omega);rw[hd];have HB:=Aa.mk hb;clear hb
   iterate 6 all_goals try first|apply spl<;>intro h|simp (disch:=first|assumption|omega|simp) [*]
   refine ih.out (w.length-(k+1)) _ _ (by omega) ⟨k+1,by omega,rfl,rfl,⟨fun i hi=>?_⟩,by simp[*]⟩;rw[HT.out] at hi;rcases Ed.1 hi with h|h
   ·exact HPRE.out i h
   ·rw[Ek.1 h];exact HB.out
  ·have hd:decide (¬(0<=x/\x<q))=true:=decide_eq_true hb;rw[hd];have hr:ret=true:=by
    rw[HRET.out,Bool.not_eq_true',List.all_eq_false];exact⟨x,HM.out,by simpa using hb⟩
   clear hb
   iterate 6 all_goals try first|apply spl<;>intro h|simp (disch:=first|assumption|omega|simp) [*]
 ·have hltI:¬(k:Int)<(w.length:Int):=by omega
  have hk2:k=w.length:=by omega
  have hr:ret=false:=by
   rw[HRET.out,Bool.not_eq_false',Ec];intro i hi;have:=HPRE.out i (by rw[hk2,g4n];exact hi);simpa using this
  clear hk2
  iterate 6 all_goals try first|apply spl<;>intro h|simp (disch:=first|assumption|omega|simp) [*]
theorem f8z (w:Wd) (hwl:w.length<=1000000) (q:Int) (sv:AV) (p:Nat) (g:Gb) (n:Nat) (hp:g p=some (.cells [.li q] true 0)) (hpn:p<n) (hsv:Aj g n w sv) :
  WC 0 prog 124 [sv,.func (.func 125) [] [.ptr p 0]] ⟨.fn g,n⟩ fun r=>r=.ret (.lit (.bool (!(w.all fun i=>decide (0<=i/\i<q))))) ⟨.fn g,n⟩:=by
 have HI:=Aa.mk (f8y w hwl q sv p g n hp hpn hsv);clear hp hsv;generalize (!(w.all fun i=>decide (0<=i/\i<q)))=bb at *;refine ent [] func124 rfl (by decide +kernel) (by kernel_rfl) ?_
 iterate 6 all_goals try first|apply spl<;>intro h|simp (disch:=first|assumption|omega|simp) [*]
 refine WC.mono HI.out ?_;rintro _ ⟨z,rfl,hz⟩
 cases bb with
 | true =>
  have hz1:0<=z:=of_decide_eq_true hz;clear hz
  iterate 6 all_goals try first|apply spl<;>intro h|simp (disch:=first|assumption|omega|simp) [*]
 | false =>
  have hz1:¬0<=z:=of_decide_eq_false hz;clear hz
  iterate 6 all_goals try first|apply spl<;>intro h|simp (disch:=first|assumption|omega|simp) [*]
def Dk (w:Wd) (q:Int) : Int:=if q > 16\/w.length > 256 then 3 else if q<1\/inW w q=false then 1 else 0
theorem d5m (w:Wd) (hwl:w.length<=1000000) (q:Int) (g:Gb) (n:Nat) (sv:AV) (hsv:Aj g n w sv) :
  WC 0 prog 77 [sv,.li q] ⟨.fn g,n⟩ fun r=>r=.ret (.li (Dk w q)) ⟨.fn g,n⟩:=by
 refine WC.drop1 rfl ?_;have hlen:=@Am prog _ _ _ _ _ hsv;have HS:=Aa.mk hsv;clear hsv;by_cases t1:q > 16
 ·have he:Dk w q=3:=by unfold Dk;rw[if_pos (.inl t1)]
  rw[he];refine ent [] func77 rfl (by decide +kernel) (by kernel_rfl) ?_
  iterate 6 all_goals try first|apply spl<;>intro h|simp (disch:=first|assumption|omega|simp) [*]
  all_goals exact⟨Dx n,fun b hb=>Ad hb⟩
 by_cases t2:w.length > 256
 ·have he:Dk w q=3:=by unfold Dk;rw[if_pos (.inr t2)]
  rw[he];have t2I:256<(w.length:Int):=by omega
  refine ent [] func77 rfl (by decide +kernel) (by kernel_rfl) ?_
  iterate 6 all_goals try first|apply spl<;>intro h|simp (disch:=first|assumption|omega|simp) [*]
  all_goals exact⟨Dx n,fun b hb=>Ad hb⟩
 have t2I:¬256<(w.length:Int):=by omega
 by_cases t3:q<1
 ·have he:Dk w q=1:=by unfold Dk;rw[if_neg (by omega),if_pos (.inl t3)]
  rw[he];refine ent [] func77 rfl (by decide +kernel) (by kernel_rfl) ?_
  iterate 6 all_goals try first|apply spl<;>intro h|simp (disch:=first|assumption|omega|simp) [*]
  all_goals exact⟨Dx n,fun b hb=>Ad hb⟩
 have HC:=Aa.mk (f8z w hwl q sv n (Ap g n (some (.cells [.li q] true 0))) (n+1) Ag (by omega) (HS.out.mono (by omega) fun a ha=>Ad ha));have he:Dk w q=if inW w q=false then 1 else 0:=by
  unfold Dk;rw[if_neg (by omega)];by_cases h:inW w q=false
  ·rw[if_pos (.inr h),if_pos h]
  ·rw[if_neg (fun h2=>h2.elim t3 h),if_neg h]
 rw[he];clear he;have hin:(w.all fun i=>decide (0<=i/\i<q))=inW w q:=rfl;rw[hin] at HC;clear hin;generalize inW w q=bb at *;refine ent [] func77 rfl (by decide +kernel) (by kernel_rfl) ?_
 iterate 6 all_goals try first|apply spl<;>intro h|simp (disch:=first|assumption|omega|simp) [*]
 refine WC.mono HC.out ?_;rintro _ rfl;cases bb
 all_goals
  iterate 6 all_goals try first|apply spl<;>intro h|simp (disch:=first|assumption|omega|simp) [*]
  all_goals exact⟨Dx n,fun b hb=>Ad hb⟩
theorem mkI57:mkI prog 65=some (.li 0):=by kernel_rfl
attribute [simp] mkI57
end Go.Ai
end
section
namespace Go.Ai
open Go.Proofs Go.Proofs.Tryz
set_option maxRecDepth 10000
set_option maxHeartbeats 40000000
def u8C (bs:List Nat) : List AV:=bs.map fun (b:Nat)=>.lit (.int .u8 (b:Int))
def a5k (g:Gb) (n:Nat) (bs:List Nat) (sv:AV) : Prop:=Af g n sv bs.length (u8C bs)
theorem a5k.at {g:Gb} {n:Nat} {w:List Nat} {q1:AV} (h:a5k g n w q1) {k:Nat} (hk:k<w.length) : ∃ a off,a<n/\(∀ {H:Mem} {ev:Ev} {o:Oper} {t:TypeId},iaS prog H ev o t (some (none,1)) (some q1) (some (.li (k:Int)))=.val (.ptr a (off+k)) H)/\Be (some (false,1)) (g a) (off+k)=some (.lit (.int .u8 (w[k] : Nat))):=by
 obtain⟨a2,off,ha2,hrow,hia⟩:=Af.ia (P:=prog) h hk 1;simp only[Ea] at hia;have hcell:=hrow.one (k:=k) (s:=1) (by unfold u8C;rw[Ei];exact hk);rw[show (u8C w)[k]'(by unfold u8C;rw[Ei];exact hk)=.lit (.int .u8 (w[k] : Nat)) by simp[u8C]] at hcell;exact⟨a2,off,ha2,hia,hcell⟩
def Da (bs:List Nat) (I most:Nat) : Wd:=(bs.take most).map fun b=>((b % I:Nat) : Int)
end Go.Ai
end
section
namespace Go.Ai
open Go.Proofs Go.Proofs.Tryz
set_option maxRecDepth 10000
set_option maxHeartbeats 40000000
variable {g g':Gb} {n B n' lo':Nat} {sv wv:AV} {ts:Lq} {cs:List AV} {w:Wd}
theorem Af.cell {b len:Nat} : Af g b sv len cs->cellsOf sv=[sv]:=by
 rintro (⟨_,_,rfl|rfl⟩|⟨a,off,_,⟨c,rfl⟩|⟨c,rfl⟩,_⟩)<;>rfl
def a1j (g:Gb) (lo n B:Nat) (w:Wd) (sv:AV) : Prop:=∃ gk:Gb,(∀ a z,gk a=some z->g a=some z/\lo<=a/\a<n/\a≠B)/\Aj gk n w sv
theorem a1j.rep {lo:Nat} (h:a1j g lo n B w sv) : Aj g n w sv :=
 let ⟨_,h1,h3⟩:=h;Af.ext (Dm _) (fun a z _ hz=>(h1 a z hz).1) h3
theorem a1j.keep {lo B': Nat} (h:a1j g lo n B w sv) (h0:lo'<=lo) (h2:n<=n') (hB:n<=B'\/B'=B\/B' < lo) (hg:∀ a,lo<=a->a<n->a≠B->g' a=g a) : a1j g' lo' n' B' w sv:=by
 obtain⟨gk,h1,h3⟩:=h;refine⟨gk,fun a z hz=>?_,Af.ext h2 (fun a z _ hz=>hz) h3⟩;obtain⟨e1,e2,e3,e4⟩:=h1 a z hz;exact⟨(hg a e2 e3 e4).trans e1,by omega,by omega,by omega⟩
theorem a1b.safe {lo:Nat} (h:a1b g lo n w sv) (h0:lo'<=lo) (h2:n<=n') (hB:n<=B\/B<lo) (hg:∀ a,lo<=a->a<n->g' a=g a) : a1j g' lo' n' B w sv:=by
 obtain⟨gk,h1,h3⟩:=h;refine⟨gk,fun a z hz=>?_,Af.ext h2 (fun a z _ hz=>hz) h3⟩;obtain⟨e1,e2,e3⟩:=h1 a z hz;exact⟨(hg a e2 e3).trans e1,by omega,by omega,by omega⟩
def RowsF (g:Gb) (lo n B:Nat) (ts:Lq) (cs:List AV) : Prop :=
 cs.length=ts.length*2/\∀ (k:Nat) (h:k<ts.length),∃ s1 s2,cs[k*2]?=some s1/\cs[k*2+1]?=some s2/\a1j g lo n B ts[k].1 s1/\a1j g lo n B ts[k].2 s2
theorem RowsF.keep {lo B': Nat} (h:RowsF g lo n B ts cs) (h0:lo'<=lo) (h2:n<=n') (hB:n<=B'\/B'=B\/B' < lo) (hg:∀ a,lo<=a->a<n->a≠B->g' a=g a) : RowsF g' lo' n' B' ts cs :=
 ⟨h.1,fun k hk=>let ⟨s1,s2,h1,h3,h4,h5⟩:=h.2 k hk;⟨s1,s2,h1,h3,h4.keep h0 h2 hB hg,h5.keep h0 h2 hB hg⟩⟩
theorem RowsF.nil {lo:Nat} : RowsF g lo n B [] []:=⟨rfl,fun k hk=>by cases hk⟩
theorem RowsF.snoc {lo:Nat} (h:RowsF g lo n B ts cs) {t:List Int×Wd} {s1 s2:AV} (h1:a1j g lo n B t.1 s1) (h2:a1j g lo n B t.2 s2) : RowsF g lo n B (ts++[t]) (cs++[s1,s2]):=by
 have hl:=h.1;refine⟨by simp[hl];omega,fun k hk=>?_⟩;rw[Dr,Ef] at hk;by_cases hlt:k<ts.length
 ·obtain⟨t1,t2,e1,e2,e3,e4⟩:=h.2 k hlt;refine⟨t1,t2,?_,?_,?_,?_⟩
  ·rw[g3t (by omega)];exact e1
  ·rw[g3t (by omega)];exact e2
  ·rw[g4e hlt];exact e3
  ·rw[g4e hlt];exact e4
 ·have hk2:k=ts.length:=by omega
  subst hk2;refine⟨s1,s2,?_,?_,?_,?_⟩
  ·rw[Em (by omega),hl,g4u];rfl
  ·rw[Em (by omega),hl,show ts.length*2+1-ts.length*2=1 by omega];rfl
  ·simpa using h1
  ·simpa using h2
theorem RowsF.rows {lo:Nat} (h:RowsF g lo n B ts cs) : RowsT g n ts cs :=
 ⟨h.1,fun k hk=>let ⟨s1,s2,h1,h3,h4,h5⟩:=h.2 k hk;⟨s1,s2,h1,h3,h4.rep,h5.rep⟩⟩
def b4i (g:Gb) (lo n B:Nat) (ts:Lq) (sv:AV) : Prop:=∃ cs,Bc g lo n B sv ts.length 2 cs/\RowsF g lo n B ts cs
theorem b4i.keep {lo:Nat} (h:b4i g lo n B ts sv) (h0:lo'<=lo) (h2:n<=n') (hg:∀ a,lo<=a->a<n->g' a=g a) : b4i g' lo' n' B ts sv:=by
 obtain⟨cs,h1,h3⟩:=h;refine⟨cs,?_,h3.keep h0 h2 (.inr (.inl rfl)) fun a h4 h5 _=>hg a h4 h5⟩;rcases h1 with h1|⟨k1,k2,k3,k4,k5,k6⟩
 ·exact .inl h1
 ·exact .inr ⟨k1,k2,by omega,by omega,(hg B k3 k4).trans k5,k6⟩
theorem b4i.one {lo:Nat} (h:b4i g lo n B ts sv) : oneC sv=true:=let ⟨_,h1,_⟩:=h;h1.one
def a7d (g:Gb) (n:Nat) (l:List (List Nat)) (wv:AV) : Prop:=∃ svs,Af g n wv l.length svs/\svs.length=l.length/\∀ (k:Nat) (h:k<l.length),∃ sv,svs[k]?=some sv/\a5k g n l[k] sv
theorem a7d.mono {l:List (List Nat)} (h:a7d g n l wv) (hn:n<=n') (hg:∀ a,a<n->g' a=g a) : a7d g' n' l wv :=
 let ⟨svs,h1,h2,h3⟩:=h;⟨svs,h1.mono hn hg,h2,fun k hk=>let ⟨sv,e1,e2⟩:=h3 k hk;⟨sv,e1,Af.mono hn hg e2⟩⟩
theorem a7d.at {l:List (List Nat)} (h:a7d g n l wv) {k:Nat} (hk:k<l.length) : ∃ a off q,a<n/\(∀ {H:Mem} {ev:Ev} {o:Oper} {t:TypeId},iaS prog H ev o t (some (none,1)) (some wv) (some (.li (k:Int)))=.val (.ptr a (off+k)) H)/\Be (some (false,1)) (g a) (off+k)=some q/\a5k g n l[k] q:=by
 obtain⟨svs,h1,h2,h3⟩:=h;obtain⟨q,e1,e2⟩:=h3 k hk;obtain⟨a,off,ha,hrow,hia⟩:=h1.ia (P:=prog) hk 1;simp only[Ea] at hia;have hc:=hrow.one (k:=k) (s:=1) (by omega);rw[(Eb.1 e1).2] at hc;exact⟨a,off,q,ha,hia,hc,e2⟩
def b0w (M:Bg) (b:List Nat) : List Int×Wd:=(Da b M.inp.toNat 10,Dh M 0 (Da b M.inp.toNat 10))
def a1k (M:Bg) (ws:List (List Nat)) : Lq:=(ws.take 12).map (b0w M)
theorem c1d {b:List Nat} {I:Int} {m:Nat} (h0:1<=I) : inW (Da b I.toNat m) I=true:=by
 unfold inW Da;rw[Ec];intro x hx;obtain⟨y,_,rfl⟩:=Eg.1 hx;have:=Eo y (show 0<I.toNat by omega);exact decide_eq_true (by omega)
theorem c1e {b:List Nat} {I m:Nat} : (Da b I m).length<=m:=by
 unfold Da;rw[Ei,Du];omega
structure InG (g:Gb) (n:Nat) (st inp out:Nat) (es:List Nat) (ev:AV) (ws:List (List Nat)) (wv:AV) : Prop where
 b0:st<256
 b1:inp<256
 b2:out<256
 se:a8h g n ev es.length (a8t es)
 eb:∀ c∈es,c<65536
 sw:a7d g n ws wv
 wb:∀ w∈ws,∀ b∈w,b<256
theorem InG.mono {st inp out:Nat} {es:List Nat} {ev:AV} {ws:List (List Nat)} (h:InG g n st inp out es ev ws wv) (hn:n<=n') (hg:∀ a,a<n->g' a=g a) : InG g' n' st inp out es ev ws wv :=
 ⟨h.b0,h.b1,h.b2,h.se.mono hn hg,h.eb,h.sw.mono hn hg,h.wb⟩
end Go.Ai
end
section
namespace Go.Ai
open Go.Proofs Go.Proofs.Tryz
set_option maxRecDepth 10000
variable {O I:Int} {ts:Lq} {M:Bg}
theorem f9a {p:Bool} {o:Int} {r:Wd} (h1 : -1<=o) (h2:o<O) (h3:p=true->o = -1) (h4:okR O (decide (o = -1)) r=true) : okR O p (o :: r)=true:=by
 show (!(decide (o < -1) || (decide (O<=o) || (p && decide (¬o = -1)))) && okR O (decide (o = -1)) r)=true;grind
theorem b4j {p:Bool} {o:Int} {r:Wd} (h:okR O p (o :: r)=true) : -1<=o/\o<O/\(p=true->o = -1)/\okR O (decide (o = -1)) r=true:=by
 have h' : (!(decide (o < -1) || (decide (O<=o) || (p && decide (¬o = -1)))) && okR O (decide (o = -1)) r)=true:=h;grind
theorem d5n (hM:M.ok) : ∀ (w:Wd) (s:Int) (p:Bool),b7s M s->(p=true->s = -1)->inW w M.inp=true->okR M.out p (Dh M s w)=true
 | [],_,_,_,_,_=>rfl
 | i :: w,s,p,hs,hp,hw=>by
  unfold inW at hw;rw[g6n,Dq] at hw;have hi:=of_decide_eq_true hw.1;have he:=d5i (d5l hM hs hi.1 hi.2);have hO:=hM.2.2.1;show okR M.out p ((a0q M s i).2 :: Dh M (a0q M s i).1 w)=true;refine f9a he.2.1 (by grind) (fun h=>?_) (d5n hM w _ _ he.1 (fun h=>he.2.2.2 (of_decide_eq_true h)) hw.2);grind[d5k]
theorem d5o : ∀ (r:Wd) (k:Nat) (p:Bool),okR O p r=true->k<r.length -> -1<=r.getD k 0/\r.getD k 0<O
 | [],_,_,_,hk=>by grind
 | o :: r,0,p,h,_=>by obtain⟨h1,h2,_,_⟩:=b4j h;grind
 | o :: r,k+1,p,h,hk=>by obtain⟨_,_,_,h4⟩:=b4j h;exact d5o r k _ h4 (by grind)
structure a6e (I O:Int) (ts:Lq) : Prop where
 len:ts.length<=200
 i1:1<=I
 i2:I<=16
 o1:1<=O
 o2:O<=16
 wl:∀ t∈ts,t.1.length<=256
 ok:∀ t∈ts,a1a I O t=true
theorem a6e.small (h:a6e I O ts) : c6q ts:=by
 refine⟨h.len,fun t ht=>by have:=h.wl t ht;omega,fun t ht=>?_⟩;have h1:=h.ok t ht;unfold a1a at h1;rw[Dq,Dq] at h1;have h2:=of_decide_eq_true h1.1.1;have:=h.wl t ht;omega
theorem a6e.err (h:a6e I O ts) : d5e I O ts=0:=by
 have h1:=h.i1;have h2:=h.i2;have h3:=h.o1;have h4:=h.o2;unfold d5e;have e:c6p I O ts=true:=by
  unfold c6p;rw[decide_eq_true h2,decide_eq_true h4,g6f,g6f,Ec];intro t ht;have:=h.wl t ht;grind
 rw[e,if_neg (by decide),if_neg (by omega),if_pos];rw[Ec];exact h.ok
theorem a6e.lens (h:a6e I O ts) {t:List Int×Wd} (ht:t∈ts) : t.2.length=t.1.length/\inW t.1 I=true/\okR O false t.2=true:=by
 have h1:=h.ok t ht;simp_all[a1a]
theorem f9b {t:List Int×Wd} (h1:t.2.length=t.1.length) (h2:inW t.1 I=true) (h3:okR O false t.2=true) : a1a I O t=true:=by
 grind[a1a]
theorem a6e.set (h:a6e I O ts) {i:Nat} {t:List Int×Wd} (h1:t.1.length<=256) (h2:a1a I O t=true) : a6e I O (ts.set i t) :=
 ⟨by rw[g4r];exact h.len,h.i1,h.i2,h.o1,h.o2,fun u hu=>by rcases g5q hu with h3|rfl;exact h.wl u h3;grind,fun u hu=>by rcases g5q hu with h3|rfl;exact h.ok u h3;grind⟩
theorem b4k {α:Type} {l:List α} {k:Nat} {d:α} (h:k<l.length) : l.getD k d∈l/\l.getD k d=l[k]:=by
 grind
def stepL:Wd->Wd->Wd->Wd->Nat->Option Nat
 | i :: x,a :: r,j :: y,b :: s,k=>if i=j then (if a=b then stepL x r y s (k+1) else some k) else none
 | _,_,_,_,_=>none
def a8v (t:List Int×Wd) : Lq->Nat->Option (Nat×Nat)
 | [],_=>none
 | u :: us,a=>match stepL u.1 u.2 t.1 t.2 0 with
  | some k=>some (a,k)
  | none=>a8v t us (a+1)
def b2s (ts:Lq) : Lq->Nat->Option (Nat×Nat×Nat)
 | [],_=>none
 | t :: us,b=>match a8v t (ts.take b) 0 with
  | some (a,k)=>some (a,b,k)
  | none=>b2s ts us (b+1)
theorem d5p : ∀ (w v:Wd) (s:Int) (k:Nat),stepL w (Dh M s w) v (Dh M s v) k=none
 | [],_,_,_=>rfl
 | _ :: _,[],_,_=>rfl
 | i :: w,j :: v,s,k=>by
  show (if i=j then (if (a0q M s i).2=(a0q M s j).2 then _ else _) else none)=none;by_cases h:i=j
  ·subst h;rw[if_pos rfl,if_pos rfl];exact d5p w v _ _
  grind
theorem d5q {t:List Int×Wd} (ht:t.2=Dh M 0 t.1) : ∀ (us:Lq) (a:Nat),(∀ u∈us,u.2=Dh M 0 u.1)->a8v t us a=none
 | [],_,_=>rfl
 | u :: us,a,h=>by
  unfold a8v;rw[h u (by simp),ht,d5p];exact d5q ht us _ fun v hv=>h v (by simp[hv])
theorem d5r (h:∀ u∈ts,u.2=Dh M 0 u.1) : ∀ (us:Lq) (b:Nat),(∀ u∈us,u.2=Dh M 0 u.1)->b2s ts us b=none
 | [],_,_=>rfl
 | t :: us,b,h2=>by
  unfold b2s;rw[d5q (h2 t (by simp)) _ _ fun u hu=>h u (g4d hu)];exact d5r h us _ fun v hv=>h2 v (by grind)
end Go.Ai
end
section
namespace Go.Ai
open Go.Proofs Go.Proofs.Tryz
set_option maxRecDepth 10000
set_option maxHeartbeats 40000000
end Go.Ai
end
section
namespace Go.Ai
open Go.Proofs Go.Proofs.Tryz
set_option maxRecDepth 10000
set_option maxHeartbeats 40000000
end Go.Ai
end
section
namespace Go.Ai
open Go.Proofs Go.Proofs.Tryz
set_option maxRecDepth 10000
set_option maxHeartbeats 40000000
theorem Af.cut {g:Gb} {b len:Nat} {sv:AV} {cs:List AV} (h:Af g b sv len cs) (hc:Bm sv) {t:TypeId} (he:(Cd prog t).map (·.1)=some none) {k sz:Nat} (hk:k<=len) (h0:0<len) :
  ∃ sv',(∀ {H:Mem} {ev:Ev} {d:Option Tmp} {ty:TypeId} {p:String} {af:Array Edge} {gd:Option (Nat×Bool)} {x hi:Operand} {hx:ev x=some sv} {hh:ev hi=some (.li (k:Int))},
   ex2 prog H ev ⟨d,.slice t x none (some hi) none,ty,p,af,gd⟩ x hi (some sv) (some (.li (k:Int))) hx hh=.val sv' H)/\Af g b sv' k (cs.take (k*sz)):=by
 rcases h with⟨h1,_⟩|⟨a,off,ha,⟨c,rfl⟩|⟨c,rfl⟩,hrow⟩
 ·omega
 ·have hcc:=hc _ _ _ _ rfl;refine⟨.sl a off k c,?_,.inr ⟨a,off,ha,.inl ⟨c,rfl⟩,hrow.takes _⟩⟩;intro H ev d ty p af gd x hi hx hh;rw[c4s he (by omega) (by omega) (by omega)];simp
 ·refine⟨.slq a off k c,?_,.inr ⟨a,off,ha,.inr ⟨c,rfl⟩,hrow.takes _⟩⟩;intro H ev d ty p af gd x hi hx hh;rw[c4t he (by omega) (by omega) (by omega)];simp
theorem el22:(Cd prog 52).map (·.1)=some none:=by kernel_rfl
theorem b0v.cut {g:Gb} {n:Nat} {ts:Lq} {sv:AV} (h:b0v g n ts sv) (hc:Bm sv) {k:Nat} (hk:k<=ts.length) (h0:0<ts.length) :
  ∃ sv',(∀ {H:Mem} {ev:Ev} {d:Option Tmp} {ty:TypeId} {p:String} {af:Array Edge} {gd:Option (Nat×Bool)} {x hi:Operand} {hx:ev x=some sv} {hh:ev hi=some (.li (k:Int))},
   ex2 prog H ev ⟨d,.slice 52 x none (some hi) none,ty,p,af,gd⟩ x hi (some sv) (some (.li (k:Int))) hx hh=.val sv' H)/\b0v g n (ts.take k) sv':=by
 obtain⟨cs,h1,h2⟩:=h;obtain⟨sv',h3,h4⟩:=h1.cut hc el22 (sz:=2) hk h0;refine⟨sv',h3,cs.take (k*2),by rw[Du,g4a hk];exact h4,?_,fun j hj=>?_⟩
 ·rw[Du,Du,h2.1];omega
 ·have hj2:j<k/\j<ts.length:=by rw[Du] at hj;omega
  obtain⟨s1,s2,e1,e2,e3,e4⟩:=h2.2 j hj2.2;exact⟨s1,s2,by rw[g4x,if_pos (by omega)];exact e1,by rw[g4x,if_pos (by omega)];exact e2,by rw[g4s];exact e3,by rw[g4s];exact e4⟩
end Go.Ai
end
section
namespace Go.Ai
open Go.Proofs Go.Proofs.Tryz
set_option maxRecDepth 10000
set_option maxHeartbeats 40000000
theorem sl57:b2f prog 65=true:=by kernel_rfl
theorem equal57nil:Ao prog (Op.equal 65 (.slice none 0 0) (.slice none 0 0))=some true:=by kernel_rfl
theorem f9c {H:Mem} {ev:Ev} {d:Option Tmp} {ty rt:TypeId} {p:String} {af:Array Edge} {g:Option (Nat×Bool)} {x:Operand} (hx:ev x=some (.nl)) (hy:ev (.const (.slice none 0 0))=some (.nl)) :
  a2j prog H ev ⟨d,.binOp .eql 65 x (.const (.slice none 0 0)) rt,ty,p,af,g⟩ .eql 65 (some (.nl)) (some (.nl))=.val (.lit (.bool true)) H:=by
 show Bo prog H ev ⟨d,.binOp .eql 65 x (.const (.slice none 0 0)) rt,ty,p,af,g⟩ .eql 65 (some (.nl)) (some (.nl))=_;refine b0e rfl ?_;have h1:(Op.operands (.binOp .eql 65 x (.const (.slice none 0 0)) rt)).toList=[x,.const (.slice none 0 0)]:=rfl;unfold Ba;dsimp only;rw[h1];have l1:toLit (.nl)=some (.slice none 0 0):=rfl;simp only[g6n,List.all_nil,hx,hy,l1,g6f,if_true];have h2:∀ ρ:Operand->Value,ρ x=.slice none 0 0->ρ (.const (.slice none 0 0))=.slice none 0 0->Ao prog (execOp ρ ⟨d,.binOp .eql 65 x (.const (.slice none 0 0)) rt,ty,p,af,g⟩)=some (.value (.bool true)):=by
  intro ρ e1 e2;refine b0f e1 e2 ?_ ?_
  ·unfold eqGuard;kernel_rfl
  ·show Ao prog (do pure (Value.bool (<- Op.equal 65 _ _)))=_;exact(Bt equal57nil).trans rfl
 rw[h2 _ (by simp only[hx,l1]) (by simp only[hy,l1])]
attribute [simp] sl57 f9c
def b2t (g:Gb) (lo n:Nat) (w:Wd) (sv:AV) : Prop :=
 (w=[]/\(sv=.nl\/∃ m,lo<=m/\m<n/\sv=.sl m 0 0 0/\g m=some (.cells [] true 0)))\/(0<w.length/\∃ m,lo<=m/\m<n/\sv=.slq m 0 w.length 0/\g m=some (.cells (wdC w) true 1))
theorem f9d (w:Wd) (hwl:w.length<=1000000) (g:Gb) (n:Nat) (sv:AV) (hv:Aj g n w sv) :
  WC 0 prog 94 [sv] ⟨.fn g,n⟩ fun r=>∃ sv' g' n',r=.ret sv' ⟨.fn g',n'⟩/\n<=n'/\(∀ b,b<n->g' b=g b)/\b2t g' n n' w sv':=by
 have hcase:(w=[]/\sv=.nl)\/((∃ a o k c,sv=.sl a o k c)\/(∃ a o k c,sv=.slq a o k c)\/sv=.es):=by
  rcases hv with⟨h1,_,rfl|rfl⟩|⟨a,off,_,⟨c,rfl⟩|⟨c,rfl⟩,_⟩
  ·exact .inl ⟨g3r.1 h1,rfl⟩
  ·exact .inr (.inr (.inr rfl))
  ·exact .inr (.inl ⟨_,_,_,_,rfl⟩)
  ·exact .inr (.inr (.inl ⟨_,_,_,_,rfl⟩))
 rcases hcase with⟨hw,rfl⟩|hne
 ·subst hw;clear hv;refine ent [] func94 rfl (by decide +kernel) (by kernel_rfl) ?_
  iterate 8 all_goals try first|apply spl<;>intro h|simp (disch:=first|assumption|omega|simp) [*]
  refine⟨_,_,_,⟨rfl,rfl,rfl⟩,Dm _,fun b hb=>rfl,.inl ⟨rfl,.inl rfl⟩⟩
 ·by_cases hl:w.length=0
  ·have hw:w=[]:=g3r.1 hl;subst hw;have hap:=fun {H:Mem} {ev:Ev} {d:Option Tmp} {ty:TypeId} {p:String} {af:Array Edge} {gd:Option (Nat×Bool)} {x y:Operand} {s t:TypeId} {a off:Nat} {hx:ev x=some (.sl a off 0 0)} {hy:ev y=some sv} (hp:(apI prog s t).isSome=true)=>Af.ap00 (P:=prog) hv (H:=H) (ev:=ev) (d:=d) (ty:=ty) (p:=p) (af:=af) (gd:=gd) (x:=x) (y:=y) (a:=a) (off:=off) (hx:=hx) (hy:=hy) hp;clear hv;rcases hne with⟨a,o,k,c,rfl⟩|⟨a,o,k,c,rfl⟩|rfl
   all_goals
    refine ent [] func94 rfl (by decide +kernel) (by kernel_rfl) ?_
    iterate 8 all_goals try first|apply spl<;>intro h|simp (disch:=first|assumption|omega|simp) [*]
    refine⟨_,_,_,⟨rfl,rfl,rfl⟩,by omega,fun b hb=>?_,.inl ⟨rfl,.inr ⟨n,Dm _,by omega,rfl,Ag⟩⟩⟩;exact Ad hb
  ·obtain⟨a2,blk,ha2,hga2,hap⟩:=Af.ap0 (P:=prog) (sz:=1) hv (by omega) (by omega) (by rw[Bl];omega);clear hv;have hl0:0<w.length:=by omega
   rcases hne with⟨a,o,k,c,rfl⟩|⟨a,o,k,c,rfl⟩|rfl
   all_goals
    refine ent [] func94 rfl (by decide +kernel) (by kernel_rfl) ?_
    iterate 8 all_goals try first|apply spl<;>intro h|simp (disch:=first|assumption|omega|simp) [*]
    refine⟨_,_,_,⟨rfl,rfl,rfl⟩,by omega,fun b hb=>?_,.inr ⟨hl0,n+1,by omega,by omega,rfl,Ag⟩⟩;simp (disch:=omega) only[Ad]
theorem mk57 {H:Mem} {a b:Int} (h0:0<=a) (h1:a<=b) (h2:b<=1048576) : a8j prog H 65 (mkI prog 65) (some (.li a)) (some (.li b))=.val (.sl H.next 0 a.toNat b.toNat) (H.add (.cells (rep [.li 0] b.toNat) true 0)):=by
 have hx:a2r prog H 65 (some (.li a)) (some (.li b))=_:=d3k (e:=3) (size:=1) (bytes:=8) (z:=[.li 0]) (by kernel_rfl) (by decide) (by decide) (by kernel_rfl) h0 h1 h2;unfold a8j;split
 ·rename_i v a' b' hq e1 e2;cases e1;cases e2;split
  ·rename_i h;obtain⟨rfl,h3,h4⟩:=h;have hv:mkI prog 65=some (.li 0):=by kernel_rfl
   rw[hv] at hq;cases hq;rw[c5l]
  ·exact hx
 ·exact hx
theorem f9e {H:Mem} {a b:Int} (h0:0<=a) (h1:a<=b) (h2:b<=1048576) : a8j prog H 65 (some (.li 0)) (some (.li a)) (some (.li b))=.val (.sl H.next 0 a.toNat b.toNat) (H.add (.cells (rep [.li 0] b.toNat) true 0)):=by
 have h:=mk57 (H:=H) h0 h1 h2
 rwa [mkI57] at h
attribute [simp] f9e
end Go.Ai
end
section
namespace Go.Ai
open Go.Proofs Go.Proofs.Tryz
set_option maxRecDepth 10000
set_option maxHeartbeats 40000000
variable {g g':Gb} {n B:Nat} {w:Wd} {l:Wq} {lv sv:AV}
def Bj (g:Gb) (n:Nat) (l:Wq) (lv:AV) : Prop:=∃ svs,Af g n lv l.length svs/\RowsW g n l svs
theorem Bj.mono {n': Nat} (h:Bj g n l lv) (hn:n<=n') (hg:∀ a,a<n->g' a=g a) : Bj g' n' l lv :=
 let ⟨svs,h1,h2⟩:=h;⟨svs,h1.mono hn hg,h2.ext hn fun a x ha hx=>(hg a ha).trans hx⟩
theorem Bj.at (h:Bj g n l lv) {k:Nat} (hk:k<l.length) : ∃ a off q,a<n/\(∀ {H:Mem} {ev:Ev} {o:Oper} {t:TypeId},iaS prog H ev o t (some (none,1)) (some lv) (some (.li (k:Int)))=.val (.ptr a (off+k)) H)/\Be (some (false,1)) (g a) (off+k)=some q/\Aj g n l[k] q:=by
 obtain⟨svs,h1,h2,h3⟩:=h;obtain⟨q,e1,e2⟩:=h3 k hk;obtain⟨a,off,ha,hrow,hia⟩:=h1.ia (P:=prog) hk 1;simp only[Ea] at hia;have hc:=hrow.one (k:=k) (s:=1) (by omega);grind
theorem el93:(Cd prog 22).map (·.1)=some none:=by kernel_rfl
theorem Bj.cut (h:Bj g n l lv) (hc:Bm lv) :
  ∃ sv',(∀ {H:Mem} {ev:Ev} {d:Option Tmp} {ty:TypeId} {p:String} {af:Array Edge} {gd:Option (Nat×Bool)} {x hi:Operand} {hx:ev x=some lv} {hh:ev hi=some (.li (l.length:Int))},
   ex2 prog H ev ⟨d,.slice 22 x none (some hi) none,ty,p,af,gd⟩ x hi (some lv) (some (.li (l.length:Int))) hx hh=.val sv' H)/\Bj g n l sv':=by
 obtain⟨svs,h1,h2⟩:=h;obtain⟨sv',h3,h4,_⟩:=Af.cutP (P:=prog) h1 hc el93 (k:=l.length) (sz:=1) (Dm _);refine⟨sv',h3,svs,?_,h2⟩;rw[Ea,<- h2.1,g4n] at h4;rw[h2.1] at h4;grind
theorem Aj.safe {n':Nat} (h:Aj g n w sv) (hn:n<=n') (hB:n<=B) (hg:∀ a,a<n->g' a=g a) : a1j g' 0 n' B w sv :=
 ⟨fun a=>if a<n then g a else none,⟨fun a z hz=>(by
  grind),Af.ext hn (fun a x ha hx=>(if_pos ha).trans hx) h⟩⟩
theorem a1j.nil {lo:Nat} : a1j g lo n B [] (.nl):=⟨fun _=>none,fun a z h=>(by cases h),.inl ⟨rfl,rfl,.inl rfl⟩⟩
structure g3o (g:Gb) (n B c k:Nat) (ts:Lq) (R:List AV) : Prop where
 blk:g B=some (.cells R true 0)
 len:R.length=c*2
 kl:k<=c
 rows:RowsF g 0 n B ts (R.take (k*2))
 tl:ts.length=k
theorem RowsF.upd {lo:Nat} {ts:Lq} {cs cs': List AV} (h:RowsF g lo n B ts cs) {i:Nat} {t:List Int×Wd} {s1 s2:AV} (hl:cs'.length=cs.length) (h1:cs'[i*2]?=some s1) (h2:cs'[i*2+1]?=some s2) (ho:∀ j,j≠i*2->j≠i*2+1->cs'[j]?=cs[j]?) (w1:a1j g lo n B t.1 s1) (w2:a1j g lo n B t.2 s2) : RowsF g lo n B (ts.set i t) cs':=by
 refine⟨by rw[hl,g4r];exact h.1,fun k hk=>?_⟩;rw[g4r] at hk;by_cases hki:i=k
 ·grind
 ·obtain⟨r1,r2,e1,e2,e3,e4⟩:=h.2 k hk;grind
theorem a1j.sl {lo m len c:Nat} {own:Bool} {z:Nat} (h:g m=some (.cells (wdC w) own z)) (hl:len=w.length) (h1:lo<=m) (h2:m<n) (h3:m≠B) : a1j g lo n B w (.sl m 0 len c):=by
 subst hl;exact⟨fun a=>if a=m then g a else none,⟨fun a z hz=>(by
  grind),.inr ⟨m,0,h2,.inl ⟨c,rfl⟩,wdC w,own,z,(if_pos rfl).trans h,by simp[*]⟩⟩⟩
theorem b2t.keep {lo:Nat} (h:b2t g lo n w sv) (hg:∀ a,lo<=a->a<n->g' a=g a) : b2t g' lo n w sv:=by
 rcases h with⟨rfl,rfl|⟨m,h1,h2,rfl,h3⟩⟩|⟨hl,m,h1,h2,rfl,h3⟩
 ·exact .inl ⟨rfl,.inl rfl⟩
 ·exact .inl ⟨rfl,.inr ⟨m,h1,h2,rfl,(hg m h1 h2).trans h3⟩⟩
 ·exact .inr ⟨hl,m,h1,h2,rfl,(hg m h1 h2).trans h3⟩
theorem b2t.one {lo:Nat} (h:b2t g lo n w sv) : oneC sv=true/\cellsOf sv=[sv]:=by
 rcases h with⟨rfl,rfl|⟨m,h1,h2,rfl,h3⟩⟩|⟨hl,m,h1,h2,rfl,h3⟩<;>exact⟨rfl,rfl⟩
end Go.Ai
end
section
namespace Go.Ai
open Go.Proofs Go.Proofs.Tryz
set_option maxRecDepth 10000
set_option maxHeartbeats 40000000
end Go.Ai
end
section
namespace Go.Ai
set_option maxRecDepth 10000
variable {V:Wd→Option Int} {ws us:Wq} {I i:Nat} {w x p:Wd} {o:Int}
def valT:Lq->Wd->Option Int
 | [],_=>none
 | t :: ts,w=>if w≠[]/\w.length<=t.1.length/\t.1.take w.length=w then some (t.2.getD (w.length-1) 0) else valT ts w
def Ay (V:Wd->Option Int) (ws:Wq) (w:Wd) (i:Nat) : Int×Int:=match V (w++[(i:Int)]) with
 | none=>(-1,-1)
 | some o=>if o = -1 then (-1,-2) else (((ws.idxOf (w++[(i:Int)]) : Nat) : Int),o)
def Bd (V:Wd->Option Int) (ws:Wq) (I:Nat) (w:Wd) : List (Int×Int):=(List.range I).map (Ay V ws w)
def Co (V:Wd->Option Int) (ws:Wq) (I:Nat) : Tq:=ws.map (Bd V ws I)
structure Nod (V:Wd->Option Int) (ws:Wq) : Prop where
 nd:ws.Nodup
 mem:∀ w,w∈ws↔w=[]\/∃ o,V w=some o/\o ≠ -1
 clo:∀ x j o,V (x++[j])=some o->x=[]\/∃ o',V x=some o'/\(o ≠ -1->o' ≠ -1)
theorem b2u : (Bd V ws I w).length=I:=by simp[Bd]
theorem b7t (h:i<I) : (Bd V ws I w)[i]?=some (Ay V ws w i):=by
 grind[Bd]
theorem b4l : (Co V ws I).length=ws.length:=by simp[Co]
theorem d5s {k:Nat} (h:k<ws.length) : (Co V ws I).getD k []=Bd V ws I ws[k]:=by
 grind[Co]
theorem d5t (h:w∈ws) : ∃ hl:ws.idxOf w<ws.length,ws[ws.idxOf w]=w:=by
 grind
theorem d5u (h:w∈ws) : (ws++us).idxOf w=ws.idxOf w:=by
 grind
theorem f9f (h:w ∉ ws) : (ws++[w]).idxOf w=ws.length:=by
 grind
def Cp (V:Wd->Option Int) (x:Wd) (o:Int) : Wd->Option Int:=fun y=>if y=x then some ((V x).getD o) else V y
theorem b7u {o': Int} (h:V x=some o') : Cp V x o=V:=by
 grind[Cp]
theorem b7v (h:V x=none) : Cp V x o x=some o:=by unfold Cp;grind
theorem a3m {y:Wd} (h:y≠x) : Cp V x o y=V y:=if_neg h
theorem d5v (hN:Nod V ws) (hw:w++[(i:Int)]≠x) : Ay (Cp V x o) (ws++us) w i=Ay V ws w i:=by
 unfold Ay;rw[a3m hw]
 cases h:V (w++[(i:Int)]) with
 | none=>rfl
 | some o' =>
  dsimp only;split
  ·rfl
  ·rename_i h1;rw[d5u ((hN.mem _).2 (.inr ⟨o',h,h1⟩))]
theorem b2v {a b:Wd} {i j:Int} (h:a++[i]=b++[j]) : a=b/\i=j:=by
 simp_all
theorem f9g {V:Wd->Option Int} {ws us:Wq} {I:Nat} {p w:Wd} {i:Int} {o:Int} (hN:Nod V ws) (hw:w≠p) : Bd (Cp V (p++[i]) o) (ws++us) I w=Bd V ws I w:=by
 grind[Bd,List.map_congr_left,b2v,d5v]
theorem f9h (hN:Nod V ws) (hi:i<I) : Bd (Cp V (p++[(i:Int)]) o) (ws++us) I p=(Bd V ws I p).set i (Ay (Cp V (p++[(i:Int)]) o) (ws++us) p i):=by
 apply List.ext_getElem?;intro j;by_cases hji:i=j
 ·grind[b7t,b2u]
 ·rw[g6e hji];by_cases hj:j<I
  ·rw[b7t hj,b7t hj,d5v hN];grind[b2v]
  grind[b2u]
theorem d5w (us:Wq) (hN:Nod V ws) (hp:p∈ws) (hi:i<I) :
  ws.map (Bd (Cp V (p++[(i:Int)]) o) (ws++us) I)=(Co V ws I).set (ws.idxOf p) (((Co V ws I).getD (ws.idxOf p) []).set i (Ay (Cp V (p++[(i:Int)]) o) (ws++us) p i)):=by
 obtain⟨hl,hat⟩:=d5t hp;apply List.ext_getElem?;intro k;by_cases hk:ws.idxOf p=k
 ·subst hk;rw[List.getElem?_set_self (by grind[b4l]),g4l,Dy hl,d5s hl,hat];simp_all[f9h]
 ·rw[g6e hk];by_cases hk2:k<ws.length
  ·unfold Co;rw[g4l,g4l,Dy hk2];refine congrArg some (f9g hN fun h=>hk ?_);have:ws[ws.idxOf p]=ws[k]:=by grind
   exact(List.getElem_inj hN.nd).1 this
  grind[b4l]
end Go.Ai
end
section
namespace Go.Ai
set_option maxRecDepth 10000
variable {V:Wd→Option Int} {ws:Wq}
theorem Nod.none_of (hN:Nod V ws) {x:Wd} (hx:x≠[]) (h:V x=none) (j:Int) : V (x++[j])=none:=by
 cases h2:V (x++[j]) with
 | none=>rfl
 | some o =>
  rcases hN.clo x j o h2 with h3|⟨o',h3,_⟩
  all_goals grind
theorem Nod.up (hN:Nod V ws) {x:Wd} {j:Int} (h:x++[j]∈ws) : x∈ws:=by
 rcases (hN.mem _).1 h with h1|⟨o,h1,h2⟩
 ·simp_all
 ·rcases hN.clo x j o h1 with h3|⟨o',h3,h4⟩
  ·exact(hN.mem x).2 (.inl h3)
  ·exact(hN.mem x).2 (.inr ⟨o',h3,h4 h2⟩)
theorem Nod.pre (hN:Nod V ws) {x:Wd} : ∀ (n:Nat) (u:Wd),u.length=n->x++u∈ws->x∈ws
 | 0,u,hu,h=>by
  grind
 | n+1,u,hu,h=>by
  have hne:u≠[]:=fun e=>by grind
  have e:=g6m hne;rw[<- e,<- g4q] at h;exact hN.pre n u.dropLast (by grind) (hN.up h)
theorem Nod.updDead (hN:Nod V ws) {p:Wd} {i:Int} (hp:p∈ws) (h:V (p++[i])=none) : Nod (Cp V (p++[i]) (-1)) ws:=by
 refine⟨hN.nd,fun w=>?_,fun y j o hy=>?_⟩
 ·by_cases hw:w=p++[i]
  ·subst hw;rw[b7v h];constructor
   ·intro h1;rcases (hN.mem _).1 h1 with h2|⟨o,h2,_⟩
    all_goals grind
   simp
  ·rw[a3m hw];exact hN.mem w
 ·by_cases hyx:y++[j]=p++[i]
  ·obtain⟨rfl,rfl⟩:=b2v hyx;rcases (hN.mem _).1 hp with h1|⟨o',h1,h2⟩
   all_goals simp_all[a3m]
  ·rw[a3m hyx] at hy;rcases hN.clo y j o hy with h1|⟨o',h1,h2⟩
   all_goals grind[a3m]
theorem Nod.updNew (hN:Nod V ws) {p:Wd} {i o:Int} (hp:p∈ws) (h:V (p++[i])=none) (ho:o ≠ -1) : Nod (Cp V (p++[i]) o) (ws++[p++[i]]):=by
 have hx:p++[i] ∉ ws:=fun h1=>by
  rcases (hN.mem _).1 h1 with h2|⟨o,h2,_⟩
  all_goals simp_all
 refine⟨?_,fun w=>?_,fun y j o' hy=>?_⟩
 ·rw[List.nodup_append];refine⟨hN.nd,by simp,fun a ha b hb e=>?_⟩;grind
 ·rw[Ed,Ek];by_cases hw:w=p++[i]
  ·subst hw;rw[b7v h];grind
  ·rw[a3m hw];constructor
   ·rintro (h1|h1)
    ·exact(hN.mem w).1 h1
    grind
   ·intro h1;exact .inl ((hN.mem w).2 h1)
 ·by_cases hyx:y++[j]=p++[i]
  ·obtain⟨rfl,rfl⟩:=b2v hyx;rcases (hN.mem _).1 hp with h1|⟨o',h1,h2⟩
   all_goals simp_all[a3m]
  ·rw[a3m hyx] at hy;rcases hN.clo y j o' hy with h1|⟨o'',h1,h2⟩
   all_goals grind[a3m]
def addV:(Wd->Option Int)->Wd->Wd->Wd->Wd->Option Int
 | V,p,i :: w,o :: r=>addV (Cp V (p++[i]) o) (p++[i]) w r
 | V,_,_,_=>V
theorem addV_keep:∀ (w r:Wd) (V:Wd->Option Int) (p y:Wd) (o:Int),V y=some o->addV V p w r y=some o
 | [],_,_,_,_,_,h=>h
 | _ :: _,[],_,_,_,_,h=>h
 | i :: w,o' :: r,V,p,y,o,h=>by
  refine addV_keep w r _ _ y o ?_;by_cases hy:y=p++[i]
  ·rw[b7u (hy ▸ h)];exact h
  ·rw[a3m hy];exact h
theorem d5x {p:Wd} {i:Int} {w:Wd} {k:Nat} : p++(i :: w).take (k+1)=(p++[i])++w.take k:=by
 grind
theorem addV_some:∀ (w r:Wd) (V:Wd->Option Int) (p:Wd) (k:Nat),r.length=w.length->k<w.length->∃ o,addV V p w r (p++w.take (k+1))=some o
 | [],_,_,_,_,_,h=>by cases h
 | _ :: _,[],_,_,_,h,_=>by cases h
 | i :: w,o :: r,V,p,0,_,_=>by
  simp[Cp,addV,addV_keep]
 | i :: w,o :: r,V,p,k+1,hl,hk=>by
  show ∃ o',addV (Cp V (p++[i]) o) (p++[i]) w r _=some o';rw[d5x];exact addV_some w r _ _ k (by grind) (by grind)
theorem addV_dead:∀ (w r:Wd) (V:Wd->Option Int) (p y:Wd),r.length=w.length->(∀ k,k<r.length->r.getD k 0 = -1)->addV V p w r y=V y\/(V y=none/\addV V p w r y=some (-1)/\∃ k,k<w.length/\y=p++w.take (k+1))
 | [],_,_,_,_,_,_=>.inl rfl
 | _ :: _,[],_,_,_,h,_=>by cases h
 | i :: w,o :: r,V,p,y,hl,hd=>by
  have ho:o = -1:=hd 0 (by simp);subst ho;show addV (Cp V (p++[i]) (-1)) (p++[i]) w r y=V y\/(V y=none/\addV (Cp V (p++[i]) (-1)) (p++[i]) w r y=some (-1)/\_);rcases addV_dead w r (Cp V (p++[i]) (-1)) (p++[i]) y (by grind) (fun k hk=>hd (k+1) (by grind)) with h|⟨h1,h2,k,hk,h3⟩
  ·by_cases hy:y=p++[i]
   ·cases hv:V y with
    | none =>
     refine .inr ⟨rfl,?_,0,by simp,by grind⟩;grind[b7v]
    | some o=>simp_all[b7u]
   grind[a3m]
  ·have hy:y≠p++[i]:=fun e=>by
    simp_all
   (simp_all[a3m];grind)
theorem c6r {O:Int} : ∀ (r:Wd) (k:Nat),okR O true r=true->k<r.length->r.getD k 0 = -1
 | [],_,_,hk=>by grind
 | o :: r,0,h,_=>(b4j h).2.2.1 rfl
 | o :: r,k+1,h,hk=>by
  obtain⟨_,_,h3,h4⟩:=b4j h;rw[h3 rfl] at h4;exact c6r r k h4 (by simpa using hk)
theorem f9i {V:List Int->Option Int} {ws:List (List Int)} {I:Nat} (hN:Nod V ws) {x w r:List Int} (hx:V x=some (-1)) (hx0:x≠[]) (hl:r.length=w.length) (hd:∀ k,k<r.length->r.getD k 0 = -1) : Co (addV V x w r) ws I=Co V ws I/\Nod (addV V x w r) ws:=by
 have hxw:x ∉ ws:=fun h=>by
  rcases (hN.mem _).1 h with h1|⟨o,h1,h2⟩
  all_goals grind
 have key:∀ v∈ws,∀ j:Int,addV V x w r (v++[j])=V (v++[j]):=fun v hv j=>by
  rcases addV_dead w r V x (v++[j]) hl hd with h|⟨h1,h2,k,hk,h3⟩
  ·exact h
  ·exfalso;have h4:v=x++w.take k:=by
    grind[a2l,b2v]
   rw[h4] at hv;exact hxw (hN.pre _ _ rfl hv)
 constructor
 ·grind[Co,List.map_congr_left,Bd,Ay]
 ·refine⟨hN.nd,fun v=>?_,fun y j o hy=>?_⟩
  ·rw[hN.mem v];rcases addV_dead w r V x v hl hd with h|⟨h1,h2,_⟩
   all_goals grind
  ·rcases addV_dead w r V x (y++[j]) hl hd with h|⟨h1,h2,k,hk,h3⟩
   ·rw[h] at hy;rcases hN.clo y j o hy with h1|⟨o',h1,h2⟩
    all_goals grind[addV_keep]
   ·rw[h2] at hy;cases hy;have h4:y=x++w.take k:=by
     grind[a2l,b2v]
    cases k with
    | zero =>
     rw[List.take_zero,List.append_nil] at h4;rw[h4];exact .inr ⟨-1,addV_keep _ _ _ _ _ _ hx,fun h=>absurd rfl h⟩
    | succ k =>
     obtain⟨o',ho'⟩:=addV_some w r V x k hl (by omega);grind
def b4m (I:Nat) : Tq->Nat->Wd->Wd->Tq
 | rows,at',i :: w,o :: r =>
  if o = -1 then rows.set at' ((rows.getD at' []).set i.toNat (-1,-2))
  else if ((rows.getD at' []).getD i.toNat (-1,-1)).1 = -1 then b4m I (rows.set at' ((rows.getD at' []).set i.toNat ((rows.length:Int),o))++[List.replicate I (-1,-1)]) rows.length w r
  else b4m I rows ((rows.getD at' []).getD i.toNat (-1,-1)).1.toNat w r
 | rows,_,_,_=>rows
theorem c6s {O:Int} {I:Nat} : ∀ (w r:List Int) (V:List Int->Option Int) (ws:List (List Int)) (p:List Int),Nod V ws->p∈ws->inW w I=true->okR O false r=true->r.length=w.length ->
  (∀ k,k<w.length->∀ o',V (p++w.take (k+1))=some o'->o'=r.getD k 0)->∃ us,Nod (addV V p w r) (ws++us)/\b4m I (Co V ws I) (ws.idxOf p) w r=Co (addV V p w r) (ws++us) I
 | [],_,V,ws,p,hN,_,_,_,_,_=>⟨[],by rw[List.append_nil];exact hN,by rw[List.append_nil];rfl⟩
 | _ :: _,[],_,_,_,_,_,_,_,h,_=>by cases h
 | i :: w,o :: r,V,ws,p,hN,hp,hw,hr,hl,hc=>by
  unfold inW at hw;rw[List.all_cons,Bool.and_eq_true] at hw;have hi:=of_decide_eq_true hw.1;obtain⟨a,rfl⟩ : ∃ a:Nat,i=a:=⟨i.toNat,by omega⟩;have ha:a<I:=by omega
  obtain⟨hr1,hr2,_,hr4⟩:=b4j hr;have hl' : r.length=w.length:=by grind
  obtain⟨hpl,hpat⟩:=d5t hp;have hc0:∀ o',V (p++[(a:Int)])=some o'->o'=o:=fun o' h=>by
   have:=hc 0 (by simp) o' (by grind);grind
  have hrow:(Co V ws I).getD (ws.idxOf p) []=Bd V ws I p:=by grind[d5s]
  have hent:(Bd V ws I p).getD a (-1,-1)=Ay V ws p a:=by grind[b7t]
  have hxne:p++[(a:Int)]≠[]:=by simp
  have hc1:∀ k,k<w.length->∀ o',Cp V (p++[(a:Int)]) o ((p++[(a:Int)])++w.take (k+1))=some o'->o'=r.getD k 0:=fun k hk o' h=>by
   rw[a3m (fun e=>by have h4:=congrArg List.length e;grind)] at h;have:=hc (k+1) (by grind) o' (by grind);grind
  show ∃ us,Nod (addV (Cp V (p++[(a:Int)]) o) (p++[(a:Int)]) w r) (ws++us)/\(if o = -1 then (Co V ws I).set (ws.idxOf p) (((Co V ws I).getD (ws.idxOf p) []).set (a:Int).toNat (-1,-2))
   else if (((Co V ws I).getD (ws.idxOf p) []).getD (a:Int).toNat (-1,-1)).1 = -1 then b4m I ((Co V ws I).set (ws.idxOf p) (((Co V ws I).getD (ws.idxOf p) []).set (a:Int).toNat (((Co V ws I).length:Int),o))++[List.replicate I (-1,-1)]) (Co V ws I).length w r
   else b4m I (Co V ws I) (((Co V ws I).getD (ws.idxOf p) []).getD (a:Int).toNat (-1,-1)).1.toNat w r)=Co (addV (Cp V (p++[(a:Int)]) o) (p++[(a:Int)]) w r) (ws++us) I
  rw[Int.toNat_natCast];by_cases ho:o = -1
  ·subst ho;rw[if_pos rfl];have hd:∀ k,k<r.length->r.getD k 0 = -1:=fun k hk=>c6r r k (by assumption) hk;have hx1:Cp V (p++[(a:Int)]) (-1) (p++[(a:Int)])=some (-1):=by
    cases h:V (p++[(a:Int)]) with
    | none=>exact b7v h
    | some o'=>rw[b7u h,h,hc0 o' h]
   have hN1:Nod (Cp V (p++[(a:Int)]) (-1)) ws:=by
    cases h:V (p++[(a:Int)]) with
    | none=>exact hN.updDead hp h
    | some o'=>grind[b7u]
   obtain⟨d1,d2⟩:=f9i (I:=I) hN1 hx1 hxne hl' hd;refine⟨[],by grind,?_⟩;rw[List.append_nil,d1];have h1:=d5w (I:=I) (o:=-1) [] hN hp ha;rw[List.append_nil] at h1;have h2:Ay (Cp V (p++[(a:Int)]) (-1)) ws p a=(-1,-2):=by grind[Ay]
   rw[h2] at h1;exact h1.symm
  ·rw[if_neg ho,hrow,hent];have hr4' : okR O false r=true:=by grind
   cases h:V (p++[(a:Int)]) with
   | none =>
    have he:Ay V ws p a=(-1,-1):=by grind[Ay]
    rw[he,if_pos rfl];have hxw:p++[(a:Int)] ∉ ws:=fun h1=>by
     rcases (hN.mem _).1 h1 with h2|⟨o',h2,_⟩
     all_goals grind
    have hN1:=hN.updNew hp h ho;have h1:=d5w (I:=I) (o:=o) [p++[(a:Int)]] hN hp ha;have h2:Ay (Cp V (p++[(a:Int)]) o) (ws++[p++[(a:Int)]]) p a=((ws.length:Int),o):=by
     unfold Ay;rw[b7v h];grind
    rw[h2,hrow] at h1;have h3:Bd (Cp V (p++[(a:Int)]) o) (ws++[p++[(a:Int)]]) I (p++[(a:Int)])=List.replicate I (-1,-1):=by
     unfold Bd;rw[List.eq_replicate_iff];refine⟨by simp,fun b hb=>?_⟩;obtain⟨j,_,rfl⟩:=List.mem_map.1 hb;unfold Ay;rw[a3m (by simp),hN.none_of hxne h]
    have h4:(Co V ws I).set (ws.idxOf p) ((Bd V ws I p).set a (((Co V ws I).length:Int),o))++[List.replicate I (-1,-1)]=Co (Cp V (p++[(a:Int)]) o) (ws++[p++[(a:Int)]]) I:=by
     grind[Co]
    rw[h4];have h5:(Co V ws I).length=(ws++[p++[(a:Int)]]).idxOf (p++[(a:Int)]):=by rw[b4l,f9f hxw]
    rw[h5];obtain⟨us,e1,e2⟩:=c6s w r _ _ (p++[(a:Int)]) hN1 (by simp) hw.2 hr4' hl' hc1;grind
   | some o' =>
    have hoo:=hc0 o' h;subst hoo;have hxw:p++[(a:Int)]∈ws:=(hN.mem _).2 (.inr ⟨o',h,ho⟩);have he:Ay V ws p a=(((ws.idxOf (p++[(a:Int)]) : Nat) : Int),o'):=by unfold Ay;grind
    rw[he,if_neg (by grind)];rw[b7u h] at hc1 |-;obtain⟨us,e1,e2⟩:=c6s w r V ws (p++[(a:Int)]) hN hxw hw.2 hr4' hl' hc1;grind[Int.toNat_natCast]
end Go.Ai
end
section
namespace Go.Ai
set_option maxRecDepth 10000
theorem d5y (t:List Int×Wd) (w:Wd) : ∀ (ts:Lq),valT (ts++[t]) w=match valT ts w with
  | some o=>some o
  | none=>if w≠[]/\w.length<=t.1.length/\t.1.take w.length=w then some (t.2.getD (w.length-1) 0) else none
 | []=>rfl
 | u :: ts=>by
  (simp_all[valT,d5y];grind)
theorem addV_eq:∀ (w r:Wd) (V:Wd->Option Int) (p y:Wd),r.length=w.length->addV V p w r y=match V y with
  | some o=>some o
  | none=>if p.length<y.length/\y.length<=p.length+w.length/\(p++w).take y.length=y then some (r.getD (y.length-p.length-1) 0) else none
 | [],_,V,p,y,_=>by
  show V y=_;grind
 | _ :: _,[],_,_,_,h=>by cases h
 | i :: w,o :: r,V,p,y,hl=>by
  show addV (Cp V (p++[i]) o) (p++[i]) w r y=_;rw[addV_eq w r _ _ y (by grind)];have hla:(p++[i]).length=p.length+1:=by simp
  by_cases hy:y=p++[i]
  ·(simp_all[Cp];grind)
  ·rw[a3m hy];grind
theorem f9j {ts:Lq} {t:List Int×Wd} (hl:t.2.length=t.1.length) : addV (valT ts) [] t.1 t.2=valT (ts++[t]):=by
 funext y;rw[addV_eq _ _ _ _ _ hl,d5y];grind
def a5l (ts:Lq) : Prop:=∀ u∈ts,∀ t∈ts,∀ k,k<u.1.length->k<t.1.length->u.1.take (k+1)=t.1.take (k+1)->u.2.getD k 0=t.2.getD k 0
theorem stepL_iff:∀ (x a y b:Wd) (k:Nat),a.length=x.length->b.length=y.length->(stepL x a y b k=none↔∀ j,j<x.length->j<y.length->x.take (j+1)=y.take (j+1)->a.getD j 0=b.getD j 0)
 | [],_,_,_,_,_,_=>⟨fun _ j h=>(by cases h),fun _=>rfl⟩
 | _ :: _,[],_,_,_,h,_=>by cases h
 | _ :: _,_ :: _,[],_,_,_,_=>⟨fun _ j _ h=>(by cases h),fun _=>rfl⟩
 | _ :: _,_ :: _,_ :: _,[],_,_,h=>by cases h
 | i :: x,p :: a,j :: y,q :: b,k,ha,hb=>by
  have ih:=stepL_iff x a y b (k+1) (by grind) (by grind);show ((if i=j then (if p=q then stepL x a y b (k+1) else some k) else none)=none↔_);by_cases h:i=j
  ·subst h;rw[if_pos rfl];by_cases h2:p=q
   ·subst h2;rw[if_pos rfl,ih]
    (simp_all;grind)
   ·rw[if_neg h2];constructor
    ·grind
    ·intro h3;exact absurd (h3 0 (by simp) (by simp) (by simp)) h2
  grind
theorem c6t (t:List Int×Wd) : ∀ (us:Lq) (a:Nat),a8v t us a=none↔∀ u∈us,stepL u.1 u.2 t.1 t.2 0=none
 | [],_=>⟨fun _ u hu=>(by grind),fun _=>rfl⟩
 | u :: us,a=>by
  have ih:=c6t t us (a+1);have e:a8v t (u :: us) a=match stepL u.1 u.2 t.1 t.2 0 with|some k=>some (a,k)|none=>a8v t us (a+1):=rfl
  grind
theorem d5z (ts:Lq) : ∀ (us:Lq) (b:Nat),b2s ts us b=none↔∀ (i:Nat) (h:i<us.length),∀ u∈ts.take (b+i),stepL u.1 u.2 us[i].1 us[i].2 0=none
 | [],_=>⟨fun _ i hi=>(by grind),fun _=>rfl⟩
 | t :: us,b=>by
  have ih:=d5z ts us (b+1);have e:b2s ts (t :: us) b=match a8v t (ts.take b) 0 with|some (a,k)=>some (a,b,k)|none=>b2s ts us (b+1):=rfl
  rw[e]
  cases h:a8v t (ts.take b) 0 with
  | some x =>
   constructor
   ·grind
   ·intro h2;have h3:=(c6t t (ts.take b) 0).2 fun u hu=>h2 0 (by simp) u hu;grind
  | none =>
   (simp_all[c6t];grind)
theorem f9k {ts:Lq} (hl:∀ t∈ts,t.2.length=t.1.length) : b2s ts ts 0=none↔a5l ts:=by
 rw[d5z];constructor
 ·intro h;have key:∀ (a b:Nat) (ha:a<ts.length) (hb:b<ts.length),a<b->∀ k,k<ts[a].1.length->k<ts[b].1.length->ts[a].1.take (k+1)=ts[b].1.take (k+1)->ts[a].2.getD k 0=ts[b].2.getD k 0:=fun a b ha hb hab=>by
   have h1:=h b hb ts[a] (by
    (simp_all[g3y];grind))
   grind[stepL_iff]
  intro u hu t ht k h1 h2 h3;obtain⟨a,ha,rfl⟩:=g3y.1 hu;obtain⟨b,hb,rfl⟩:=g3y.1 ht;grind
 ·intro h i hi u hu;have hu':=g4d hu;exact(stepL_iff _ _ _ _ _ (hl _ hu') (hl _ (Ds hi))).2 fun j=>h u hu' _ (Ds hi) j
theorem b4n {w:Wd} {o:Int} : ∀ {ts:Lq},valT ts w=some o->∃ u∈ts,w≠[]/\w.length<=u.1.length/\u.1.take w.length=w/\o=u.2.getD (w.length-1) 0
 | [],h=>by cases h
 | t :: ts,h=>by
  by_cases hc:w≠[]/\w.length<=t.1.length/\t.1.take w.length=w
  ·have e:valT (t :: ts) w=some (t.2.getD (w.length-1) 0):=if_pos hc;grind
  ·have e:valT (t :: ts) w=valT ts w:=if_neg hc;rw[e] at h;obtain⟨u,h1,h2⟩:=b4n h;exact⟨u,by simp[h1],h2⟩
theorem f9l {ts:Lq} (hc:a5l ts) {t:List Int×Wd} (ht:t∈ts) {k:Nat} (hk:k<t.1.length) : valT ts (t.1.take (k+1))=some (t.2.getD k 0):=by
 have hlen:(t.1.take (k+1)).length=k+1:=by grind
 have hne:t.1.take (k+1)≠[]:=fun e=>by grind
 have hsome:∀ us:Lq,t∈us->∃ o,valT us (t.1.take (k+1))=some o:=by
  intro us
  induction us with
  | nil=>grind
  | cons u us ih =>
   intro h;by_cases hcc:t.1.take (k+1)≠[]/\(t.1.take (k+1)).length<=u.1.length/\u.1.take (t.1.take (k+1)).length=t.1.take (k+1)
   ·exact⟨_,if_pos hcc⟩
   ·rcases Dv.1 h with rfl|h
    ·grind
    ·obtain⟨o,ho⟩:=ih h;exact⟨o,(if_neg hcc).trans ho⟩
 obtain⟨o,ho⟩:=hsome ts ht;obtain⟨u,h1,_,h3,h4,h5⟩:=b4n ho;rw[hlen] at h3 h4 h5;rw[ho,h5,Nat.add_sub_cancel];exact congrArg some (hc u h1 t ht k (by omega) hk h4)
theorem a5l.sub {ts us:Lq} (h:a5l us) (hs:∀ t∈ts,t∈us) : a5l ts:=fun u hu t ht=>h u (hs u hu) t (hs t ht)
def d6a (I:Nat) (ts:Lq) : Tq:=ts.foldl (fun rows t=>b4m I rows 0 t.1 t.2) [List.replicate I (-1,-1)]
theorem d6b {I:Nat} {O:Int} : ∀ (n:Nat) (ts:Lq),ts.length=n->a5l ts->(∀ t∈ts,a1a I O t=true)->∃ us,Nod (valT ts) ([] :: us)/\d6a I ts=Co (valT ts) ([] :: us) I
 | 0,ts,hn,_,_=>by
  have e:=g3r.1 hn;subst e;refine⟨[],⟨by simp,fun w=>?_,fun x j o h=>by cases h⟩,?_⟩
  ·rw[Ek];constructor
   ·grind
   ·rintro (h|⟨o,h,_⟩)
    ·exact h
    ·cases h
  ·show [List.replicate I (-1,-1)]=[Bd (valT []) [[]] I []];congr 1;unfold Bd;symm;rw[List.eq_replicate_iff];refine⟨by simp,fun b hb=>?_⟩;obtain⟨j,_,rfl⟩:=Eg.1 hb;rfl
 | n+1,ts,hn,hc,hv=>by
  have hne:ts≠[]:=fun e=>by grind
  have e:=g6m hne;generalize ts.getLast hne=t at e;generalize ts.dropLast=us at e;subst e;have hlu:us.length=n:=by grind
  obtain⟨vs,h1,h2⟩:=d6b n us hlu (hc.sub fun t ht=>by grind) fun t ht=>hv t (by grind);have hvt:=hv t (by simp);unfold a1a at hvt;rw[Dq,Dq] at hvt;have hlt:=of_decide_eq_true hvt.1.1;obtain⟨ks,h3,h4⟩:=c6s (O:=O) (I:=I) t.1 t.2 (valT us) ([] :: vs) [] h1 (by simp) hvt.1.2 hvt.2 hlt fun k hk o' ho'=>by
   rw[g6q] at ho';obtain⟨u,g1,_,g3,g4,g5⟩:=b4n ho';have hlen:(t.1.take (k+1)).length=k+1:=by grind
   rw[hlen] at g3 g4 g5;rw[g5,Nat.add_sub_cancel];exact hc u (by grind) t (by simp) k (by omega) hk g4
  grind[f9j,d6a]
end Go.Ai
end

