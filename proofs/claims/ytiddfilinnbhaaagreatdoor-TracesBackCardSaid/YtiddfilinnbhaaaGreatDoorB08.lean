/- A small verified interpreter over names, its proofs, and what was proved with it. No condition. -/
import Derived.Test.YtiddfilinnbhaaaGreatDoorRows
import Derived.Test.YtiddfilinnbhaaaGreatDoorB05
import Derived.Test.YtiddfilinnbhaaaGreatDoorB06
set_option linter.all false
set_option linter.deprecated false
section
namespace Go.Ai
open Go.Proofs
set_option maxRecDepth 100000
attribute [simp] Tryz.underlying0 Tryz.underlying1 Tryz.underlying2 Tryz.underlying3 Tryz.underlying4 Tryz.underlying5 Tryz.underlying6 Tryz.underlying7 Tryz.underlying8 Tryz.underlying9 Tryz.underlying10 Tryz.underlying11 Tryz.underlying12 Tryz.underlying13 Tryz.underlying14 Tryz.underlying15 Tryz.underlying16 Tryz.underlying17 Tryz.underlying18 Tryz.underlying19 Tryz.underlying20 Tryz.underlying21 Tryz.underlying22 Tryz.underlying23 Tryz.underlying24 Tryz.underlying25 Tryz.underlying26 Tryz.underlying27 Tryz.underlying28 Tryz.underlying29 Tryz.underlying30 Tryz.underlying31 Tryz.underlying32 Tryz.underlying33 Tryz.underlying34 Tryz.underlying35 Tryz.underlying36 Tryz.underlying37 Tryz.underlying38 Tryz.underlying39 Tryz.underlying40 Tryz.underlying41 Tryz.underlying42 Tryz.underlying43 Tryz.underlying44 Tryz.underlying45 Tryz.underlying46 Tryz.underlying47 Tryz.underlying48 Tryz.underlying49 Tryz.underlying50 Tryz.underlying51 Tryz.underlying52 Tryz.underlying53 Tryz.underlying54 Tryz.underlying55 Tryz.underlying56 Tryz.underlying57 Tryz.underlying58 Tryz.underlying59 Tryz.underlying60 Tryz.underlying61 Tryz.underlying62 Tryz.underlying63 Tryz.underlying64 Tryz.underlying65 Tryz.underlying66 Tryz.underlying67 Tryz.underlying68 Tryz.underlying69 Tryz.underlying70 Tryz.underlying71 Tryz.underlying72 Tryz.underlying73 Tryz.underlying74 Tryz.underlying75 Tryz.underlying76 Tryz.underlying77 Tryz.underlying78 Tryz.underlying79 Tryz.underlying80 Tryz.underlying81 Tryz.underlying82 Tryz.underlying83 Tryz.underlying84 Tryz.underlying85 Tryz.underlying86 Tryz.underlying87 Tryz.underlying88 Tryz.underlying89 Tryz.underlying90 Tryz.underlying91 Tryz.underlying92 Tryz.underlying93 Tryz.underlying94 Tryz.underlying95 Tryz.underlying96 Tryz.underlying97 Tryz.underlying98 Tryz.underlying99 Tryz.underlying100 Tryz.underlying101 Tryz.underlying102 Tryz.underlying103 Tryz.underlying104 Tryz.underlying105 Tryz.underlying106 Tryz.underlying107 Tryz.underlying108 Tryz.underlying109 Tryz.underlying110 Tryz.underlying111 Tryz.underlying112 Tryz.underlying113 Tryz.underlying114 Tryz.underlying115 Tryz.underlying116 Tryz.underlying117 Tryz.underlying118 Tryz.underlying119 Tryz.underlying120 Tryz.underlying121 Tryz.underlying122 Tryz.underlying123 Tryz.underlying124 Tryz.underlying125 Tryz.underlying126 Tryz.underlying127 Tryz.underlying128 Tryz.underlying129 Tryz.underlying130 Tryz.underlying131 Tryz.underlying132 Tryz.underlying133 Tryz.underlying134 Tryz.underlying135 Tryz.underlying136 Tryz.underlying137 Tryz.underlying138 Tryz.underlying139 Tryz.underlying140 Tryz.underlying141 Tryz.underlying142 Tryz.underlying143 Tryz.underlying144 Tryz.underlying145 Tryz.underlying146 Tryz.underlying147 Tryz.underlying148 Tryz.underlying149 Tryz.underlying150 Tryz.underlying151 Tryz.underlying152 Tryz.underlying153 Tryz.underlying154 Tryz.underlying155 Tryz.underlying156 Tryz.underlying157 Tryz.underlying158 Tryz.underlying159 Tryz.underlying160 Tryz.underlying161 Tryz.underlying162 Tryz.underlying163 Tryz.underlying164 Tryz.underlying165 Tryz.underlying166 Tryz.underlying167 Tryz.underlying168 Tryz.underlying169 Tryz.underlying170 Tryz.underlying171 Tryz.underlying172 Tryz.underlying173 Tryz.underlying174 Tryz.underlying175 Tryz.underlying176 Tryz.underlying177 Tryz.underlying178 Tryz.underlying179 Tryz.underlying180 Tryz.underlying181 Tryz.underlying182 Tryz.underlying183 Tryz.underlying184 Tryz.underlying185 Tryz.underlying186 Tryz.underlying187 Tryz.underlying188 Tryz.underlying189 Tryz.underlying190 Tryz.underlying191 Tryz.underlying192 Tryz.underlying193 Tryz.underlying194 Tryz.underlying195 Tryz.underlying196 Tryz.underlying197 Tryz.underlying198 Tryz.underlying199 Tryz.underlying200 Tryz.underlying201 Tryz.underlying202 Tryz.underlying203 Tryz.underlying204 Tryz.underlying205 Tryz.underlying206 Tryz.underlying207 Tryz.underlying208 Tryz.underlying209 Tryz.underlying210 Tryz.underlying211 Tryz.underlying212 Tryz.underlying213 Tryz.underlying214 Tryz.underlying215 Tryz.underlying216 Tryz.underlying217 Tryz.underlying218 Tryz.underlying219
theorem hb3:hasBody Tryz.prog 3=true:=by kernel_rfl
theorem hb4:hasBody Tryz.prog 4=true:=by kernel_rfl
theorem hb5:hasBody Tryz.prog 5=true:=by kernel_rfl
theorem hb15:hasBody Tryz.prog 15=true:=by kernel_rfl
theorem hb16:hasBody Tryz.prog 16=true:=by kernel_rfl
theorem hb18:hasBody Tryz.prog 18=true:=by kernel_rfl
theorem hb19:hasBody Tryz.prog 19=true:=by kernel_rfl
theorem hb20:hasBody Tryz.prog 20=true:=by kernel_rfl
theorem hb22:hasBody Tryz.prog 22=true:=by kernel_rfl
theorem hb25:hasBody Tryz.prog 25=true:=by kernel_rfl
theorem hb26:hasBody Tryz.prog 26=true:=by kernel_rfl
theorem hb28:hasBody Tryz.prog 28=true:=by kernel_rfl
theorem hb29:hasBody Tryz.prog 29=true:=by kernel_rfl
theorem hb32:hasBody Tryz.prog 32=true:=by kernel_rfl
theorem hb33:hasBody Tryz.prog 33=true:=by kernel_rfl
theorem hb34:hasBody Tryz.prog 34=true:=by kernel_rfl
theorem hb35:hasBody Tryz.prog 35=true:=by kernel_rfl
theorem hb36:hasBody Tryz.prog 36=true:=by kernel_rfl
theorem hb37:hasBody Tryz.prog 37=true:=by kernel_rfl
theorem hb46:hasBody Tryz.prog 46=true:=by kernel_rfl
theorem hb47:hasBody Tryz.prog 47=true:=by kernel_rfl
theorem hb51:hasBody Tryz.prog 51=true:=by kernel_rfl
theorem hb52:hasBody Tryz.prog 52=true:=by kernel_rfl
theorem hb53:hasBody Tryz.prog 53=true:=by kernel_rfl
theorem hb54:hasBody Tryz.prog 54=true:=by kernel_rfl
theorem hb55:hasBody Tryz.prog 55=true:=by kernel_rfl
theorem hb62:hasBody Tryz.prog 62=true:=by kernel_rfl
theorem hb67:hasBody Tryz.prog 67=true:=by kernel_rfl
theorem hb68:hasBody Tryz.prog 68=true:=by kernel_rfl
theorem hb69:hasBody Tryz.prog 69=true:=by kernel_rfl
theorem hb70:hasBody Tryz.prog 70=true:=by kernel_rfl
theorem hb71:hasBody Tryz.prog 71=true:=by kernel_rfl
theorem hb73:hasBody Tryz.prog 73=true:=by kernel_rfl
theorem hb74:hasBody Tryz.prog 74=true:=by kernel_rfl
theorem hb75:hasBody Tryz.prog 75=true:=by kernel_rfl
theorem hb82:hasBody Tryz.prog 82=true:=by kernel_rfl
theorem hb89:hasBody Tryz.prog 89=true:=by kernel_rfl
theorem hb90:hasBody Tryz.prog 90=true:=by kernel_rfl
theorem hb93:hasBody Tryz.prog 93=true:=by kernel_rfl
theorem hb97:hasBody Tryz.prog 97=true:=by kernel_rfl
theorem hb98:hasBody Tryz.prog 98=true:=by kernel_rfl
theorem hb99:hasBody Tryz.prog 99=true:=by kernel_rfl
theorem hb106:hasBody Tryz.prog 106=true:=by kernel_rfl
theorem hb110:hasBody Tryz.prog 110=true:=by kernel_rfl
theorem hb121:hasBody Tryz.prog 121=true:=by kernel_rfl
attribute [simp] hb3 hb4 hb5 hb15 hb16 hb18 hb19 hb20 hb22 hb25 hb26 hb28 hb29 hb32 hb33 hb34 hb35 hb36 hb37 hb46 hb47 hb51 hb52 hb53 hb54 hb55 hb62 hb67 hb68 hb69 hb70 hb71 hb73 hb74 hb75 hb82 hb89 hb90 hb93 hb97 hb98 hb99 hb106 hb110 hb121
theorem ag_5:tIsAgg Tryz.prog 5=some (false,1):=by kernel_rfl
theorem ag_3:tIsAgg Tryz.prog 3=some (false,1):=by kernel_rfl
theorem ag_59:tIsAgg Tryz.prog 59=some (true,2):=by kernel_rfl
theorem ag_92:tIsAgg Tryz.prog 92=some (true,2):=by kernel_rfl
theorem ag_67:tIsAgg Tryz.prog 67=some (false,1):=by kernel_rfl
theorem ag_81:tIsAgg Tryz.prog 81=some (false,1):=by kernel_rfl
theorem ag_36:tIsAgg Tryz.prog 36=some (false,1):=by kernel_rfl
theorem ag_38:tIsAgg Tryz.prog 38=some (true,3):=by kernel_rfl
theorem ag_57:tIsAgg Tryz.prog 57=some (false,1):=by kernel_rfl
theorem ag_4:tIsAgg Tryz.prog 4=some (false,1):=by kernel_rfl
theorem ag_22:tIsAgg Tryz.prog 22=some (false,1):=by kernel_rfl
theorem ag_24:tIsAgg Tryz.prog 24=some (true,3):=by kernel_rfl
theorem ag_44:tIsAgg Tryz.prog 44=some (true,3):=by kernel_rfl
theorem ag_132:tIsAgg Tryz.prog 132=some (true,2):=by kernel_rfl
theorem ag_50:tIsAgg Tryz.prog 50=some (false,1):=by kernel_rfl
theorem ag_27:tIsAgg Tryz.prog 27=some (true,5):=by kernel_rfl
theorem ag_41:tIsAgg Tryz.prog 41=some (true,3):=by kernel_rfl
theorem ag_52:tIsAgg Tryz.prog 52=some (true,9):=by kernel_rfl
theorem ag_104:tIsAgg Tryz.prog 104=some (false,1):=by kernel_rfl
theorem ag_25:tIsAgg Tryz.prog 25=some (false,1):=by kernel_rfl
theorem zl_92:zeroL Tryz.prog 92=some [.lit (.int .i64 0),.lit (.int .i64 0)]:=by kernel_rfl
theorem zl_59:zeroL Tryz.prog 59=some [.lit (.slice none 0 0),.lit (.slice none 0 0)]:=by kernel_rfl
theorem zl_24:zeroL Tryz.prog 24=some [.lit (.int .i64 0),.lit (.int .i64 0),.lit (.slice none 0 0)]:=by kernel_rfl
theorem zl_132:zeroL Tryz.prog 132=some [.lit (.int .i64 0),.lit (.int .i64 0)]:=by kernel_rfl
theorem zl_44:zeroL Tryz.prog 44=some [.lit (.int .i64 0),.lit (.int .i64 0),.lit (.slice none 0 0)]:=by kernel_rfl
theorem zl_38:zeroL Tryz.prog 38=some [.lit (.int .i64 0),.lit (.int .i64 0),.lit (.slice none 0 0)]:=by kernel_rfl
theorem zl_41:zeroL Tryz.prog 41=some [.lit (.int .i64 0),.lit (.int .i64 0),.lit (.int .i64 0)]:=by kernel_rfl
theorem zl_36:zeroL Tryz.prog 36=some [.lit (.slice none 0 0)]:=by kernel_rfl
theorem fo_92_0:fldOff Tryz.prog 92 0=some 0:=by kernel_rfl
theorem fo_92_1:fldOff Tryz.prog 92 1=some 1:=by kernel_rfl
theorem fo_38_2:fldOff Tryz.prog 38 2=some 2:=by kernel_rfl
theorem fo_38_1:fldOff Tryz.prog 38 1=some 1:=by kernel_rfl
theorem fo_44_2:fldOff Tryz.prog 44 2=some 2:=by kernel_rfl
theorem fo_44_0:fldOff Tryz.prog 44 0=some 0:=by kernel_rfl
theorem fo_59_0:fldOff Tryz.prog 59 0=some 0:=by kernel_rfl
theorem fo_59_1:fldOff Tryz.prog 59 1=some 1:=by kernel_rfl
theorem fo_24_2:fldOff Tryz.prog 24 2=some 2:=by kernel_rfl
theorem fo_38_0:fldOff Tryz.prog 38 0=some 0:=by kernel_rfl
theorem fo_24_0:fldOff Tryz.prog 24 0=some 0:=by kernel_rfl
theorem fo_24_1:fldOff Tryz.prog 24 1=some 1:=by kernel_rfl
theorem fo_44_1:fldOff Tryz.prog 44 1=some 1:=by kernel_rfl
theorem fo_132_0:fldOff Tryz.prog 132 0=some 0:=by kernel_rfl
theorem fo_132_1:fldOff Tryz.prog 132 1=some 1:=by kernel_rfl
theorem fo_52_1:fldOff Tryz.prog 52 1=some 5:=by kernel_rfl
theorem fo_52_0:fldOff Tryz.prog 52 0=some 0:=by kernel_rfl
theorem fo_52_4:fldOff Tryz.prog 52 4=some 8:=by kernel_rfl
theorem fo_52_3:fldOff Tryz.prog 52 3=some 7:=by kernel_rfl
theorem fo_52_2:fldOff Tryz.prog 52 2=some 6:=by kernel_rfl
theorem fo_27_3:fldOff Tryz.prog 27 3=some 3:=by kernel_rfl
theorem fo_27_4:fldOff Tryz.prog 27 4=some 4:=by kernel_rfl
theorem fo_27_2:fldOff Tryz.prog 27 2=some 2:=by kernel_rfl
theorem fo_27_1:fldOff Tryz.prog 27 1=some 1:=by kernel_rfl
theorem fo_27_0:fldOff Tryz.prog 27 0=some 0:=by kernel_rfl
theorem es_22:elSz Tryz.prog 22=some (none,2):=by kernel_rfl
theorem es_57:elSz Tryz.prog 57=some (none,1):=by kernel_rfl
theorem es_81:elSz Tryz.prog 81=some (none,2):=by kernel_rfl
theorem es_36:elSz Tryz.prog 36=some (none,1):=by kernel_rfl
theorem es_93:elSz Tryz.prog 93=some (none,1):=by kernel_rfl
theorem es_163:elSz Tryz.prog 163=some (none,1):=by kernel_rfl
theorem es_128:elSz Tryz.prog 128=some (none,2):=by kernel_rfl
theorem es_67:elSz Tryz.prog 67=some (none,1):=by kernel_rfl
theorem es_50:elSz Tryz.prog 50=some (none,1):=by kernel_rfl
theorem es_25:elSz Tryz.prog 25=some (none,1):=by kernel_rfl
theorem bi_92:bldI Tryz.prog 92=some ([.lit (.int .i64 0),.lit (.int .i64 0)],[(0,1),(1,1)]):=by kernel_rfl
theorem bi_59:bldI Tryz.prog 59=some ([.lit (.slice none 0 0),.lit (.slice none 0 0)],[(0,1),(1,1)]):=by kernel_rfl
theorem bi_132:bldI Tryz.prog 132=some ([.lit (.int .i64 0),.lit (.int .i64 0)],[(0,1),(1,1)]):=by kernel_rfl
theorem bi_24:bldI Tryz.prog 24=some ([.lit (.int .i64 0),.lit (.int .i64 0),.lit (.slice none 0 0)],[(0,1),(1,1),(2,1)]):=by kernel_rfl
theorem bi_44:bldI Tryz.prog 44=some ([.lit (.int .i64 0),.lit (.int .i64 0),.lit (.slice none 0 0)],[(0,1),(1,1),(2,1)]):=by kernel_rfl
theorem bi_38:bldI Tryz.prog 38=some ([.lit (.int .i64 0),.lit (.int .i64 0),.lit (.slice none 0 0)],[(0,1),(1,1),(2,1)]):=by kernel_rfl
theorem bi_41:bldI Tryz.prog 41=some ([.lit (.int .i64 0),.lit (.int .i64 0),.lit (.int .i64 0)],[(0,1),(1,1),(2,1)]):=by kernel_rfl
theorem bs_81:bsI Tryz.prog 81=some ([.lit (.int .i64 0),.lit (.int .i64 0)],2):=by kernel_rfl
theorem bs_57:bsI Tryz.prog 57=some ([.lit (.int .i64 0)],1):=by kernel_rfl
theorem bs_93:bsI Tryz.prog 93=some ([.lit (.slice none 0 0)],1):=by kernel_rfl
theorem bs_128:bsI Tryz.prog 128=some ([.lit (.int .i64 0),.lit (.int .i64 0)],2):=by kernel_rfl
theorem bs_36:bsI Tryz.prog 36=some ([.lit (.slice none 0 0)],1):=by kernel_rfl
theorem bs_22:bsI Tryz.prog 22=some ([.lit (.slice none 0 0),.lit (.slice none 0 0)],2):=by kernel_rfl
theorem ap_81_81:apI Tryz.prog 81 81=some (2,16):=by kernel_rfl
theorem ap_57_57:apI Tryz.prog 57 57=some (1,8):=by kernel_rfl
theorem ap_93_93:apI Tryz.prog 93 93=some (1,24):=by kernel_rfl
theorem ap_128_128:apI Tryz.prog 128 128=some (2,16):=by kernel_rfl
theorem ap_36_36:apI Tryz.prog 36 36=some (1,24):=by kernel_rfl
theorem ap_22_22:apI Tryz.prog 22 22=some (2,48):=by kernel_rfl
attribute [simp] ag_5 ag_3 ag_59 ag_92 ag_67 ag_81 ag_36 ag_38 ag_57 ag_4 ag_22 ag_24 ag_44 ag_132 ag_50 ag_27 ag_41 ag_52 ag_104 ag_25 zl_92 zl_59 zl_24 zl_132 zl_44 zl_38 zl_41 zl_36 fo_92_0 fo_92_1 fo_38_2 fo_38_1 fo_44_2 fo_44_0 fo_59_0 fo_59_1 fo_24_2 fo_38_0 fo_24_0 fo_24_1 fo_44_1 fo_132_0 fo_132_1 fo_52_1 fo_52_0 fo_52_4 fo_52_3 fo_52_2 fo_27_3 fo_27_4 fo_27_2 fo_27_1 fo_27_0 es_22 es_57 es_81 es_36 es_93 es_163 es_128 es_67 es_50 es_25 bi_92 bi_59 bi_132 bi_24 bi_44 bi_38 bi_41 bs_81 bs_57 bs_93 bs_128 bs_36 bs_22 ap_81_81 ap_57_57 ap_93_93 ap_128_128 ap_36_36 ap_22_22
theorem gsize:Tryz.prog.globals.size=3:=by kernel_rfl
end Go.Ai
end
section
namespace Go.Ai
def pl8:List (Nat×List It):=[(7,[.run 0,.run 1,.run 2,.run 3,.run 4,.run 5,.run 6,.run 7,.run 8,.run 9,.gate [7] [],.run 10,.run 11,.run 12,.run 13,.run 14,.run 15,.run 16,.run 17,.run 18,.run 19,.run 20,.run 21,.run 22,.run 23,.run 24,.run 25,.run 26,.run 27]),(12,[.run 0,.run 1,.run 2,.run 3,.run 4,.run 5,.run 6,.run 7,.run 8,.run 9,.run 10,.run 11,.run 12,.run 13,.run 14])]
theorem pl8_at_7:planAt pl8 7=[.run 0,.run 1,.run 2,.run 3,.run 4,.run 5,.run 6,.run 7,.run 8,.run 9,.gate [7] [],.run 10,.run 11,.run 12,.run 13,.run 14,.run 15,.run 16,.run 17,.run 18,.run 19,.run 20,.run 21,.run 22,.run 23,.run 24,.run 25,.run 26,.run 27]:=(rfl)
attribute [simp] pl8_at_7
theorem pl8_at_12:planAt pl8 12=[.run 0,.run 1,.run 2,.run 3,.run 4,.run 5,.run 6,.run 7,.run 8,.run 9,.run 10,.run 11,.run 12,.run 13,.run 14]:=(rfl)
attribute [simp] pl8_at_12
def pl18:List (Nat×List It):=[(16,[.run 0,.run 1,.run 2,.run 3,.run 4,.run 5,.run 6,.run 7,.run 8,.run 9,.run 10,.run 11,.run 12,.mk 13,.gate [10] [],.run 14,.run 15])]
theorem pl18_at_16:planAt pl18 16=[.run 0,.run 1,.run 2,.run 3,.run 4,.run 5,.run 6,.run 7,.run 8,.run 9,.run 10,.run 11,.run 12,.mk 13,.gate [10] [],.run 14,.run 15]:=(rfl)
attribute [simp] pl18_at_16
def pl20:List (Nat×List It):=[(11,[.run 0,.run 1,.run 2,.run 3,.run 4,.run 5,.run 6,.gate [3,1] [],.run 7,.run 8])]
theorem pl20_at_11:planAt pl20 11=[.run 0,.run 1,.run 2,.run 3,.run 4,.run 5,.run 6,.gate [3,1] [],.run 7,.run 8]:=(rfl)
attribute [simp] pl20_at_11
def pl22:List (Nat×List It):=[(10,[.run 0,.run 1,.run 2,.run 3,.run 4,.run 5,.run 6,.run 7,.run 8,.run 9,.run 10,.run 11])]
theorem pl22_at_10:planAt pl22 10=[.run 0,.run 1,.run 2,.run 3,.run 4,.run 5,.run 6,.run 7,.run 8,.run 9,.run 10,.run 11]:=(rfl)
attribute [simp] pl22_at_10
def pl25:List (Nat×List It):=[(6,[.run 0,.run 1,.run 2,.run 3,.run 4,.run 5,.run 6,.run 7,.run 8]),(7,[.run 0,.run 1,.run 2,.run 3,.run 4,.run 5,.run 6,.mk 7,.gate [1] [],.run 8,.run 9,.run 10])]
theorem pl25_at_6:planAt pl25 6=[.run 0,.run 1,.run 2,.run 3,.run 4,.run 5,.run 6,.run 7,.run 8]:=(rfl)
attribute [simp] pl25_at_6
theorem pl25_at_7:planAt pl25 7=[.run 0,.run 1,.run 2,.run 3,.run 4,.run 5,.run 6,.mk 7,.gate [1] [],.run 8,.run 9,.run 10]:=(rfl)
attribute [simp] pl25_at_7
def pl33:List (Nat×List It):=[(5,[.run 0,.run 1,.run 2,.run 3,.run 4,.run 5,.mk 7,.gate [5,0] [],.run 6,.gate [] [7],.run 8])]
theorem pl33_at_5:planAt pl33 5=[.run 0,.run 1,.run 2,.run 3,.run 4,.run 5,.mk 7,.gate [5,0] [],.run 6,.gate [] [7],.run 8]:=(rfl)
attribute [simp] pl33_at_5
def pl34:List (Nat×List It):=[(18,[.run 0,.run 1,.run 2,.run 3,.run 4,.run 5,.mk 6,.run 7,.mk 8,.gate [5,3,1] [6],.run 9]),(28,[.run 0,.run 1,.run 2,.run 3,.run 4,.run 5,.run 6,.mk 7,.gate [6,1] [],.run 8,.run 9,.run 10]),(29,[.run 0,.run 1,.run 2,.run 3,.run 4,.run 5,.run 6,.run 7,.run 8,.run 9,.run 10,.run 11,.run 12,.run 13,.run 14,.run 15,.run 16,.run 17,.run 18,.mk 19,.gate [18,15,10,8,3,1] [],.run 20,.run 21,.run 22]),(32,[.run 0,.run 1,.run 2,.run 3,.run 5,.run 6,.run 4,.gate [6,1] [],.run 7,.run 8,.mk 9,.gate [1] [],.run 10,.run 11,.run 12])]
theorem pl34_at_18:planAt pl34 18=[.run 0,.run 1,.run 2,.run 3,.run 4,.run 5,.mk 6,.run 7,.mk 8,.gate [5,3,1] [6],.run 9]:=(rfl)
attribute [simp] pl34_at_18
theorem pl34_at_28:planAt pl34 28=[.run 0,.run 1,.run 2,.run 3,.run 4,.run 5,.run 6,.mk 7,.gate [6,1] [],.run 8,.run 9,.run 10]:=(rfl)
attribute [simp] pl34_at_28
theorem pl34_at_29:planAt pl34 29=[.run 0,.run 1,.run 2,.run 3,.run 4,.run 5,.run 6,.run 7,.run 8,.run 9,.run 10,.run 11,.run 12,.run 13,.run 14,.run 15,.run 16,.run 17,.run 18,.mk 19,.gate [18,15,10,8,3,1] [],.run 20,.run 21,.run 22]:=(rfl)
attribute [simp] pl34_at_29
theorem pl34_at_32:planAt pl34 32=[.run 0,.run 1,.run 2,.run 3,.run 5,.run 6,.run 4,.gate [6,1] [],.run 7,.run 8,.mk 9,.gate [1] [],.run 10,.run 11,.run 12]:=(rfl)
attribute [simp] pl34_at_32
def pl35:List (Nat×List It):=[(6,[.run 0,.run 1,.run 2,.run 3,.run 4,.run 5,.run 6,.run 7,.run 8,.run 9,.run 10,.run 11,.run 12,.run 13,.run 14,.run 15,.run 16,.run 17,.run 18,.run 19,.run 20,.run 21,.run 22,.run 23,.run 24,.run 25,.run 26,.run 27,.run 28,.run 29])]
theorem pl35_at_6:planAt pl35 6=[.run 0,.run 1,.run 2,.run 3,.run 4,.run 5,.run 6,.run 7,.run 8,.run 9,.run 10,.run 11,.run 12,.run 13,.run 14,.run 15,.run 16,.run 17,.run 18,.run 19,.run 20,.run 21,.run 22,.run 23,.run 24,.run 25,.run 26,.run 27,.run 28,.run 29]:=(rfl)
attribute [simp] pl35_at_6
def pl36:List (Nat×List It):=[(25,[.run 0,.run 1,.run 2,.run 3,.run 4,.run 5,.run 6,.run 7,.run 8,.run 9,.run 10,.run 11,.run 12,.run 13,.mk 14,.gate [13,11,8,4,1] [],.run 15]),(30,[.run 0,.run 1,.run 2,.run 3,.run 4,.run 5,.run 6,.run 7,.mk 8,.gate [5,1] [],.run 9,.run 10,.run 11])]
theorem pl36_at_25:planAt pl36 25=[.run 0,.run 1,.run 2,.run 3,.run 4,.run 5,.run 6,.run 7,.run 8,.run 9,.run 10,.run 11,.run 12,.run 13,.mk 14,.gate [13,11,8,4,1] [],.run 15]:=(rfl)
attribute [simp] pl36_at_25
theorem pl36_at_30:planAt pl36 30=[.run 0,.run 1,.run 2,.run 3,.run 4,.run 5,.run 6,.run 7,.mk 8,.gate [5,1] [],.run 9,.run 10,.run 11]:=(rfl)
attribute [simp] pl36_at_30
def pl37:List (Nat×List It):=[(8,[.run 0,.run 1,.run 2,.run 3,.run 4,.run 5,.run 6,.run 7,.run 8]),(10,[.run 0,.run 1,.run 2,.run 3,.run 4,.run 5,.run 6,.run 7,.run 8])]
theorem pl37_at_8:planAt pl37 8=[.run 0,.run 1,.run 2,.run 3,.run 4,.run 5,.run 6,.run 7,.run 8]:=(rfl)
attribute [simp] pl37_at_8
theorem pl37_at_10:planAt pl37 10=[.run 0,.run 1,.run 2,.run 3,.run 4,.run 5,.run 6,.run 7,.run 8]:=(rfl)
attribute [simp] pl37_at_10
def pl51:List (Nat×List It):=[(2,[.run 0,.run 1,.run 2,.run 3,.run 4,.run 5,.run 6,.run 7,.run 8,.run 9,.run 10,.run 11,.run 12,.run 13,.run 14,.run 15,.run 16,.run 17,.run 18,.run 19,.run 20,.run 21]),(4,[.run 0,.run 1,.run 2,.run 3,.run 4,.run 5,.run 6,.run 7,.run 8,.run 9,.run 10])]
theorem pl51_at_2:planAt pl51 2=[.run 0,.run 1,.run 2,.run 3,.run 4,.run 5,.run 6,.run 7,.run 8,.run 9,.run 10,.run 11,.run 12,.run 13,.run 14,.run 15,.run 16,.run 17,.run 18,.run 19,.run 20,.run 21]:=(rfl)
attribute [simp] pl51_at_2
theorem pl51_at_4:planAt pl51 4=[.run 0,.run 1,.run 2,.run 3,.run 4,.run 5,.run 6,.run 7,.run 8,.run 9,.run 10]:=(rfl)
attribute [simp] pl51_at_4
def pl54:List (Nat×List It):=[(9,[.run 0,.run 1,.run 2,.run 3,.run 4,.run 5,.run 6,.run 7,.run 8,.run 9,.run 10]),(10,[.run 0,.run 1,.run 2,.run 3,.mk 4,.gate [0] [],.run 5,.run 6])]
theorem pl54_at_9:planAt pl54 9=[.run 0,.run 1,.run 2,.run 3,.run 4,.run 5,.run 6,.run 7,.run 8,.run 9,.run 10]:=(rfl)
attribute [simp] pl54_at_9
theorem pl54_at_10:planAt pl54 10=[.run 0,.run 1,.run 2,.run 3,.mk 4,.gate [0] [],.run 5,.run 6]:=(rfl)
attribute [simp] pl54_at_10
def pl62:List (Nat×List It):=[(6,[.run 0,.run 1,.run 2,.run 3,.run 4,.run 5,.run 6,.run 7,.run 8,.run 9,.run 10,.run 11,.run 12]),(11,[.run 0,.run 1,.run 2,.run 3,.run 4,.run 5,.run 6,.run 7,.run 8,.run 9,.run 10,.run 11,.run 12,.run 13,.run 14,.run 15,.run 16])]
theorem pl62_at_6:planAt pl62 6=[.run 0,.run 1,.run 2,.run 3,.run 4,.run 5,.run 6,.run 7,.run 8,.run 9,.run 10,.run 11,.run 12]:=(rfl)
attribute [simp] pl62_at_6
theorem pl62_at_11:planAt pl62 11=[.run 0,.run 1,.run 2,.run 3,.run 4,.run 5,.run 6,.run 7,.run 8,.run 9,.run 10,.run 11,.run 12,.run 13,.run 14,.run 15,.run 16]:=(rfl)
attribute [simp] pl62_at_11
def pl68:List (Nat×List It):=[(12,[.run 0,.run 1,.run 2,.run 3,.run 4,.run 5,.run 6,.run 7,.run 8,.run 9])]
theorem pl68_at_12:planAt pl68 12=[.run 0,.run 1,.run 2,.run 3,.run 4,.run 5,.run 6,.run 7,.run 8,.run 9]:=(rfl)
attribute [simp] pl68_at_12
def pl69:List (Nat×List It):=[(3,[.run 0,.run 1,.run 2,.run 3,.run 4,.run 5,.run 6,.run 7,.run 8,.run 9,.run 10,.run 11,.run 12,.run 13,.run 14,.run 15])]
theorem pl69_at_3:planAt pl69 3=[.run 0,.run 1,.run 2,.run 3,.run 4,.run 5,.run 6,.run 7,.run 8,.run 9,.run 10,.run 11,.run 12,.run 13,.run 14,.run 15]:=(rfl)
attribute [simp] pl69_at_3
end Go.Ai
end
section
namespace Go.Ai
open Go.Proofs
attribute [simp] gsize
theorem hG:3=Tryz.prog.globals.size:=gsize.symm
end Go.Ai
end
section
namespace Go.Ai
open Go.Proofs
set_option maxRecDepth 10000
set_option maxHeartbeats 40000000
def inW (w:List Int) (q:Int) : Bool:=w.all fun i=>decide (0≤i∧i < q)
theorem wC1_w (x q:Int) (p:Nat) (g:Nat→Option Blk) (n:Nat) (hp:g p=some (.cells [.lit (.int .i64 q)] true 0)) (hpn:p < n) :
  WC 3 Tryz.prog 106 [.lit (.int .i64 x),.ptr p 0] ⟨.fn g,n⟩ fun r=>r=.ret (.lit (.bool (decide (¬(0≤x∧x < q))))) ⟨.fn g,n⟩:=by
 by_cases t1:x < 0
 ·have hd:decide (¬(0≤x∧x < q))=true:=decide_eq_true (by omega)
  rw [hd]
  refine WC.enterP (noO_ok _ _) hG [] Tryz.func106 rfl (by decide +kernel) (Nat.le_of_ble_eq_true (by kernel_rfl)) ?_
  iterate 6 all_goals try first|with_reducible refine spI (fun h=>?_) fun h=>?_|with_reducible refine spB (fun h=>?_) fun h=>?_|simp (maxSteps:=999999) (disch:=first|assumption|omega|(simp;done)|fail) [Tryz.results106, *]
 by_cases t2:q≤x
 ·have hd:decide (¬(0≤x∧x < q))=true:=decide_eq_true (by omega)
  rw [hd]
  refine WC.enterP (noO_ok _ _) hG [] Tryz.func106 rfl (by decide +kernel) (Nat.le_of_ble_eq_true (by kernel_rfl)) ?_
  iterate 6 all_goals try first|with_reducible refine spI (fun h=>?_) fun h=>?_|with_reducible refine spB (fun h=>?_) fun h=>?_|simp (maxSteps:=999999) (disch:=first|assumption|omega|(simp;done)|fail) [Tryz.results106, *]
 ·have hd:decide (¬(0≤x∧x < q))=false:=decide_eq_false (by omega)
  rw [hd]
  refine WC.enterP (noO_ok _ _) hG [] Tryz.func106 rfl (by decide +kernel) (Nat.le_of_ble_eq_true (by kernel_rfl)) ?_
  iterate 6 all_goals try first|with_reducible refine spI (fun h=>?_) fun h=>?_|with_reducible refine spB (fun h=>?_) fun h=>?_|simp (maxSteps:=999999) (disch:=first|assumption|omega|(simp;done)|fail) [Tryz.results106, *]
theorem iFunc_w (w:List Int) (hwl:w.length≤1000000) (q:Int) (sv:AV) (p:Nat) (g:Nat→Option Blk) (n:Nat) (hp:g p=some (.cells [.lit (.int .i64 q)] true 0)) (hpn:p < n) (hsv:RepW g n w sv) :
  WC 3 Tryz.prog 110 [sv,.func (.func 106) [] [.ptr p 0]] ⟨.fn g,n⟩ fun r=>∃ z:Int,r=.ret (.lit (.int .i64 z)) ⟨.fn g,n⟩∧decide (0≤z) = !(w.all fun i=>decide (0≤i∧i < q)):=by
 have hlen:=@lenV Tryz.prog _ _ _ _ _ hsv
 have HS:=Hide.mk hsv
 have HP:=Hide.mk hp
 clear hsv hp
 obtain ⟨ret,hret⟩ : ∃ b,b = !(w.all fun i=>decide (0≤i∧i < q)):=⟨_,rfl⟩
 rw [← hret]
 have HRET:=Hide.mk hret
 clear hret
 refine WC.enterP (noO_ok _ _) hG [] Tryz.func110 rfl (by decide +kernel) (Nat.le_of_ble_eq_true (by kernel_rfl)) ?_
 iterate 6 all_goals try first|with_reducible refine spI (fun h=>?_) fun h=>?_|with_reducible refine spB (fun h=>?_) fun h=>?_|simp (maxSteps:=999999) (disch:=first|assumption|omega|(simp;done)|fail) [Tryz.results110, *]
 refine LX.ind (fun m gf H'=>∃ (k:Nat),k≤w.length∧m=w.length - k∧H'=⟨.fn g,n⟩∧Hide (∀ i∈w.take k,0≤i∧i < q) ∧
  gf 0=some sv∧gf 1=some (.func (.func 106) [] [.ptr p 0])∧gf 7=some (.lit (.int .i64 w.length))∧gf 8=some (.lit (.int .i64 k))) (m0:=w.length) ?_ ?_
 ·exact ⟨0,Nat.zero_le _,rfl,rfl,⟨by simp⟩,by simp,by simp,by simp,by simp⟩
 rintro m gf H' ⟨k,hk,rfl,rfl,HPRE,w0,w1,w7,w8⟩ ih
 refine LX.roundP (noO_ok _ _) hG [] (by decide +kernel) ?_
 by_cases hlt:k < w.length
 ·have hltI:(k:Int) < (w.length:Int):=by omega
  obtain ⟨a2,off,ha2,hrow,hia⟩:=SliceV.ia (P:=Tryz.prog) HS.out hlt 1
  simp only [Nat.mul_one] at hia
  have hcell:=hrow.one (k:=k) (s:=1) (by rw [wdC_len]; exact hlt)
  rw [(List.getElem?_eq_some_iff.1 (wdC_at w k hlt)).2] at hcell
  have htk:w.take (k+1)=w.take k++[w[k]]:=by rw [List.take_succ,List.getElem?_eq_getElem hlt]; rfl
  have HT:=Hide.mk htk
  have HM:=Hide.mk (List.getElem_mem hlt)
  clear htk hrow ha2
  generalize w[k]=x at *
  have HC:=Hide.mk (wC1_w x q p g n HP.out hpn)
  iterate 6 all_goals try first|with_reducible refine spI (fun h=>?_) fun h=>?_|with_reducible refine spB (fun h=>?_) fun h=>?_|simp (maxSteps:=999999) (disch:=first|assumption|omega|(simp;done)|fail) [Tryz.results110, *]
  refine WC.mono HC.out ?_
  rintro _ rfl
  by_cases hb:0≤x∧x < q
  ·have hd:decide (¬(0≤x∧x < q))=false:=decide_eq_false (by omega)
   rw [hd]
   have HB:=Hide.mk hb
   clear hb
   iterate 6 all_goals try first|with_reducible refine spI (fun h=>?_) fun h=>?_|with_reducible refine spB (fun h=>?_) fun h=>?_|simp (maxSteps:=999999) (disch:=first|assumption|omega|(simp;done)|fail) [Tryz.results110, *]
   refine ih.out (w.length - (k+1)) _ _ (by omega) ⟨k+1,by omega,rfl,rfl,⟨fun i hi=>?_⟩,by simp [*],by simp [*],by simp [*],by simp⟩
   rw [HT.out] at hi
   rcases List.mem_append.1 hi with h | h
   ·exact HPRE.out i h
   ·rw [List.mem_singleton.1 h]; exact HB.out
  ·have hd:decide (¬(0≤x∧x < q))=true:=decide_eq_true hb
   rw [hd]
   have hr:ret=true:=by
    rw [HRET.out,Bool.not_eq_true',List.all_eq_false]
    exact ⟨x,HM.out,by simpa using hb⟩
   clear hb
   iterate 6 all_goals try first|with_reducible refine spI (fun h=>?_) fun h=>?_|with_reducible refine spB (fun h=>?_) fun h=>?_|simp (maxSteps:=999999) (disch:=first|assumption|omega|(simp;done)|fail) [Tryz.results110, *]
 ·have hltI:¬(k:Int) < (w.length:Int):=by omega
  have hk2:k=w.length:=by omega
  have hr:ret=false:=by
   rw [HRET.out,Bool.not_eq_false',List.all_eq_true]
   intro i hi
   have:=HPRE.out i (by rw [hk2,List.take_length]; exact hi)
   simpa using this
  clear hk2
  iterate 6 all_goals try first|with_reducible refine spI (fun h=>?_) fun h=>?_|with_reducible refine spB (fun h=>?_) fun h=>?_|simp (maxSteps:=999999) (disch:=first|assumption|omega|(simp;done)|fail) [Tryz.results110, *]
theorem cFunc_w (w:List Int) (hwl:w.length≤1000000) (q:Int) (sv:AV) (p:Nat) (g:Nat→Option Blk) (n:Nat) (hp:g p=some (.cells [.lit (.int .i64 q)] true 0)) (hpn:p < n) (hsv:RepW g n w sv) :
  WC 3 Tryz.prog 93 [sv,.func (.func 106) [] [.ptr p 0]] ⟨.fn g,n⟩ fun r=>r=.ret (.lit (.bool (!(w.all fun i=>decide (0≤i∧i < q))))) ⟨.fn g,n⟩:=by
 have HI:=Hide.mk (iFunc_w w hwl q sv p g n hp hpn hsv)
 clear hp hsv
 generalize (!(w.all fun i=>decide (0≤i∧i < q)))=bb at *
 refine WC.enterP (noO_ok _ _) hG [] Tryz.func93 rfl (by decide +kernel) (Nat.le_of_ble_eq_true (by kernel_rfl)) ?_
 iterate 6 all_goals try first|with_reducible refine spI (fun h=>?_) fun h=>?_|with_reducible refine spB (fun h=>?_) fun h=>?_|simp (maxSteps:=999999) (disch:=first|assumption|omega|(simp;done)|fail) [Tryz.results93, *]
 refine WC.mono HI.out ?_
 rintro _ ⟨z,rfl,hz⟩
 cases bb with
 | true =>
  have hz1:0≤z:=of_decide_eq_true hz
  clear hz
  iterate 6 all_goals try first|with_reducible refine spI (fun h=>?_) fun h=>?_|with_reducible refine spB (fun h=>?_) fun h=>?_|simp (maxSteps:=999999) (disch:=first|assumption|omega|(simp;done)|fail) [Tryz.results93, *]
 | false =>
  have hz1:¬0≤z:=of_decide_eq_false hz
  clear hz
  iterate 6 all_goals try first|with_reducible refine spI (fun h=>?_) fun h=>?_|with_reducible refine spB (fun h=>?_) fun h=>?_|simp (maxSteps:=999999) (disch:=first|assumption|omega|(simp;done)|fail) [Tryz.results93, *]
theorem tinputs_w (w:List Int) (hwl:w.length≤1000000) (q:Int) (sv:AV) (g:Nat→Option Blk) (n:Nat) (hsv:RepW g n w sv) :
  WC 3 Tryz.prog 82 [sv,.lit (.int .i64 q)] ⟨.fn g,n⟩ fun r=>r=.ret (.lit (.bool (inW w q))) ⟨.fn g,n⟩:=by
 refine WC.drop1 rfl ?_
 have HC:=Hide.mk (cFunc_w w hwl q sv n (gput g n (some (.cells [.lit (.int .i64 q)] true 0))) (n+1) gpe (by omega) (SliceV.mono (by omega) (fun a ha=>gpl ha) hsv))
 have hin:(w.all fun i=>decide (0≤i∧i < q))=inW w q:=rfl
 rw [hin] at HC
 clear hin hsv
 generalize inW w q=bb at *
 refine WC.enterP (noO_ok _ _) hG [] Tryz.func82 rfl (by decide +kernel) (Nat.le_of_ble_eq_true (by kernel_rfl)) ?_
 iterate 8 all_goals try first|with_reducible refine spI (fun h=>?_) fun h=>?_|with_reducible refine spB (fun h=>?_) fun h=>?_|simp (maxSteps:=999999) (disch:=first|assumption|omega|(simp;done)|fail) [Tryz.results82, *]
 refine WC.mono HC.out ?_
 rintro _ rfl
 cases bb
 all_goals
  iterate 8 all_goals try first|with_reducible refine spI (fun h=>?_) fun h=>?_|with_reducible refine spB (fun h=>?_) fun h=>?_|simp (maxSteps:=999999) (disch:=first|assumption|omega|(simp;done)|fail) [Tryz.results82, *]
  all_goals exact ⟨Nat.le_succ n,fun b hb=>gpl hb⟩
def RowsT (g:Nat→Option Blk) (n:Nat) (ts:List (List Int×List Int)) (cs:List AV) : Prop :=
 cs.length=ts.length * 2∧∀ (k:Nat) (h:k < ts.length),∃ s1 s2,cs[k * 2]?=some s1∧cs[k * 2+1]?=some s2∧RepW g n ts[k].1 s1∧RepW g n ts[k].2 s2
theorem RowsT.ext {g g' : Nat→Option Blk} {b b' : Nat} {ts:List (List Int×List Int)} {cs:List AV} (h:RowsT g b ts cs) (hb:b≤b') (hg:∀ a x,a < b→g a=some x→g' a=some x) : RowsT g' b' ts cs :=
 ⟨h.1,fun k hk=>let ⟨s1,s2,h1,h2,h3,h4⟩:=h.2 k hk; ⟨s1,s2,h1,h2,SliceV.ext hb hg h3,SliceV.ext hb hg h4⟩⟩
def LogR (g:Nat→Option Blk) (n:Nat) (ts:List (List Int×List Int)) (sv:AV) : Prop:=∃ cs,SliceV g n sv ts.length cs∧RowsT g n ts cs
theorem LogR.mono {g g' : Nat→Option Blk} {n n' : Nat} {ts:List (List Int×List Int)} {sv:AV} (h:LogR g n ts sv) (hn:n≤n') (hg:∀ a,a < n→g' a=g a) : LogR g' n' ts sv :=
 let ⟨cs,h1,h2⟩:=h; ⟨cs,h1.mono hn hg,h2.ext hn fun a x ha hx=>(hg a ha).trans hx⟩
theorem drop2 {cs:List AV} {k:Nat} {s1 s2:AV} (h1:cs[k]?=some s1) (h2:cs[k+1]?=some s2) : (cs.drop k).take 2=[s1,s2]:=by
 obtain ⟨a1,b1⟩:=List.getElem?_eq_some_iff.1 h1
 obtain ⟨a2,b2⟩:=List.getElem?_eq_some_iff.1 h2
 rw [List.drop_eq_getElem_cons a1,List.drop_eq_getElem_cons a2,b1,b2]
 rfl
structure AtT (g:Nat→Option Blk) (n:Nat) (sv:AV) (k:Nat) (t:List Int×List Int) (a off:Nat) (s1 s2:AV) : Prop where
 an:a < n
 ia:∀ {H:Mem} {ev:Ev} {o:Oper} {ty:TypeId},iaS Tryz.prog H ev o ty (some (none,2)) (some sv) (some (.lit (.int .i64 (k:Int))))=.val (.ptr a (off+k * 2)) H
 agg:loadB (some (true,2)) (g a) (off+k * 2)=some (.agg [s1,s2])
 c0:loadB (some (false,1)) (g a) (off+k * 2)=some s1
 c1:loadB (some (false,1)) (g a) (off+k * 2+1)=some s2
 r1:RepW g n t.1 s1
 r2:RepW g n t.2 s2
theorem LogR.at {g:Nat→Option Blk} {n:Nat} {ts:List (List Int×List Int)} {sv:AV} (h:LogR g n ts sv) {k:Nat} (hk:k < ts.length) : ∃ a off s1 s2,AtT g n sv k ts[k] a off s1 s2:=by
 obtain ⟨cs,h1,h2⟩:=h
 obtain ⟨s1,s2,e1,e2,r1,r2⟩:=h2.2 k hk
 obtain ⟨a,off,ha,hrow,hia⟩:=SliceV.ia (P:=Tryz.prog) h1 hk 2
 have hl:=h2.1
 refine ⟨a,off,s1,s2,ha,hia,?_,?_,?_,r1,r2⟩
 ·rw [hrow.agg (k:=k * 2) (s:=2) (by omega),drop2 e1 e2]
 ·have:=hrow.one (k:=k * 2) (s:=1) (by omega)
  rwa [(List.getElem?_eq_some_iff.1 e1).2] at this
 ·have:=hrow.one (k:=k * 2+1) (s:=1) (by omega)
  rw [(List.getElem?_eq_some_iff.1 e2).2] at this
  rw [Nat.add_assoc]; exact this
def withinB (I O:Int) (ts:List (List Int×List Int)) : Bool:=(ts.all fun t=>decide (t.1.length≤256)) && decide (I≤16) && decide (O≤16)
theorem within_w (I O:Int) (ts:List (List Int×List Int)) (hl:ts.length≤40) (hw:∀ t∈ts,t.1.length≤300) (g:Nat→Option Blk) (n:Nat) (sv:AV) (hT:LogR g n ts sv) :
  WC 3 Tryz.prog 46 [.agg [.lit (.int .i64 I),.lit (.int .i64 O),sv]] ⟨.fn g,n⟩ fun r=>r=.ret (.lit (.bool (withinB I O ts))) ⟨.fn g,n⟩:=by
 refine WC.drop1 rfl ?_
 have hlen:=@lenV Tryz.prog _ _ _ _ _ hT.choose_spec.1
 have h1s:=hT.choose_spec.1.one
 have hone:allOne [.lit (.int .i64 I),.lit (.int .i64 O),sv]=true:=by simp [h1s]
 have HT:=Hide.mk hT
 have HW:=Hide.mk hw
 clear hT hw
 obtain ⟨ret,hret⟩ : ∃ b,b=withinB I O ts:=⟨_,rfl⟩
 rw [← hret]
 have HRET:=Hide.mk hret
 clear hret
 refine WC.enterP (noO_ok _ _) hG [] Tryz.func46 rfl (by decide +kernel) (Nat.le_of_ble_eq_true (by kernel_rfl)) ?_
 iterate 8 all_goals try first|with_reducible refine spI (fun h=>?_) fun h=>?_|with_reducible refine spB (fun h=>?_) fun h=>?_|simp (maxSteps:=999999) (disch:=first|assumption|omega|(simp;done)|fail) [Tryz.results46, *]
 refine LX.ind (fun m gf H'=>∃ (k st n' : Nat) (gL:Nat→Option Blk),k≤ts.length∧m=ts.length - k∧H'=⟨.fn gL,n'⟩∧n < n'∧Hide (∀ b,b < n→gL b=g b)∧gL n=some (.cells [.lit (.int .i64 I),.lit (.int .i64 O),sv] true 0) ∧
  Hide (∀ t∈ts.take k,t.1.length≤256)∧st≤k * 300∧gf 1=some (.ptr n 0)∧gf 3=some (.lit (.int .i64 st))∧gf 7=some sv∧gf 8=some (.lit (.int .i64 ts.length))∧gf 9=some (.lit (.int .i64 k))) (m0:=ts.length) ?_ ?_
 ·exact ⟨0,0,_,_,Nat.zero_le _,rfl,rfl,Nat.lt_succ_self n,⟨fun b hb=>gpl hb⟩,gpe,⟨by simp⟩,by omega,by simp,by simp,by simp,by simp,by simp⟩
 rintro m gf H' ⟨k,st,n',gL,hk,rfl,rfl,hn',HG,hgn,HP,hst,w1,w3,w7,w8,w9⟩ ih
 refine LX.roundP (noO_ok _ _) hG [] (by decide +kernel) ?_
 by_cases hlt:k < ts.length
 ·have hltI:(k:Int) < (ts.length:Int):=by omega
  obtain ⟨a2,off,s1,s2,HAT0⟩:=(HT.out.mono (Nat.le_of_lt hn') HG.out).at hlt
  have HAT:=Hide.mk HAT0
  clear HAT0
  have hia:∀ {H:Mem} {ev:Ev} {o:Oper} {ty:TypeId},iaS Tryz.prog H ev o ty (some (none,2)) (some sv) (some (.lit (.int .i64 (k:Int))))=.val (.ptr a2 (off+k * 2)) H:=fun {H ev o ty}=>HAT.out.ia
  have hcell:=HAT.out.agg
  have hlw:=@lenV Tryz.prog _ _ _ _ _ HAT.out.r1
  have h1a:=HAT.out.r1.one
  have h1b:=HAT.out.r2.one
  have hone2:allOne [s1,s2]=true:=by simp [h1a,h1b]
  have hwl:=HW.out _ (List.getElem_mem hlt)
  have HTK:Hide (ts.take (k+1)=ts.take k++[ts[k]]):=⟨by rw [List.take_succ,List.getElem?_eq_getElem hlt]; rfl⟩
  have HMEM:=Hide.mk (List.getElem_mem hlt)
  clear HAT
  generalize ts[k]=t at *
  by_cases hbig:t.1.length > 256
  ·have hbigI:256 < (t.1.length:Int):=by omega
   have hr:ret=false:=by
    rw [HRET.out]; unfold withinB
    rw [Bool.and_eq_false_iff,Bool.and_eq_false_iff]
    left; left
    rw [List.all_eq_false]
    exact ⟨t,HMEM.out,by simpa using hbig⟩
   have hk1:¬1024≤(k:Int):=by omega
   iterate 8 all_goals try first|with_reducible refine spI (fun h=>?_) fun h=>?_|with_reducible refine spB (fun h=>?_) fun h=>?_|simp (maxSteps:=999999) (disch:=first|assumption|omega|(simp;done)|fail) [Tryz.results46, *]
   exact ⟨Nat.le_of_lt (Nat.lt_succ_of_lt hn'),fun b (hb:b < n)=>(gpl (by omega)).trans (HG.out b hb)⟩
  ·have hbigI:¬256 < (t.1.length:Int):=by omega
   have hk1:¬1024≤(k:Int):=by omega
   have hs1:¬65536 < (st:Int)+(t.1.length:Int):=by omega
   have HP2:Hide (∀ t∈ts.take (k+1),t.1.length≤256):=⟨fun v hv=>by
    rw [HTK.out] at hv
    rcases List.mem_append.1 hv with h | h
    ·exact HP.out v h
    ·rw [List.mem_singleton.1 h]; omega⟩
   iterate 8 all_goals try first|with_reducible refine spI (fun h=>?_) fun h=>?_|with_reducible refine spB (fun h=>?_) fun h=>?_|simp (maxSteps:=999999) (disch:=first|assumption|omega|(simp;done)|fail) [Tryz.results46, *]
   exact ih.out (ts.length - (k+1)) _ _ (by omega) ⟨k+1,st+t.1.length,_,_,by omega,rfl,rfl,by omega,⟨fun b hb=>(gpl (by omega)).trans (HG.out b hb)⟩,(gpl (by omega)).trans hgn,HP2,by omega,by simp [*],by simp [*],by simp [*],by simp [*],by simp⟩
 ·have hltI:¬(k:Int) < (ts.length:Int):=by omega
  have hall:(ts.all fun t=>decide (t.1.length≤256))=true:=List.all_eq_true.2 fun t ht=>decide_eq_true (HP.out t (by rw [show k=ts.length by omega,List.take_length]; exact ht))
  have hr0:ret=(decide (I≤16) && decide (O≤16)):=by rw [HRET.out]; unfold withinB; rw [hall,Bool.true_and]
  clear hall HP
  by_cases t1:I≤16
  ·by_cases t2:O≤16
   ·have hr:ret=true:=by rw [hr0,decide_eq_true t1,decide_eq_true t2]; rfl
    clear hr0
    iterate 8 all_goals try first|with_reducible refine spI (fun h=>?_) fun h=>?_|with_reducible refine spB (fun h=>?_) fun h=>?_|simp (maxSteps:=999999) (disch:=first|assumption|omega|(simp;done)|fail) [Tryz.results46, *]
    exact ⟨Nat.le_of_lt hn',fun b hb=>HG.out b hb⟩
   ·have hr:ret=false:=by rw [hr0,decide_eq_false t2,Bool.and_false]
    clear hr0
    iterate 8 all_goals try first|with_reducible refine spI (fun h=>?_) fun h=>?_|with_reducible refine spB (fun h=>?_) fun h=>?_|simp (maxSteps:=999999) (disch:=first|assumption|omega|(simp;done)|fail) [Tryz.results46, *]
    exact ⟨Nat.le_of_lt hn',fun b hb=>HG.out b hb⟩
  ·have hr:ret=false:=by rw [hr0,decide_eq_false t1,Bool.false_and]
   clear hr0
   iterate 8 all_goals try first|with_reducible refine spI (fun h=>?_) fun h=>?_|with_reducible refine spB (fun h=>?_) fun h=>?_|simp (maxSteps:=999999) (disch:=first|assumption|omega|(simp;done)|fail) [Tryz.results46, *]
   exact ⟨Nat.le_of_lt hn',fun b hb=>HG.out b hb⟩
def okR (O:Int) : Bool→List Int→Bool
 | _,[]=>true
 | p,o :: r=>!(decide (o < -1) || (decide (O≤o) || (p && decide (¬o = -1)))) && okR O (decide (o = -1)) r
def validB (I O:Int) (t:List Int×List Int) : Bool:=decide (t.2.length=t.1.length) && inW t.1 I && okR O false t.2
theorem okR_drop {O:Int} {p:Bool} {r:List Int} {k:Nat} (h:k < r.length) : okR O p (r.drop k)=(!(decide (r[k] < -1) || (decide (O≤r[k]) || (p && decide (¬r[k] = -1)))) && okR O (decide (r[k] = -1)) (r.drop (k+1))):=by
 rw [List.drop_eq_getElem_cons h]
 rfl
theorem valid_w (I O:Int) (t:List Int×List Int) (hw1:t.1.length≤300) (hw2:t.2.length≤300) (g:Nat→Option Blk) (n:Nat) (s1 s2:AV) (h1:RepW g n t.1 s1) (h2:RepW g n t.2 s2) :
  WC 3 Tryz.prog 47 [.agg [s1,s2],.lit (.int .i64 I),.lit (.int .i64 O)] ⟨.fn g,n⟩ fun r=>r=.ret (.lit (.bool (validB I O t))) ⟨.fn g,n⟩:=by
 refine WC.drop1 rfl ?_
 have hl1:=@lenV Tryz.prog _ _ _ _ _ h1
 have hl2:=@lenV Tryz.prog _ _ _ _ _ h2
 have h1a:=h1.one
 have h1b:=h2.one
 have hone2:allOne [s1,s2]=true:=by simp [h1a,h1b]
 have HI:=Hide.mk (tinputs_w t.1 (by omega) I s1 (gput g n (some (.cells [s1,s2] true 0))) (n+1) (SliceV.mono (by omega) (fun a ha=>gpl ha) h1))
 have H2:=Hide.mk h2
 clear h1 h2
 obtain ⟨ret,hret⟩ : ∃ b,b=validB I O t:=⟨_,rfl⟩
 rw [← hret]
 unfold validB at hret
 by_cases t1:t.2.length=t.1.length
 ·rw [decide_eq_true t1,Bool.true_and] at hret
  rw [← t1] at hl1
  clear hw1 t1
  generalize inW t.1 I=bb at *
  cases bb with
  | false =>
   have hr:ret=false:=by rw [hret,Bool.false_and]
   clear hret
   refine WC.enterP (noO_ok _ _) hG [] Tryz.func47 rfl (by decide +kernel) (Nat.le_of_ble_eq_true (by kernel_rfl)) ?_
   iterate 8 all_goals try first|with_reducible refine spI (fun h=>?_) fun h=>?_|with_reducible refine spB (fun h=>?_) fun h=>?_|simp (maxSteps:=999999) (disch:=first|assumption|omega|(simp;done)|fail) [Tryz.results47, *]
   refine WC.mono HI.out ?_
   rintro _ rfl
   iterate 8 all_goals try first|with_reducible refine spI (fun h=>?_) fun h=>?_|with_reducible refine spB (fun h=>?_) fun h=>?_|simp (maxSteps:=999999) (disch:=first|assumption|omega|(simp;done)|fail) [Tryz.results47, *]
   all_goals exact ⟨Nat.le_succ n,fun b hb=>gpl hb⟩
  | true =>
   rw [Bool.true_and] at hret
   have HRET:=Hide.mk hret
   clear hret
   refine WC.enterP (noO_ok _ _) hG [] Tryz.func47 rfl (by decide +kernel) (Nat.le_of_ble_eq_true (by kernel_rfl)) ?_
   iterate 8 all_goals try first|with_reducible refine spI (fun h=>?_) fun h=>?_|with_reducible refine spB (fun h=>?_) fun h=>?_|simp (maxSteps:=999999) (disch:=first|assumption|omega|(simp;done)|fail) [Tryz.results47, *]
   refine WC.mono HI.out ?_
   rintro _ rfl
   iterate 8 all_goals try first|with_reducible refine spI (fun h=>?_) fun h=>?_|with_reducible refine spB (fun h=>?_) fun h=>?_|simp (maxSteps:=999999) (disch:=first|assumption|omega|(simp;done)|fail) [Tryz.results47, *]
   refine LX.ind (fun m gf H'=>∃ (k:Nat) (p:Bool),k≤t.2.length∧m=t.2.length - k∧H'=⟨.fn (gput g n (some (.cells [s1,s2] true 0))),n+1⟩ ∧
    Hide (ret=okR O p (t.2.drop k))∧gf 2=some (.lit (.int .i64 O))∧gf 7=some (.lit (.bool p))∧gf 25=some s2∧gf 26=some (.lit (.int .i64 t.2.length))∧gf 27=some (.lit (.int .i64 k))) (m0:=t.2.length) ?_ ?_
   ·exact ⟨0,false,Nat.zero_le _,rfl,rfl,⟨by rw [List.drop_zero]; exact HRET.out⟩,by simp,by simp,by simp,by simp [*],by simp⟩
   rintro m gf H' ⟨k,p,hk,rfl,rfl,HP,w2,w7,w25,w26,w27⟩ ih
   refine LX.roundP (noO_ok _ _) hG [] (by decide +kernel) ?_
   by_cases hlt:k < t.2.length
   ·have hltI:(k:Int) < (t.2.length:Int):=by omega
    obtain ⟨a2,off,ha2,hrow,hia⟩:=SliceV.ia (P:=Tryz.prog) H2.out hlt 1
    simp only [Nat.mul_one] at hia
    have hcell:=hrow.one (k:=k) (s:=1) (by rw [wdC_len]; exact hlt)
    rw [(List.getElem?_eq_some_iff.1 (wdC_at t.2 k hlt)).2] at hcell
    have HD:Hide (ret=(!(decide (t.2[k] < -1) || (decide (O≤t.2[k]) || (p && decide (¬t.2[k] = -1)))) && okR O (decide (t.2[k] = -1)) (t.2.drop (k+1)))):=⟨by rw [HP.out,okR_drop hlt]⟩
    clear hrow
    generalize t.2[k]=o at *
    by_cases u1:o < -1
    ·have hr:ret=false:=by rw [HD.out,decide_eq_true u1]; rfl
     iterate 8 all_goals try first|with_reducible refine spI (fun h=>?_) fun h=>?_|with_reducible refine spB (fun h=>?_) fun h=>?_|simp (maxSteps:=999999) (disch:=first|assumption|omega|(simp;done)|fail) [Tryz.results47, *]
     all_goals exact ⟨Nat.le_succ n,fun b hb=>gpl hb⟩
    by_cases u2:O≤o
    ·have hr:ret=false:=by rw [HD.out,decide_eq_true u2,Bool.true_or,Bool.or_true]; rfl
     iterate 8 all_goals try first|with_reducible refine spI (fun h=>?_) fun h=>?_|with_reducible refine spB (fun h=>?_) fun h=>?_|simp (maxSteps:=999999) (disch:=first|assumption|omega|(simp;done)|fail) [Tryz.results47, *]
     all_goals exact ⟨Nat.le_succ n,fun b hb=>gpl hb⟩
    by_cases u3:o = -1
    ·have HD2:Hide (ret=okR O true (t.2.drop (k+1))):=⟨by rw [HD.out,decide_eq_false u1,decide_eq_false u2,decide_eq_true u3,decide_eq_false (by simpa using u3)]; simp⟩
     subst u3
     clear HD
     cases p
     all_goals
      iterate 8 all_goals try first|with_reducible refine spI (fun h=>?_) fun h=>?_|with_reducible refine spB (fun h=>?_) fun h=>?_|simp (maxSteps:=999999) (disch:=first|assumption|omega|(simp;done)|fail) [Tryz.results47, *]
      exact ih.out (t.2.length - (k+1)) _ _ (by omega) ⟨k+1,true,by omega,rfl,rfl,HD2,by simp [*],by simp [*],by simp [*],by simp [*],by simp⟩
    ·cases p with
     | true =>
      have hr:ret=false:=by rw [HD.out,decide_eq_true (by simpa using u3:¬o = -1)]; simp
      iterate 8 all_goals try first|with_reducible refine spI (fun h=>?_) fun h=>?_|with_reducible refine spB (fun h=>?_) fun h=>?_|simp (maxSteps:=999999) (disch:=first|assumption|omega|(simp;done)|fail) [Tryz.results47, *]
      all_goals exact ⟨Nat.le_succ n,fun b hb=>gpl hb⟩
     | false =>
      have HD2:Hide (ret=okR O false (t.2.drop (k+1))):=⟨by rw [HD.out,decide_eq_false u1,decide_eq_false u2,decide_eq_false u3]; simp⟩
      clear HD
      iterate 8 all_goals try first|with_reducible refine spI (fun h=>?_) fun h=>?_|with_reducible refine spB (fun h=>?_) fun h=>?_|simp (maxSteps:=999999) (disch:=first|assumption|omega|(simp;done)|fail) [Tryz.results47, *]
      exact ih.out (t.2.length - (k+1)) _ _ (by omega) ⟨k+1,false,by omega,rfl,rfl,HD2,by simp [*],by simp [*],by simp [*],by simp [*],by simp⟩
   ·have hltI:¬(k:Int) < (t.2.length:Int):=by omega
    have hr:ret=true:=by rw [HP.out,List.drop_eq_nil_of_le (by omega)]; rfl
    iterate 8 all_goals try first|with_reducible refine spI (fun h=>?_) fun h=>?_|with_reducible refine spB (fun h=>?_) fun h=>?_|simp (maxSteps:=999999) (disch:=first|assumption|omega|(simp;done)|fail) [Tryz.results47, *]
    all_goals exact ⟨Nat.le_succ n,fun b hb=>gpl hb⟩
 ·have t1I:¬(t.2.length:Int)=(t.1.length:Int):=by omega
  have hr:ret=false:=by rw [hret,decide_eq_false t1]; rfl
  clear hret
  refine WC.enterP (noO_ok _ _) hG [] Tryz.func47 rfl (by decide +kernel) (Nat.le_of_ble_eq_true (by kernel_rfl)) ?_
  iterate 8 all_goals try first|with_reducible refine spI (fun h=>?_) fun h=>?_|with_reducible refine spB (fun h=>?_) fun h=>?_|simp (maxSteps:=999999) (disch:=first|assumption|omega|(simp;done)|fail) [Tryz.results47, *]
  all_goals exact ⟨Nat.le_succ n,fun b hb=>gpl hb⟩
def logErr (I O:Int) (ts:List (List Int×List Int)) : Int:=if withinB I O ts=false then 3 else if I < 1∨O < 1 then 1 else if ts.all (validB I O)=true then 0 else 1
structure SmallL (ts:List (List Int×List Int)) : Prop where
 len:ts.length≤40
 w1:∀ t∈ts,t.1.length≤300
 w2:∀ t∈ts,t.2.length≤300
theorem Check_w (I O:Int) (ts:List (List Int×List Int)) (hl:SmallL ts) (g:Nat→Option Blk) (n:Nat) (sv:AV) (hT:LogR g n ts sv) :
  WC 3 Tryz.prog 15 [.agg [.lit (.int .i64 I),.lit (.int .i64 O),sv]] ⟨.fn g,n⟩ fun r=>r=.ret (.lit (.int .i64 (logErr I O ts))) ⟨.fn g,n⟩:=by
 refine WC.drop1 rfl ?_
 have hlen:=@lenV Tryz.prog _ _ _ _ _ hT.choose_spec.1
 have h1s:=hT.choose_spec.1.one
 have hone:allOne [.lit (.int .i64 I),.lit (.int .i64 O),sv]=true:=by simp [h1s]
 have HT:=Hide.mk hT
 have HW:=Hide.mk hl
 have hl20:=hl.len
 have HIN:=Hide.mk (within_w I O ts hl.len hl.w1 (gput g n (some (.cells [.lit (.int .i64 I),.lit (.int .i64 O),sv] true 0))) (n+1) sv (hT.mono (Nat.le_succ n) fun a ha=>gpl ha))
 clear hT hl
 obtain ⟨ret,hret⟩ : ∃ b,b=logErr I O ts:=⟨_,rfl⟩
 rw [← hret]
 unfold logErr at hret
 generalize withinB I O ts=wb at *
 cases wb with
 | false =>
  have hr:ret=3:=by rw [hret,if_pos rfl]
  clear hret
  refine WC.enterP (noO_ok _ _) hG [] Tryz.func15 rfl (by decide +kernel) (Nat.le_of_ble_eq_true (by kernel_rfl)) ?_
  iterate 8 all_goals try first|with_reducible refine spI (fun h=>?_) fun h=>?_|with_reducible refine spB (fun h=>?_) fun h=>?_|simp (maxSteps:=999999) (disch:=first|assumption|omega|(simp;done)|fail) [Tryz.results15, *]
  refine WC.mono HIN.out ?_
  rintro _ rfl
  iterate 8 all_goals try first|with_reducible refine spI (fun h=>?_) fun h=>?_|with_reducible refine spB (fun h=>?_) fun h=>?_|simp (maxSteps:=999999) (disch:=first|assumption|omega|(simp;done)|fail) [Tryz.results15, *]
  all_goals exact ⟨Nat.le_succ n,fun b hb=>gpl hb⟩
 | true =>
 rw [if_neg (by simp)] at hret
 by_cases t1:I < 1
 ·have hr:ret=1:=by rw [hret,if_pos (.inl t1)]
  clear hret
  refine WC.enterP (noO_ok _ _) hG [] Tryz.func15 rfl (by decide +kernel) (Nat.le_of_ble_eq_true (by kernel_rfl)) ?_
  iterate 8 all_goals try first|with_reducible refine spI (fun h=>?_) fun h=>?_|with_reducible refine spB (fun h=>?_) fun h=>?_|simp (maxSteps:=999999) (disch:=first|assumption|omega|(simp;done)|fail) [Tryz.results15, *]
  refine WC.mono HIN.out ?_
  rintro _ rfl
  iterate 8 all_goals try first|with_reducible refine spI (fun h=>?_) fun h=>?_|with_reducible refine spB (fun h=>?_) fun h=>?_|simp (maxSteps:=999999) (disch:=first|assumption|omega|(simp;done)|fail) [Tryz.results15, *]
  all_goals exact ⟨Nat.le_succ n,fun b hb=>gpl hb⟩
 by_cases t2:O < 1
 ·have hr:ret=1:=by rw [hret,if_pos (.inr t2)]
  clear hret
  refine WC.enterP (noO_ok _ _) hG [] Tryz.func15 rfl (by decide +kernel) (Nat.le_of_ble_eq_true (by kernel_rfl)) ?_
  iterate 8 all_goals try first|with_reducible refine spI (fun h=>?_) fun h=>?_|with_reducible refine spB (fun h=>?_) fun h=>?_|simp (maxSteps:=999999) (disch:=first|assumption|omega|(simp;done)|fail) [Tryz.results15, *]
  refine WC.mono HIN.out ?_
  rintro _ rfl
  iterate 8 all_goals try first|with_reducible refine spI (fun h=>?_) fun h=>?_|with_reducible refine spB (fun h=>?_) fun h=>?_|simp (maxSteps:=999999) (disch:=first|assumption|omega|(simp;done)|fail) [Tryz.results15, *]
  all_goals exact ⟨Nat.le_succ n,fun b hb=>gpl hb⟩
 rw [if_neg (by omega)] at hret
 have HRET:=Hide.mk hret
 clear hret
 refine WC.enterP (noO_ok _ _) hG [] Tryz.func15 rfl (by decide +kernel) (Nat.le_of_ble_eq_true (by kernel_rfl)) ?_
 iterate 8 all_goals try first|with_reducible refine spI (fun h=>?_) fun h=>?_|with_reducible refine spB (fun h=>?_) fun h=>?_|simp (maxSteps:=999999) (disch:=first|assumption|omega|(simp;done)|fail) [Tryz.results15, *]
 refine WC.mono HIN.out ?_
 rintro _ rfl
 iterate 8 all_goals try first|with_reducible refine spI (fun h=>?_) fun h=>?_|with_reducible refine spB (fun h=>?_) fun h=>?_|simp (maxSteps:=999999) (disch:=first|assumption|omega|(simp;done)|fail) [Tryz.results15, *]
 refine LX.ind (fun m gf H'=>∃ (k n' : Nat) (gL:Nat→Option Blk),k≤ts.length∧m=ts.length - k∧H'=⟨.fn gL,n'⟩∧n < n'∧Hide (∀ b,b < n→gL b=g b)∧gL n=some (.cells [.lit (.int .i64 I),.lit (.int .i64 O),sv] true 0) ∧
  Hide (∀ t∈ts.take k,validB I O t=true)∧gf 1=some (.ptr n 0)∧gf 17=some sv∧gf 18=some (.lit (.int .i64 ts.length))∧gf 19=some (.lit (.int .i64 k))) (m0:=ts.length) ?_ ?_
 ·exact ⟨0,_,_,Nat.zero_le _,rfl,rfl,Nat.lt_succ_self n,⟨fun b hb=>gpl hb⟩,gpe,⟨by simp⟩,by simp,by simp,by simp,by simp⟩
 rintro m gf H' ⟨k,n',gL,hk,rfl,rfl,hn',HG,hgn,HP,w1,w17,w18,w19⟩ ih
 refine LX.roundP (noO_ok _ _) hG [] (by decide +kernel) ?_
 by_cases hlt:k < ts.length
 ·have hltI:(k:Int) < (ts.length:Int):=by omega
  obtain ⟨a2,off,s1,s2,HAT0⟩:=(HT.out.mono (Nat.le_of_lt hn') HG.out).at hlt
  have HAT:=Hide.mk HAT0
  clear HAT0
  have hia:∀ {H:Mem} {ev:Ev} {o:Oper} {ty:TypeId},iaS Tryz.prog H ev o ty (some (none,2)) (some sv) (some (.lit (.int .i64 (k:Int))))=.val (.ptr a2 (off+k * 2)) H:=fun {H ev o ty}=>HAT.out.ia
  have hcell:=HAT.out.agg
  have h1a:=HAT.out.r1.one
  have h1b:=HAT.out.r2.one
  have hone2:allOne [s1,s2]=true:=by simp [h1a,h1b]
  have HMEM:=Hide.mk (List.getElem_mem hlt)
  have HTK:Hide (ts.take (k+1)=ts.take k++[ts[k]]):=⟨by rw [List.take_succ,List.getElem?_eq_getElem hlt]; rfl⟩
  have HV:=Hide.mk (valid_w I O ts[k] (HW.out.w1 _ HMEM.out) (HW.out.w2 _ HMEM.out) (gput gL n' (some (.cells [s1,s2] true 0))) (n'+1) s1 s2 (SliceV.mono (Nat.le_succ n') (fun a ha=>gpl ha) HAT.out.r1) (SliceV.mono (Nat.le_succ n') (fun a ha=>gpl ha) HAT.out.r2))
  clear HAT
  generalize ts[k]=t at *
  have HVB:Hide (∃ b,b=validB I O t):=⟨⟨_,rfl⟩⟩
  generalize hvb:validB I O t=vb at *
  have HVV:=Hide.mk hvb
  clear hvb HVB
  cases vb with
  | false =>
   have hr:ret=1:=by
    rw [HRET.out,if_neg]
    intro h
    have:=List.all_eq_true.1 h t HMEM.out
    rw [HVV.out] at this
    exact absurd this (by simp)
   iterate 8 all_goals try first|with_reducible refine spI (fun h=>?_) fun h=>?_|with_reducible refine spB (fun h=>?_) fun h=>?_|simp (maxSteps:=999999) (disch:=first|assumption|omega|(simp;done)|fail) [Tryz.results15, *]
   refine WC.mono HV.out ?_
   rintro _ rfl
   iterate 8 all_goals try first|with_reducible refine spI (fun h=>?_) fun h=>?_|with_reducible refine spB (fun h=>?_) fun h=>?_|simp (maxSteps:=999999) (disch:=first|assumption|omega|(simp;done)|fail) [Tryz.results15, *]
   all_goals exact ⟨Nat.le_of_lt (Nat.lt_succ_of_lt hn'),fun b (hb:b < n)=>(gpl (by omega)).trans (HG.out b hb)⟩
  | true =>
   have HP2:Hide (∀ t∈ts.take (k+1),validB I O t=true):=⟨fun v hv=>by
    rw [HTK.out] at hv
    rcases List.mem_append.1 hv with h | h
    ·exact HP.out v h
    ·rw [List.mem_singleton.1 h]; exact HVV.out⟩
   iterate 8 all_goals try first|with_reducible refine spI (fun h=>?_) fun h=>?_|with_reducible refine spB (fun h=>?_) fun h=>?_|simp (maxSteps:=999999) (disch:=first|assumption|omega|(simp;done)|fail) [Tryz.results15, *]
   refine WC.mono HV.out ?_
   rintro _ rfl
   iterate 8 all_goals try first|with_reducible refine spI (fun h=>?_) fun h=>?_|with_reducible refine spB (fun h=>?_) fun h=>?_|simp (maxSteps:=999999) (disch:=first|assumption|omega|(simp;done)|fail) [Tryz.results15, *]
   exact ih.out (ts.length - (k+1)) _ _ (by omega) ⟨k+1,_,_,by omega,rfl,rfl,by omega,⟨fun b hb=>(gpl (by omega)).trans (HG.out b hb)⟩,(gpl (by omega)).trans hgn,HP2,by simp [*],by simp [*],by simp [*],by simp⟩
 ·have hltI:¬(k:Int) < (ts.length:Int):=by omega
  have hr:ret=0:=by
   rw [HRET.out,if_pos]
   exact List.all_eq_true.2 fun t ht=>HP.out t (by rw [show k=ts.length by omega,List.take_length]; exact ht)
  clear HP
  iterate 8 all_goals try first|with_reducible refine spI (fun h=>?_) fun h=>?_|with_reducible refine spB (fun h=>?_) fun h=>?_|simp (maxSteps:=999999) (disch:=first|assumption|omega|(simp;done)|fail) [Tryz.results15, *]
  exact ⟨Nat.le_of_lt hn',fun b hb=>HG.out b hb⟩
theorem RepW.at {g:Nat→Option Blk} {n:Nat} {w:List Int} {q1:AV} (h:RepW g n w q1) {k:Nat} (hk:k < w.length) : ∃ a off,a < n∧(∀ {H:Mem} {ev:Ev} {o:Oper} {t:TypeId},iaS Tryz.prog H ev o t (some (none,1)) (some q1) (some (.lit (.int .i64 (k:Int))))=.val (.ptr a (off+k)) H)∧loadB (some (false,1)) (g a) (off+k)=some (.lit (.int .i64 w[k])):=by
 obtain ⟨a2,off,ha2,hrow,hia⟩:=SliceV.ia (P:=Tryz.prog) h hk 1
 simp only [Nat.mul_one] at hia
 have hcell:=hrow.one (k:=k) (s:=1) (by rw [wdC_len]; exact hk)
 rw [(List.getElem?_eq_some_iff.1 (wdC_at w k hk)).2] at hcell
 exact ⟨a2,off,ha2,hia,hcell⟩
end Go.Ai
end
