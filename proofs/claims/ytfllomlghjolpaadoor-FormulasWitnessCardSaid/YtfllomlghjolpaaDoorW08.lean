/- A small verified interpreter over names, its proofs, and what was proved with it. No condition. -/
import Derived.Test.YtfllomlghjolpaaDoorRows
import Derived.Test.YtfllomlghjolpaaDoorW05
import Derived.Test.YtfllomlghjolpaaDoorW06
set_option linter.all false
set_option linter.deprecated false
section
namespace Go.Ai
open Go.Proofs
set_option maxRecDepth 100000
attribute [simp] Tryd.underlying0 Tryd.underlying1 Tryd.underlying2 Tryd.underlying3 Tryd.underlying4 Tryd.underlying5 Tryd.underlying6 Tryd.underlying7 Tryd.underlying8 Tryd.underlying9 Tryd.underlying10 Tryd.underlying11 Tryd.underlying12 Tryd.underlying13 Tryd.underlying14 Tryd.underlying15 Tryd.underlying16 Tryd.underlying17 Tryd.underlying18 Tryd.underlying19 Tryd.underlying20 Tryd.underlying21 Tryd.underlying22 Tryd.underlying23 Tryd.underlying24 Tryd.underlying25 Tryd.underlying26 Tryd.underlying27 Tryd.underlying28 Tryd.underlying29 Tryd.underlying30 Tryd.underlying31 Tryd.underlying32 Tryd.underlying33 Tryd.underlying34 Tryd.underlying35 Tryd.underlying36 Tryd.underlying37 Tryd.underlying38 Tryd.underlying39 Tryd.underlying40 Tryd.underlying41 Tryd.underlying42 Tryd.underlying43 Tryd.underlying44 Tryd.underlying45 Tryd.underlying46 Tryd.underlying47 Tryd.underlying48 Tryd.underlying49 Tryd.underlying50 Tryd.underlying51 Tryd.underlying52 Tryd.underlying53 Tryd.underlying54 Tryd.underlying55 Tryd.underlying56 Tryd.underlying57 Tryd.underlying58 Tryd.underlying59 Tryd.underlying60 Tryd.underlying61 Tryd.underlying62 Tryd.underlying63 Tryd.underlying64 Tryd.underlying65 Tryd.underlying66 Tryd.underlying67 Tryd.underlying68 Tryd.underlying69 Tryd.underlying70 Tryd.underlying71 Tryd.underlying72 Tryd.underlying73 Tryd.underlying74 Tryd.underlying75 Tryd.underlying76 Tryd.underlying77 Tryd.underlying78 Tryd.underlying79 Tryd.underlying80 Tryd.underlying81 Tryd.underlying82 Tryd.underlying83 Tryd.underlying84 Tryd.underlying85 Tryd.underlying86 Tryd.underlying87 Tryd.underlying88 Tryd.underlying89 Tryd.underlying90 Tryd.underlying91 Tryd.underlying92 Tryd.underlying93 Tryd.underlying94 Tryd.underlying95 Tryd.underlying96 Tryd.underlying97 Tryd.underlying98 Tryd.underlying99 Tryd.underlying100 Tryd.underlying101 Tryd.underlying102 Tryd.underlying103 Tryd.underlying104 Tryd.underlying105 Tryd.underlying106 Tryd.underlying107 Tryd.underlying108 Tryd.underlying109 Tryd.underlying110 Tryd.underlying111 Tryd.underlying112 Tryd.underlying113 Tryd.underlying114 Tryd.underlying115 Tryd.underlying116 Tryd.underlying117 Tryd.underlying118 Tryd.underlying119 Tryd.underlying120 Tryd.underlying121 Tryd.underlying122 Tryd.underlying123 Tryd.underlying124 Tryd.underlying125 Tryd.underlying126 Tryd.underlying127 Tryd.underlying128 Tryd.underlying129 Tryd.underlying130 Tryd.underlying131 Tryd.underlying132 Tryd.underlying133 Tryd.underlying134 Tryd.underlying135 Tryd.underlying136 Tryd.underlying137 Tryd.underlying138 Tryd.underlying139 Tryd.underlying140 Tryd.underlying141 Tryd.underlying142 Tryd.underlying143 Tryd.underlying144 Tryd.underlying145 Tryd.underlying146 Tryd.underlying147 Tryd.underlying148 Tryd.underlying149 Tryd.underlying150 Tryd.underlying151 Tryd.underlying152 Tryd.underlying153 Tryd.underlying154 Tryd.underlying155 Tryd.underlying156 Tryd.underlying157 Tryd.underlying158 Tryd.underlying159 Tryd.underlying160 Tryd.underlying161 Tryd.underlying162 Tryd.underlying163 Tryd.underlying164 Tryd.underlying165 Tryd.underlying166 Tryd.underlying167 Tryd.underlying168 Tryd.underlying169 Tryd.underlying170 Tryd.underlying171 Tryd.underlying172 Tryd.underlying173 Tryd.underlying174 Tryd.underlying175 Tryd.underlying176 Tryd.underlying177 Tryd.underlying178 Tryd.underlying179 Tryd.underlying180 Tryd.underlying181 Tryd.underlying182 Tryd.underlying183 Tryd.underlying184 Tryd.underlying185 Tryd.underlying186 Tryd.underlying187 Tryd.underlying188 Tryd.underlying189 Tryd.underlying190 Tryd.underlying191 Tryd.underlying192 Tryd.underlying193 Tryd.underlying194
theorem hb3:hasBody Tryd.prog 3=true:=by kernel_rfl
theorem hb10:hasBody Tryd.prog 10=true:=by kernel_rfl
theorem hb13:hasBody Tryd.prog 13=true:=by kernel_rfl
theorem hb14:hasBody Tryd.prog 14=true:=by kernel_rfl
theorem hb20:hasBody Tryd.prog 20=true:=by kernel_rfl
theorem hb21:hasBody Tryd.prog 21=true:=by kernel_rfl
theorem hb22:hasBody Tryd.prog 22=true:=by kernel_rfl
theorem hb23:hasBody Tryd.prog 23=true:=by kernel_rfl
theorem hb24:hasBody Tryd.prog 24=true:=by kernel_rfl
theorem hb26:hasBody Tryd.prog 26=true:=by kernel_rfl
theorem hb28:hasBody Tryd.prog 28=true:=by kernel_rfl
theorem hb29:hasBody Tryd.prog 29=true:=by kernel_rfl
theorem hb30:hasBody Tryd.prog 30=true:=by kernel_rfl
theorem hb31:hasBody Tryd.prog 31=true:=by kernel_rfl
theorem hb32:hasBody Tryd.prog 32=true:=by kernel_rfl
theorem hb33:hasBody Tryd.prog 33=true:=by kernel_rfl
theorem hb34:hasBody Tryd.prog 34=true:=by kernel_rfl
theorem hb38:hasBody Tryd.prog 38=true:=by kernel_rfl
theorem hb43:hasBody Tryd.prog 43=true:=by kernel_rfl
theorem hb49:hasBody Tryd.prog 49=true:=by kernel_rfl
theorem hb50:hasBody Tryd.prog 50=true:=by kernel_rfl
theorem hb51:hasBody Tryd.prog 51=true:=by kernel_rfl
theorem hb52:hasBody Tryd.prog 52=true:=by kernel_rfl
theorem hb53:hasBody Tryd.prog 53=true:=by kernel_rfl
theorem hb54:hasBody Tryd.prog 54=true:=by kernel_rfl
theorem hb56:hasBody Tryd.prog 56=true:=by kernel_rfl
theorem hb64:hasBody Tryd.prog 64=true:=by kernel_rfl
theorem hb65:hasBody Tryd.prog 65=true:=by kernel_rfl
theorem hb66:hasBody Tryd.prog 66=true:=by kernel_rfl
theorem hb67:hasBody Tryd.prog 67=true:=by kernel_rfl
theorem hb68:hasBody Tryd.prog 68=true:=by kernel_rfl
theorem hb69:hasBody Tryd.prog 69=true:=by kernel_rfl
theorem hb70:hasBody Tryd.prog 70=true:=by kernel_rfl
theorem hb77:hasBody Tryd.prog 77=true:=by kernel_rfl
theorem hb122:hasBody Tryd.prog 122=true:=by kernel_rfl
theorem hb123:hasBody Tryd.prog 123=true:=by kernel_rfl
theorem hb124:hasBody Tryd.prog 124=true:=by kernel_rfl
theorem hb125:hasBody Tryd.prog 125=true:=by kernel_rfl
theorem hb126:hasBody Tryd.prog 126=true:=by kernel_rfl
theorem hb127:hasBody Tryd.prog 127=true:=by kernel_rfl
theorem hb128:hasBody Tryd.prog 128=true:=by kernel_rfl
theorem hb129:hasBody Tryd.prog 129=true:=by kernel_rfl
theorem hb130:hasBody Tryd.prog 130=true:=by kernel_rfl
theorem hb131:hasBody Tryd.prog 131=true:=by kernel_rfl
theorem hb132:hasBody Tryd.prog 132=true:=by kernel_rfl
theorem hb133:hasBody Tryd.prog 133=true:=by kernel_rfl
theorem hb134:hasBody Tryd.prog 134=true:=by kernel_rfl
theorem hb135:hasBody Tryd.prog 135=true:=by kernel_rfl
theorem hb136:hasBody Tryd.prog 136=true:=by kernel_rfl
theorem hb137:hasBody Tryd.prog 137=true:=by kernel_rfl
theorem hb138:hasBody Tryd.prog 138=true:=by kernel_rfl
theorem hb139:hasBody Tryd.prog 139=true:=by kernel_rfl
theorem hb140:hasBody Tryd.prog 140=true:=by kernel_rfl
theorem hb141:hasBody Tryd.prog 141=true:=by kernel_rfl
attribute [simp] hb3 hb10 hb13 hb14 hb20 hb21 hb22 hb23 hb24 hb26 hb28 hb29 hb30 hb31 hb32 hb33 hb34 hb38 hb43 hb49 hb50 hb51 hb52 hb53 hb54 hb56 hb64 hb65 hb66 hb67 hb68 hb69 hb70 hb77 hb122 hb123 hb124 hb125 hb126 hb127 hb128 hb129 hb130 hb131 hb132 hb133 hb134 hb135 hb136 hb137 hb138 hb139 hb140 hb141
theorem ag_73:tIsAgg Tryd.prog 73=some (false,1):=by kernel_rfl
theorem ag_76:tIsAgg Tryd.prog 76=some (true,5):=by kernel_rfl
theorem ag_3:tIsAgg Tryd.prog 3=some (false,1):=by kernel_rfl
theorem ag_70:tIsAgg Tryd.prog 70=some (true,2):=by kernel_rfl
theorem ag_63:tIsAgg Tryd.prog 63=some (false,1):=by kernel_rfl
theorem ag_28:tIsAgg Tryd.prog 28=some (false,1):=by kernel_rfl
theorem ag_5:tIsAgg Tryd.prog 5=some (false,1):=by kernel_rfl
theorem ag_74:tIsAgg Tryd.prog 74=some (false,1):=by kernel_rfl
theorem ag_34:tIsAgg Tryd.prog 34=some (true,4):=by kernel_rfl
theorem ag_31:tIsAgg Tryd.prog 31=some (false,1):=by kernel_rfl
theorem ag_32:tIsAgg Tryd.prog 32=some (false,1):=by kernel_rfl
theorem ag_30:tIsAgg Tryd.prog 30=some (true,3):=by kernel_rfl
theorem ag_128:tIsAgg Tryd.prog 128=some (true,2):=by kernel_rfl
theorem ag_115:tIsAgg Tryd.prog 115=some (false,1):=by kernel_rfl
theorem ag_4:tIsAgg Tryd.prog 4=some (false,1):=by kernel_rfl
theorem ag_113:tIsAgg Tryd.prog 113=some (false,1):=by kernel_rfl
theorem ag_22:tIsAgg Tryd.prog 22=some (false,1):=by kernel_rfl
theorem ag_42:tIsAgg Tryd.prog 42=some (false,1):=by kernel_rfl
theorem ag_25:tIsAgg Tryd.prog 25=some (false,1):=by kernel_rfl
theorem ag_24:tIsAgg Tryd.prog 24=some (true,5):=by kernel_rfl
theorem ag_27:tIsAgg Tryd.prog 27=some (true,6):=by kernel_rfl
theorem zl_70:zeroL Tryd.prog 70=some [.lit (.int .i64 0),.lit (.int .i64 0)]:=by kernel_rfl
theorem zl_34:zeroL Tryd.prog 34=some [.lit (.int .u8 0),.lit (.int .i64 0),.lit (.int .i64 0),.lit (.slice none 0 0)]:=by kernel_rfl
theorem zl_128:zeroL Tryd.prog 128=some [.lit (.int .i64 0),.lit (.int .i64 0)]:=by kernel_rfl
theorem zl_3:zeroL Tryd.prog 3=some [.lit (.int .i64 0)]:=by kernel_rfl
theorem zl_30:zeroL Tryd.prog 30=some [.lit (.int .i64 0),.lit (.int .i64 0),.lit (.slice none 0 0)]:=by kernel_rfl
theorem zl_114:zeroL Tryd.prog 114=some [.lit (.int .u64 0),.lit (.int .u64 0)]:=by kernel_rfl
theorem zl_76:zeroL Tryd.prog 76=some [.lit (.int .i64 0),.lit (.int .i64 0),.lit (.slice none 0 0),.lit (.slice none 0 0),.lit (.int .u64 0)]:=by kernel_rfl
theorem fo_76_2:fldOff Tryd.prog 76 2=some 4:=by kernel_rfl
theorem fo_34_2:fldOff Tryd.prog 34 2=some 2:=by kernel_rfl
theorem fo_70_1:fldOff Tryd.prog 70 1=some 1:=by kernel_rfl
theorem fo_34_1:fldOff Tryd.prog 34 1=some 1:=by kernel_rfl
theorem fo_70_0:fldOff Tryd.prog 70 0=some 0:=by kernel_rfl
theorem fo_30_2:fldOff Tryd.prog 30 2=some 2:=by kernel_rfl
theorem fo_76_0:fldOff Tryd.prog 76 0=some 0:=by kernel_rfl
theorem fo_76_1:fldOff Tryd.prog 76 1=some 3:=by kernel_rfl
theorem fo_34_0:fldOff Tryd.prog 34 0=some 0:=by kernel_rfl
theorem fo_34_3:fldOff Tryd.prog 34 3=some 3:=by kernel_rfl
theorem fo_117_0:fldOff Tryd.prog 117 0=some 0:=by kernel_rfl
theorem fo_30_1:fldOff Tryd.prog 30 1=some 1:=by kernel_rfl
theorem fo_30_0:fldOff Tryd.prog 30 0=some 0:=by kernel_rfl
theorem fo_117_3:fldOff Tryd.prog 117 3=some 3:=by kernel_rfl
theorem fo_24_3:fldOff Tryd.prog 24 3=some 3:=by kernel_rfl
theorem fo_24_4:fldOff Tryd.prog 24 4=some 4:=by kernel_rfl
theorem fo_24_2:fldOff Tryd.prog 24 2=some 2:=by kernel_rfl
theorem fo_24_1:fldOff Tryd.prog 24 1=some 1:=by kernel_rfl
theorem fo_24_0:fldOff Tryd.prog 24 0=some 0:=by kernel_rfl
theorem fo_27_1:fldOff Tryd.prog 27 1=some 5:=by kernel_rfl
theorem fo_27_0:fldOff Tryd.prog 27 0=some 0:=by kernel_rfl
theorem es_63:elSz Tryd.prog 63=some (none,2):=by kernel_rfl
theorem es_28:elSz Tryd.prog 28=some (none,1):=by kernel_rfl
theorem es_25:elSz Tryd.prog 25=some (none,1):=by kernel_rfl
theorem es_74:elSz Tryd.prog 74=some (none,1):=by kernel_rfl
theorem es_42:elSz Tryd.prog 42=some (none,1):=by kernel_rfl
theorem es_32:elSz Tryd.prog 32=some (none,4):=by kernel_rfl
theorem es_118:elSz Tryd.prog 118=some (some 15,4):=by kernel_rfl
theorem es_114:elSz Tryd.prog 114=some (some 2,1):=by kernel_rfl
theorem es_22:elSz Tryd.prog 22=some (none,1):=by kernel_rfl
theorem es_108:elSz Tryd.prog 108=some (none,1):=by kernel_rfl
theorem es_55:elSz Tryd.prog 55=some (none,1):=by kernel_rfl
theorem bi_70:bldI Tryd.prog 70=some ([.lit (.int .i64 0),.lit (.int .i64 0)],[(0,1),(1,1)]):=by kernel_rfl
theorem bi_34:bldI Tryd.prog 34=some ([.lit (.int .u8 0),.lit (.int .i64 0),.lit (.int .i64 0),.lit (.slice none 0 0)],[(0,1),(1,1),(2,1),(3,1)]):=by kernel_rfl
theorem bi_128:bldI Tryd.prog 128=some ([.lit (.int .i64 0),.lit (.int .i64 0)],[(0,1),(1,1)]):=by kernel_rfl
theorem bi_30:bldI Tryd.prog 30=some ([.lit (.int .i64 0),.lit (.int .i64 0),.lit (.slice none 0 0)],[(0,1),(1,1),(2,1)]):=by kernel_rfl
theorem bi_76:bldI Tryd.prog 76=some ([.lit (.int .i64 0),.lit (.int .i64 0),.lit (.slice none 0 0),.lit (.slice none 0 0),.lit (.int .u64 0)],[(0,3),(3,1),(4,1)]):=by kernel_rfl
theorem bs_42:bsI Tryd.prog 42=some ([.lit (.int .i64 0)],1):=by kernel_rfl
theorem bs_32:bsI Tryd.prog 32=some ([.lit (.int .u8 0),.lit (.int .i64 0),.lit (.int .i64 0),.lit (.slice none 0 0)],4):=by kernel_rfl
theorem bs_28:bsI Tryd.prog 28=some ([.lit (.slice none 0 0)],1):=by kernel_rfl
theorem bs_63:bsI Tryd.prog 63=some ([.lit (.int .i64 0),.lit (.int .i64 0)],2):=by kernel_rfl
theorem bs_108:bsI Tryd.prog 108=some ([.lit (.slice none 0 0)],1):=by kernel_rfl
theorem bs_55:bsI Tryd.prog 55=some ([.lit (.int .u8 0)],1):=by kernel_rfl
theorem ap_42_42:apI Tryd.prog 42 42=some (1,8):=by kernel_rfl
theorem ap_28_28:apI Tryd.prog 28 28=some (1,24):=by kernel_rfl
theorem ap_63_63:apI Tryd.prog 63 63=some (2,16):=by kernel_rfl
theorem ap_108_108:apI Tryd.prog 108 108=some (1,24):=by kernel_rfl
theorem ap_32_32:apI Tryd.prog 32 32=some (4,48):=by kernel_rfl
theorem fi_128_0:fdI Tryd.prog 128 0=some (false,0,1):=by kernel_rfl
theorem fi_128_1:fdI Tryd.prog 128 1=some (false,1,1):=by kernel_rfl
attribute [simp] ag_73 ag_76 ag_3 ag_70 ag_63 ag_28 ag_5 ag_74 ag_34 ag_31 ag_32 ag_30 ag_128 ag_115 ag_4 ag_113 ag_22 ag_42 ag_25 ag_24 ag_27 zl_70 zl_34 zl_128 zl_3 zl_30 zl_114 zl_76 fo_76_2 fo_34_2 fo_70_1 fo_34_1 fo_70_0 fo_30_2 fo_76_0 fo_76_1 fo_34_0 fo_34_3 fo_117_0 fo_30_1 fo_30_0 fo_117_3 fo_24_3 fo_24_4 fo_24_2 fo_24_1 fo_24_0 fo_27_1 fo_27_0 es_63 es_28 es_25 es_74 es_42 es_32 es_118 es_114 es_22 es_108 es_55 bi_70 bi_34 bi_128 bi_30 bi_76 bs_42 bs_32 bs_28 bs_63 bs_108 bs_55 ap_42_42 ap_28_28 ap_63_63 ap_108_108 ap_32_32 fi_128_0 fi_128_1
theorem gsize:Tryd.prog.globals.size=6:=by kernel_rfl
end Go.Ai
end
section
namespace Go.Ai
def pl7:List (Nat×List It):=[(3,[.run 0,.run 1,.gate [0] [],.run 2,.run 3]),(7,[.run 0,.run 1,.mk 2,.run 4,.gate [1] [],.run 3,.mk 5,.gate [4] [],.run 6,.run 7]),(23,[.run 0,.run 1,.mk 2,.gate [1,0] [],.run 3,.gate [0] [],.run 4,.run 5])]
theorem pl7_at_3:planAt pl7 3=[.run 0,.run 1,.gate [0] [],.run 2,.run 3]:=(rfl)
attribute [simp] pl7_at_3
theorem pl7_at_7:planAt pl7 7=[.run 0,.run 1,.mk 2,.run 4,.gate [1] [],.run 3,.mk 5,.gate [4] [],.run 6,.run 7]:=(rfl)
attribute [simp] pl7_at_7
theorem pl7_at_23:planAt pl7 23=[.run 0,.run 1,.mk 2,.gate [1,0] [],.run 3,.gate [0] [],.run 4,.run 5]:=(rfl)
attribute [simp] pl7_at_23
def pl10:List (Nat×List It):=[(6,[.run 0,.run 1,.run 2,.run 3,.run 4,.run 5,.run 6,.run 7,.run 8,.run 9,.run 10,.run 11,.run 12,.run 13,.run 14]),(10,[.mk 0,.run 1,.run 2,.run 3,.run 4,.run 6,.run 7,.run 8,.run 9,.run 10,.run 11,.run 12,.run 13,.run 14,.run 15,.run 16,.mk 17,.gate [16,11] [0],.run 5,.gate [16,11] [17],.run 18,.mk 19,.run 20,.run 21]),(12,[.mk 0,.run 1,.run 2,.run 3,.run 4,.run 6,.run 7,.run 8,.run 9,.run 10,.run 11,.mk 12,.gate [11] [0],.run 5,.gate [11] [12],.run 13,.mk 14,.run 15,.run 16]),(16,[.run 0,.run 1,.run 2,.run 3,.run 4,.run 5,.run 6,.run 7,.run 8,.run 9,.run 10,.run 11,.mk 12,.gate [9,4] [],.run 13,.run 14]),(20,[.run 0,.run 1,.gate [0] [],.run 2,.run 3]),(21,[.run 0,.run 1,.run 2,.run 3,.run 4,.run 5,.run 6,.run 7,.gate [6,3] [],.run 8])]
theorem pl10_at_6:planAt pl10 6=[.run 0,.run 1,.run 2,.run 3,.run 4,.run 5,.run 6,.run 7,.run 8,.run 9,.run 10,.run 11,.run 12,.run 13,.run 14]:=(rfl)
attribute [simp] pl10_at_6
theorem pl10_at_10:planAt pl10 10=[.mk 0,.run 1,.run 2,.run 3,.run 4,.run 6,.run 7,.run 8,.run 9,.run 10,.run 11,.run 12,.run 13,.run 14,.run 15,.run 16,.mk 17,.gate [16,11] [0],.run 5,.gate [16,11] [17],.run 18,.mk 19,.run 20,.run 21]:=(rfl)
attribute [simp] pl10_at_10
theorem pl10_at_12:planAt pl10 12=[.mk 0,.run 1,.run 2,.run 3,.run 4,.run 6,.run 7,.run 8,.run 9,.run 10,.run 11,.mk 12,.gate [11] [0],.run 5,.gate [11] [12],.run 13,.mk 14,.run 15,.run 16]:=(rfl)
attribute [simp] pl10_at_12
theorem pl10_at_16:planAt pl10 16=[.run 0,.run 1,.run 2,.run 3,.run 4,.run 5,.run 6,.run 7,.run 8,.run 9,.run 10,.run 11,.mk 12,.gate [9,4] [],.run 13,.run 14]:=(rfl)
attribute [simp] pl10_at_16
theorem pl10_at_20:planAt pl10 20=[.run 0,.run 1,.gate [0] [],.run 2,.run 3]:=(rfl)
attribute [simp] pl10_at_20
theorem pl10_at_21:planAt pl10 21=[.run 0,.run 1,.run 2,.run 3,.run 4,.run 5,.run 6,.run 7,.gate [6,3] [],.run 8]:=(rfl)
attribute [simp] pl10_at_21
def pl13:List (Nat×List It):=[(2,[.run 0,.mk 1,.run 2,.mk 3,.run 4,.run 5,.gate [] [1]]),(4,[.run 0,.run 1,.run 2,.run 3,.run 4,.run 5,.run 6]),(6,[.run 0,.run 1,.run 2,.run 3,.run 4,.run 5,.run 6]),(13,[.run 0,.run 1,.run 2,.run 3,.run 4,.run 5,.run 6,.run 7,.run 8,.run 9]),(29,[.run 0,.run 1,.run 2,.run 3,.run 4,.run 5,.run 6,.run 7,.run 8,.run 9,.run 10,.run 11,.run 12]),(31,[.run 0,.run 1,.run 2,.run 3,.run 4,.run 5,.run 6,.run 7,.run 8,.run 9,.run 10,.run 11,.run 12]),(48,[.run 0,.run 1,.run 2,.run 3,.run 4,.run 5,.run 6,.run 7,.run 8,.run 9,.run 10,.gate [5] [],.run 11]),(50,[.run 0,.run 1,.run 2,.run 3,.run 4,.run 5,.run 6,.run 7,.run 8,.run 9,.run 10,.run 11,.run 12,.run 13,.run 14,.run 15,.gate [5] [],.run 16]),(52,[.run 0,.run 1,.run 2,.run 3,.run 4,.run 5,.run 6,.run 7,.run 8,.run 9,.run 10,.run 11,.run 12,.run 13,.run 14,.gate [5] [],.run 15]),(54,[.run 0,.run 1,.run 2,.run 3,.run 4,.run 5,.run 6,.run 7,.run 8,.run 9,.run 10,.run 11,.gate [5] [],.run 12]),(56,[.run 0,.run 1,.run 2,.run 3,.run 4,.run 5,.run 6,.run 7,.run 8,.run 9,.run 10,.run 11,.run 12,.run 13,.run 14,.run 15,.gate [9,5] [],.run 16]),(58,[.run 0,.run 1,.run 2,.run 3,.run 4,.run 5,.run 6,.run 7,.run 8,.run 9,.run 10,.run 11,.run 12,.run 13,.run 14,.run 15,.run 16,.run 17,.run 18,.run 19,.run 20,.gate [9,5] [],.run 21])]
theorem pl13_at_2:planAt pl13 2=[.run 0,.mk 1,.run 2,.mk 3,.run 4,.run 5,.gate [] [1]]:=(rfl)
attribute [simp] pl13_at_2
theorem pl13_at_4:planAt pl13 4=[.run 0,.run 1,.run 2,.run 3,.run 4,.run 5,.run 6]:=(rfl)
attribute [simp] pl13_at_4
theorem pl13_at_6:planAt pl13 6=[.run 0,.run 1,.run 2,.run 3,.run 4,.run 5,.run 6]:=(rfl)
attribute [simp] pl13_at_6
theorem pl13_at_13:planAt pl13 13=[.run 0,.run 1,.run 2,.run 3,.run 4,.run 5,.run 6,.run 7,.run 8,.run 9]:=(rfl)
attribute [simp] pl13_at_13
theorem pl13_at_29:planAt pl13 29=[.run 0,.run 1,.run 2,.run 3,.run 4,.run 5,.run 6,.run 7,.run 8,.run 9,.run 10,.run 11,.run 12]:=(rfl)
attribute [simp] pl13_at_29
theorem pl13_at_31:planAt pl13 31=[.run 0,.run 1,.run 2,.run 3,.run 4,.run 5,.run 6,.run 7,.run 8,.run 9,.run 10,.run 11,.run 12]:=(rfl)
attribute [simp] pl13_at_31
theorem pl13_at_48:planAt pl13 48=[.run 0,.run 1,.run 2,.run 3,.run 4,.run 5,.run 6,.run 7,.run 8,.run 9,.run 10,.gate [5] [],.run 11]:=(rfl)
attribute [simp] pl13_at_48
theorem pl13_at_50:planAt pl13 50=[.run 0,.run 1,.run 2,.run 3,.run 4,.run 5,.run 6,.run 7,.run 8,.run 9,.run 10,.run 11,.run 12,.run 13,.run 14,.run 15,.gate [5] [],.run 16]:=(rfl)
attribute [simp] pl13_at_50
theorem pl13_at_52:planAt pl13 52=[.run 0,.run 1,.run 2,.run 3,.run 4,.run 5,.run 6,.run 7,.run 8,.run 9,.run 10,.run 11,.run 12,.run 13,.run 14,.gate [5] [],.run 15]:=(rfl)
attribute [simp] pl13_at_52
theorem pl13_at_54:planAt pl13 54=[.run 0,.run 1,.run 2,.run 3,.run 4,.run 5,.run 6,.run 7,.run 8,.run 9,.run 10,.run 11,.gate [5] [],.run 12]:=(rfl)
attribute [simp] pl13_at_54
theorem pl13_at_56:planAt pl13 56=[.run 0,.run 1,.run 2,.run 3,.run 4,.run 5,.run 6,.run 7,.run 8,.run 9,.run 10,.run 11,.run 12,.run 13,.run 14,.run 15,.gate [9,5] [],.run 16]:=(rfl)
attribute [simp] pl13_at_56
theorem pl13_at_58:planAt pl13 58=[.run 0,.run 1,.run 2,.run 3,.run 4,.run 5,.run 6,.run 7,.run 8,.run 9,.run 10,.run 11,.run 12,.run 13,.run 14,.run 15,.run 16,.run 17,.run 18,.run 19,.run 20,.gate [9,5] [],.run 21]:=(rfl)
attribute [simp] pl13_at_58
def pl21:List (Nat×List It):=[(14,[.run 0,.run 1,.run 2,.run 3,.run 4,.run 5,.run 6,.run 7,.run 8,.run 9,.gate [0] [],.run 10,.run 11,.run 12,.run 13]),(16,[.run 0,.run 1,.run 2,.run 3,.run 4,.run 5,.run 6,.run 7,.run 8,.run 9,.gate [3,0] [],.run 10,.run 11,.run 12,.run 13]),(18,[.run 0,.run 1,.run 2,.run 3,.run 4,.run 5,.run 6,.run 8,.run 9,.run 10,.run 11,.run 12,.run 7,.gate [12,10,8,0] [],.run 13,.gate [0] [],.run 14,.run 15,.run 16,.run 17])]
theorem pl21_at_14:planAt pl21 14=[.run 0,.run 1,.run 2,.run 3,.run 4,.run 5,.run 6,.run 7,.run 8,.run 9,.gate [0] [],.run 10,.run 11,.run 12,.run 13]:=(rfl)
attribute [simp] pl21_at_14
theorem pl21_at_16:planAt pl21 16=[.run 0,.run 1,.run 2,.run 3,.run 4,.run 5,.run 6,.run 7,.run 8,.run 9,.gate [3,0] [],.run 10,.run 11,.run 12,.run 13]:=(rfl)
attribute [simp] pl21_at_16
theorem pl21_at_18:planAt pl21 18=[.run 0,.run 1,.run 2,.run 3,.run 4,.run 5,.run 6,.run 8,.run 9,.run 10,.run 11,.run 12,.run 7,.gate [12,10,8,0] [],.run 13,.gate [0] [],.run 14,.run 15,.run 16,.run 17]:=(rfl)
attribute [simp] pl21_at_18
def pl22:List (Nat×List It):=[(13,[.run 0,.run 1,.mk 2,.run 4,.run 5,.run 6,.run 7,.run 8,.run 9,.run 10,.run 11,.run 12,.run 3,.run 13,.run 14,.gate [12,8,5] []])]
theorem pl22_at_13:planAt pl22 13=[.run 0,.run 1,.mk 2,.run 4,.run 5,.run 6,.run 7,.run 8,.run 9,.run 10,.run 11,.run 12,.run 3,.run 13,.run 14,.gate [12,8,5] []]:=(rfl)
attribute [simp] pl22_at_13
def pl24:List (Nat×List It):=[(10,[.run 0,.run 1,.run 2,.run 3,.run 4,.run 5,.run 6,.run 7,.run 8,.run 9,.run 10,.run 11,.run 12])]
theorem pl24_at_10:planAt pl24 10=[.run 0,.run 1,.run 2,.run 3,.run 4,.run 5,.run 6,.run 7,.run 8,.run 9,.run 10,.run 11,.run 12]:=(rfl)
attribute [simp] pl24_at_10
def pl29:List (Nat×List It):=[(16,[.run 0,.run 1,.run 2,.run 3,.run 4,.run 5,.run 6,.run 7,.run 8,.run 9,.run 10,.run 11,.run 12,.mk 13,.gate [10] [],.run 14,.run 15])]
theorem pl29_at_16:planAt pl29 16=[.run 0,.run 1,.run 2,.run 3,.run 4,.run 5,.run 6,.run 7,.run 8,.run 9,.run 10,.run 11,.run 12,.mk 13,.gate [10] [],.run 14,.run 15]:=(rfl)
attribute [simp] pl29_at_16
def pl30:List (Nat×List It):=[(1,[.run 0,.run 1,.run 2,.run 3,.mk 4,.run 5,.mk 6,.gate [3,2,0] [4],.run 7]),(5,[.run 0,.run 1,.run 2,.run 3,.run 4,.run 5,.run 6]),(10,[.run 0,.run 1,.run 2,.run 3,.run 4,.run 5,.run 6,.run 7,.run 8,.run 9,.run 10])]
theorem pl30_at_1:planAt pl30 1=[.run 0,.run 1,.run 2,.run 3,.mk 4,.run 5,.mk 6,.gate [3,2,0] [4],.run 7]:=(rfl)
attribute [simp] pl30_at_1
theorem pl30_at_5:planAt pl30 5=[.run 0,.run 1,.run 2,.run 3,.run 4,.run 5,.run 6]:=(rfl)
attribute [simp] pl30_at_5
theorem pl30_at_10:planAt pl30 10=[.run 0,.run 1,.run 2,.run 3,.run 4,.run 5,.run 6,.run 7,.run 8,.run 9,.run 10]:=(rfl)
attribute [simp] pl30_at_10
def pl31:List (Nat×List It):=[(7,[.run 0,.run 1,.run 2,.run 3,.run 4,.run 5,.run 6,.run 7,.run 8,.run 9,.run 10,.run 11,.run 12])]
theorem pl31_at_7:planAt pl31 7=[.run 0,.run 1,.run 2,.run 3,.run 4,.run 5,.run 6,.run 7,.run 8,.run 9,.run 10,.run 11,.run 12]:=(rfl)
attribute [simp] pl31_at_7
def pl49:List (Nat×List It):=[(17,[.run 0,.run 1,.run 2,.run 3,.run 4,.mk 5,.run 7,.run 8,.run 9,.run 10,.gate [3] [],.run 6,.run 11,.run 12,.gate [9] []])]
theorem pl49_at_17:planAt pl49 17=[.run 0,.run 1,.run 2,.run 3,.run 4,.mk 5,.run 7,.run 8,.run 9,.run 10,.gate [3] [],.run 6,.run 11,.run 12,.gate [9] []]:=(rfl)
attribute [simp] pl49_at_17
def pl50:List (Nat×List It):=[(8,[.run 0,.run 1,.mk 2,.run 4,.run 5,.run 3,.run 6,.run 7,.gate [5] []])]
theorem pl50_at_8:planAt pl50 8=[.run 0,.run 1,.mk 2,.run 4,.run 5,.run 3,.run 6,.run 7,.gate [5] []]:=(rfl)
attribute [simp] pl50_at_8
def pl54:List (Nat×List It):=[(1,[.run 0,.run 1,.run 2,.run 3,.run 4,.run 5,.run 6,.run 7,.run 8,.run 9,.run 10,.run 11,.run 12,.run 13,.run 14,.run 15,.run 16,.run 17,.run 18,.run 19,.run 20,.run 21,.run 22,.run 23,.run 24,.run 25,.run 26,.run 27,.run 28,.gate [0] []])]
theorem pl54_at_1:planAt pl54 1=[.run 0,.run 1,.run 2,.run 3,.run 4,.run 5,.run 6,.run 7,.run 8,.run 9,.run 10,.run 11,.run 12,.run 13,.run 14,.run 15,.run 16,.run 17,.run 18,.run 19,.run 20,.run 21,.run 22,.run 23,.run 24,.run 25,.run 26,.run 27,.run 28,.gate [0] []]:=(rfl)
attribute [simp] pl54_at_1
def pl56:List (Nat×List It):=[(1,[.run 0,.run 1,.run 2,.run 3,.run 4,.run 5,.run 6,.run 7,.run 8,.run 9,.run 10,.run 11,.run 12,.run 13,.run 14,.run 15,.run 16,.run 17,.run 18,.run 19,.run 20,.run 21,.run 22,.run 23,.run 24])]
theorem pl56_at_1:planAt pl56 1=[.run 0,.run 1,.run 2,.run 3,.run 4,.run 5,.run 6,.run 7,.run 8,.run 9,.run 10,.run 11,.run 12,.run 13,.run 14,.run 15,.run 16,.run 17,.run 18,.run 19,.run 20,.run 21,.run 22,.run 23,.run 24]:=(rfl)
attribute [simp] pl56_at_1
def pl65:List (Nat×List It):=[(3,[.run 0,.run 1,.run 2,.run 3,.run 4,.run 5,.run 6,.run 7,.run 8,.run 9,.run 10,.run 11,.run 12,.run 13,.run 14,.run 15])]
theorem pl65_at_3:planAt pl65 3=[.run 0,.run 1,.run 2,.run 3,.run 4,.run 5,.run 6,.run 7,.run 8,.run 9,.run 10,.run 11,.run 12,.run 13,.run 14,.run 15]:=(rfl)
attribute [simp] pl65_at_3
def pl67:List (Nat×List It):=[(1,[.run 0,.run 1,.run 2,.run 3,.run 4,.run 5,.run 6,.run 7,.gate [1] []])]
theorem pl67_at_1:planAt pl67 1=[.run 0,.run 1,.run 2,.run 3,.run 4,.run 5,.run 6,.run 7,.gate [1] []]:=(rfl)
attribute [simp] pl67_at_1
def pl68:List (Nat×List It):=[(8,[.run 0,.run 1,.run 2,.run 3,.run 4,.run 5,.run 6,.run 7,.run 8]),(9,[.run 0,.run 1,.run 2,.run 3,.run 4,.run 5,.run 6,.run 7,.run 8])]
theorem pl68_at_8:planAt pl68 8=[.run 0,.run 1,.run 2,.run 3,.run 4,.run 5,.run 6,.run 7,.run 8]:=(rfl)
attribute [simp] pl68_at_8
def pl136:List (Nat×List It):=[(1,[.run 0,.run 1,.run 2,.run 4,.run 3,.gate [4] [],.run 5,.run 6,.run 7,.run 8])]
theorem pl136_at_1:planAt pl136 1=[.run 0,.run 1,.run 2,.run 4,.run 3,.gate [4] [],.run 5,.run 6,.run 7,.run 8]:=(rfl)
attribute [simp] pl136_at_1
def pl138:List (Nat×List It):=[(1,[.run 0,.run 1,.run 2,.run 3,.run 4,.run 5,.run 6,.run 7,.run 8,.run 9,.gate [1] []])]
theorem pl138_at_1:planAt pl138 1=[.run 0,.run 1,.run 2,.run 3,.run 4,.run 5,.run 6,.run 7,.run 8,.run 9,.gate [1] []]:=(rfl)
attribute [simp] pl138_at_1
def pl139:List (Nat×List It):=[(1,[.run 0,.run 1,.run 2,.run 3,.run 4,.run 5,.run 6,.run 7,.run 8,.run 9,.gate [1] []])]
theorem pl139_at_1:planAt pl139 1=[.run 0,.run 1,.run 2,.run 3,.run 4,.run 5,.run 6,.run 7,.run 8,.run 9,.gate [1] []]:=(rfl)
attribute [simp] pl139_at_1
def pl140:List (Nat×List It):=[(1,[.run 0,.run 1,.run 2,.run 3,.run 4,.run 5,.run 6,.run 7,.run 8,.run 9,.run 10,.run 11,.gate [1] []])]
theorem pl140_at_1:planAt pl140 1=[.run 0,.run 1,.run 2,.run 3,.run 4,.run 5,.run 6,.run 7,.run 8,.run 9,.run 10,.run 11,.gate [1] []]:=(rfl)
attribute [simp] pl140_at_1
def pl141:List (Nat×List It):=[(1,[.run 0,.run 1,.run 2,.run 3,.run 4,.run 5,.run 6,.run 8,.run 9,.run 10,.run 11,.run 12,.run 13,.run 14,.run 15,.run 16,.run 17,.run 18,.run 7,.gate [14,10,8,1] [],.run 19,.run 20,.run 21,.run 22,.gate [1] []])]
theorem pl141_at_1:planAt pl141 1=[.run 0,.run 1,.run 2,.run 3,.run 4,.run 5,.run 6,.run 8,.run 9,.run 10,.run 11,.run 12,.run 13,.run 14,.run 15,.run 16,.run 17,.run 18,.run 7,.gate [14,10,8,1] [],.run 19,.run 20,.run 21,.run 22,.gate [1] []]:=(rfl)
attribute [simp] pl141_at_1
end Go.Ai
end
section
namespace Go.Ai
open Go.Proofs
structure OpRow where
 subs:Int
 rank:Int
 sign:ByteArray
 fn:FuncId
def OpRow.cells (r:OpRow) : List AV:=[.lit (.int .i64 r.subs),.lit (.int .i64 r.rank),.lit (.string r.sign),.lit (.func (.func r.fn) #[] #[])]
def opRows:List OpRow:=[
 ⟨0,4,⟨#[116,114,117,101]⟩,122⟩,
 ⟨0,4,⟨#[115,116,97,116,101]⟩,123⟩,
 ⟨0,4,⟨#[99,97,110]⟩,124⟩,
 ⟨0,4,⟨#[103,105,118,101,115]⟩,127⟩,
 ⟨1,3,⟨#[110,111,116]⟩,129⟩,
 ⟨2,2,⟨#[97,110,100]⟩,130⟩,
 ⟨2,1,⟨#[111,114]⟩,131⟩,
 ⟨1,3,⟨#[69,88]⟩,132⟩,
 ⟨1,3,⟨#[69,70]⟩,133⟩,
 ⟨1,3,⟨#[69,71]⟩,135⟩,
 ⟨2,4,⟨#[69]⟩,137⟩,
 ⟨1,3,⟨#[65,88]⟩,138⟩,
 ⟨1,3,⟨#[65,70]⟩,139⟩,
 ⟨1,3,⟨#[65,71]⟩,140⟩,
 ⟨2,4,⟨#[65]⟩,141⟩]
def opCells:List AV:=opRows.flatMap OpRow.cells
def opsB:Blk:=.cells opCells false 0
attribute [simp] gsize oLoad_glob
theorem hG:6=Tryd.prog.globals.size:=gsize.symm
end Go.Ai
end
section
namespace Go.Ai
open Go.Proofs
set_option maxRecDepth 10000
def bP:List AV:=[.lit (.int .u64 1),.lit (.int .u64 10),.lit (.int .u64 100),.lit (.int .u64 1000),.lit (.int .u64 10000),.lit (.int .u64 100000),.lit (.int .u64 1000000),.lit (.int .u64 10000000),.lit (.int .u64 100000000),.lit (.int .u64 1000000000),.lit (.int .u64 10000000000),.lit (.int .u64 100000000000),.lit (.int .u64 1000000000000),.lit (.int .u64 10000000000000),.lit (.int .u64 100000000000000),.lit (.int .u64 1000000000000000),.lit (.int .u64 10000000000000000),.lit (.int .u64 100000000000000000),.lit (.int .u64 1000000000000000000),.lit (.int .u64 10000000000000000000)]
def bT:List AV:=[.lit (.int .u8 0),.lit (.int .u8 1),.lit (.int .u8 28),.lit (.int .u8 2),.lit (.int .u8 29),.lit (.int .u8 14),.lit (.int .u8 24),.lit (.int .u8 3),.lit (.int .u8 30),.lit (.int .u8 22),.lit (.int .u8 20),.lit (.int .u8 15),.lit (.int .u8 25),.lit (.int .u8 17),.lit (.int .u8 4),.lit (.int .u8 8),.lit (.int .u8 31),.lit (.int .u8 27),.lit (.int .u8 13),.lit (.int .u8 23),.lit (.int .u8 21),.lit (.int .u8 19),.lit (.int .u8 16),.lit (.int .u8 7),.lit (.int .u8 26),.lit (.int .u8 12),.lit (.int .u8 18),.lit (.int .u8 6),.lit (.int .u8 11),.lit (.int .u8 5),.lit (.int .u8 10),.lit (.int .u8 9)]
def bU:List AV:=[.lit (.int .u8 0),.lit (.int .u8 1),.lit (.int .u8 56),.lit (.int .u8 2),.lit (.int .u8 57),.lit (.int .u8 49),.lit (.int .u8 28),.lit (.int .u8 3),.lit (.int .u8 61),.lit (.int .u8 58),.lit (.int .u8 42),.lit (.int .u8 50),.lit (.int .u8 38),.lit (.int .u8 29),.lit (.int .u8 17),.lit (.int .u8 4),.lit (.int .u8 62),.lit (.int .u8 47),.lit (.int .u8 59),.lit (.int .u8 36),.lit (.int .u8 45),.lit (.int .u8 43),.lit (.int .u8 51),.lit (.int .u8 22),.lit (.int .u8 53),.lit (.int .u8 39),.lit (.int .u8 33),.lit (.int .u8 30),.lit (.int .u8 24),.lit (.int .u8 18),.lit (.int .u8 12),.lit (.int .u8 5),.lit (.int .u8 63),.lit (.int .u8 55),.lit (.int .u8 48),.lit (.int .u8 27),.lit (.int .u8 60),.lit (.int .u8 41),.lit (.int .u8 37),.lit (.int .u8 16),.lit (.int .u8 46),.lit (.int .u8 35),.lit (.int .u8 44),.lit (.int .u8 21),.lit (.int .u8 52),.lit (.int .u8 32),.lit (.int .u8 23),.lit (.int .u8 11),.lit (.int .u8 54),.lit (.int .u8 26),.lit (.int .u8 40),.lit (.int .u8 15),.lit (.int .u8 34),.lit (.int .u8 20),.lit (.int .u8 31),.lit (.int .u8 10),.lit (.int .u8 25),.lit (.int .u8 14),.lit (.int .u8 19),.lit (.int .u8 9),.lit (.int .u8 13),.lit (.int .u8 8),.lit (.int .u8 7),.lit (.int .u8 6)]
def bR:List AV:=[.lit (.string ⟨#[118,97,108,117,101,32,111,117,116,32,111,102,32,114,97,110,103,101]⟩)]
def bS:List AV:=[.lit (.string ⟨#[105,110,118,97,108,105,100,32,115,121,110,116,97,120]⟩)]
def bX:List AV:=[.iface 176 (.ptr 7 0)]
def bY:List AV:=[.iface 176 (.ptr 6 0)]
noncomputable def H0:Mem:=⟨.tr (u4 (u4 (u4 (u4 (u4 (u4 (u4 (u4 (e4) 0 (.v 0 (.cells opCells false 0))) 1 (.v 1 (.cells bP false 0))) 2 (.v 2 (.cells bX false 0))) 3 (.v 3 (.cells bY false 0))) 4 (.v 4 (.cells bT false 0))) 5 (.v 5 (.cells bU false 0))) 6 (.v 6 (.cells bR false 0))) 7 (.v 7 (.cells bS false 0))),8⟩
theorem lay0:layG Tryd.prog YtfllomlghjolpaaDoor.Rows.formulasKnownRow.laid (mem0 Tryd.prog)=some H0:=by kernel_rfl
end Go.Ai
end
section
namespace Go.Ai
open Go.Proofs
set_option maxRecDepth 10000
def blks0:List Blk:=[.cells opCells false 0,.cells bP false 0,.cells bX false 0,.cells bY false 0,.cells bT false 0,.cells bU false 0,.cells bR false 0,.cells bS false 0]
theorem H0_inv {a:Nat} {x:Blk} (h:H0.get a=some x) : blks0[a]?=some x:=by
 have h' : get4 (u4 (u4 (u4 (u4 (u4 (u4 (u4 (u4 (e4) 0 (.v 0 (.cells opCells false 0))) 1 (.v 1 (.cells bP false 0))) 2 (.v 2 (.cells bX false 0))) 3 (.v 3 (.cells bY false 0))) 4 (.v 4 (.cells bT false 0))) 5 (.v 5 (.cells bU false 0))) 6 (.v 6 (.cells bR false 0))) 7 (.v 7 (.cells bS false 0))) a=some x:=h
 clear h
 rcases get4_v _ _ _ _ _ h' with ⟨rfl,rfl⟩ | ⟨_,h'⟩; · rfl
 rcases get4_v _ _ _ _ _ h' with ⟨rfl,rfl⟩ | ⟨_,h'⟩; · rfl
 rcases get4_v _ _ _ _ _ h' with ⟨rfl,rfl⟩ | ⟨_,h'⟩; · rfl
 rcases get4_v _ _ _ _ _ h' with ⟨rfl,rfl⟩ | ⟨_,h'⟩; · rfl
 rcases get4_v _ _ _ _ _ h' with ⟨rfl,rfl⟩ | ⟨_,h'⟩; · rfl
 rcases get4_v _ _ _ _ _ h' with ⟨rfl,rfl⟩ | ⟨_,h'⟩; · rfl
 rcases get4_v _ _ _ _ _ h' with ⟨rfl,rfl⟩ | ⟨_,h'⟩; · rfl
 rcases get4_v _ _ _ _ _ h' with ⟨rfl,rfl⟩ | ⟨_,h'⟩; · rfl
 rw [get4_e4] at h'; cases h'
noncomputable def holds (H:Mem) : Nat→List Blk→Bool
 | _,[]=>true
 | i,b :: l=>match H.get i with
  | some x=>match eqBlk x b with | true=>holds H (i+1) l | false=>false
  | none=>false
theorem holds_spec {H:Mem} : ∀ {l:List Blk} {i:Nat},holds H i l=true→∀ (k:Nat) b,l[k]?=some b→H.get (i+k)=some b
 | [],_,_,k,b,h=>by simp at h
 | b :: l,i,h,k,c,hk=>by
  unfold holds at h
  split at h
  ·rename_i x hx
   split at h
   ·rename_i he
    cases k with
    | zero=>simp at hk; subst hk; rw [Nat.add_zero,hx,eqBlk_sound he]
    | succ k=>have:=holds_spec h k c (by simpa using hk); rw [← this]; congr 1; omega
   ·cases h
  ·cases h
theorem own_w {O:CallF} (hO:∀ B,CallOK B 6 Tryd.prog O) {f:FuncId} {args:List AV} {v:AV} (hargs:belowL 0 args=true) (hv:plainV v=true) (hrun:retIs v (O f args H0)=true) (H:Mem) (hH:holds H 0 blks0=true) :
  WC 6 Tryd.prog f args H fun r=>r=.ret v H:=by
 refine WC.local (H0:=H0) hO hrun hv hargs (by show 6≤8; omega) (fun a=>?_) (fun a x hx=>?_) fun a x hx=>?_
 ·cases hx:H0.get a with
  | none=>rfl
  | some x =>
   have h1:=H0_inv hx
   have h2:(blks0.all fun x=>startB 8 (some x))=true:=by kernel_rfl
   exact List.all_eq_true.1 h2 x (List.mem_of_getElem? h1)
 ·have:=holds_spec hH a x (H0_inv hx)
  rwa [Nat.zero_add] at this
 ·exact (List.getElem?_eq_some_iff.1 (H0_inv hx)).1
theorem holds_of {H:Mem} (h:∀ i b,blks0[i]?=some b→H.get i=some b) : holds H 0 blks0=true:=by
 have e:(blks0.all fun b=>eqBlk b b)=true:=by kernel_rfl
 have key:∀ (l:List Blk) (i:Nat),(∀ k b,l[k]?=some b→H.get (i+k)=some b)→(l.all fun b=>eqBlk b b)=true→holds H i l=true:=by
  intro l
  induction l with
  | nil=>intro i _ _; rfl
  | cons b l ih =>
   intro i h1 h2
   simp only [List.all_cons,Bool.and_eq_true] at h2
   have h3:=h1 0 b rfl
   rw [Nat.add_zero] at h3
   unfold holds
   rw [h3]
   dsimp only
   rw [h2.1]
   exact ih (i+1) (fun k c hk=>by rw [show i+1+k=i+(k+1) by omega]; exact h1 (k+1) c (by simpa using hk)) h2.2
 exact key blks0 0 (fun k b hk=>by rw [Nat.zero_add]; exact h k b hk) e
end Go.Ai
end
section
namespace Go.Ai
open Go.Proofs
set_option maxRecDepth 10000
set_option maxHeartbeats 40000000
theorem has_w (m s:Nat) (hm:m < 18446744073709551616) (hs:s≤63) (H:Mem) : WC 6 Tryd.prog 32 [.lit (.int .u64 m),.lit (.int .i64 s)] H fun r=>r=.ret (.lit (.bool (m.testBit s))) H:=by
 refine WC.ofFn ?_
 refine WC.enterP (noO_ok _ _) hG [] Tryd.func32 rfl (by decide +kernel) (Nat.le_of_ble_eq_true (by kernel_rfl)) ?_
 have hb:=lowN_bit m s
 have hb64:(s:Int).toNat≤IntKind.u64.bits:=by rw [bits_u64]; omega
 iterate 6 all_goals try first | with_reducible refine splitI (fun h=>?_) fun h=>?_ | with_reducible refine splitBI (fun h=>?_) fun h=>?_ | simp (maxSteps:=999999) (disch:=first | assumption | omega | (simp; done) | fail) [Tryd.results32, *]
 all_goals (rw [← hb]; simp; omega)
theorem ahead_w {M:MachM} {nx:List Nat} {all:Nat} (t:Nat) (ht:t < 18446744073709551616) (hn64:nx.length≤64) (hnx:∀ x∈nx,x < 18446744073709551616) (g:Nat→Option Blk) (n:Nat) (cs:List AV) (hr:RepG g n M nx all cs) :
  WC 6 Tryd.prog 77 [.agg cs,.lit (.int .u64 t)] ⟨.fn g,n⟩ fun r=>r=.ret (.lit (.int .u64 ((aheadN nx t nx.length:Nat) : Int))) ⟨.fn g,n⟩:=by
 refine WC.drop1 rfl ?_
 obtain ⟨rv,nv,rfl,hM,hV⟩:=hr
 obtain ⟨rv',e1,h1r⟩:=hM.one
 cases e1
 have h1v:=hV.one
 have h1a:allOne [.lit (.int .i64 M.inp),.lit (.int .i64 M.out),rv,nv,.lit (.int .u64 (all:Int))]=true:=by simp [h1r,h1v]
 have hlen:=@lenV Tryd.prog _ _ _ _ _ hV
 have HV:=Hide.mk hV
 have HX:=Hide.mk hnx
 clear hV hM hnx
 refine WC.enterP (noO_ok _ _) hG [] Tryd.func77 rfl (by decide +kernel) (Nat.le_of_ble_eq_true (by kernel_rfl)) ?_
 iterate 6 all_goals try first | with_reducible refine splitI (fun h=>?_) fun h=>?_ | with_reducible refine splitBI (fun h=>?_) fun h=>?_ | simp (maxSteps:=999999) (disch:=first | assumption | omega | (simp; done) | fail) [Tryd.results77, *]
 refine LX.ind (fun m gf H'=>∃ (k:Nat),k≤nx.length∧m=nx.length - k∧H'=⟨.fn (gput g n (some (.cells [.lit (.int .i64 M.inp),.lit (.int .i64 M.out),rv,nv,.lit (.int .u64 (all:Int))] true 0))),n+1⟩ ∧
  gf 1=some (.lit (.int .u64 (t:Int)))∧gf 4=some (.lit (.int .u64 ((aheadN nx t k:Nat) : Int)))∧gf 8=some nv∧gf 9=some (.lit (.int .i64 nx.length))∧gf 10=some (.lit (.int .i64 k))) (m0:=nx.length) ?_ ?_
 ·exact ⟨0,by omega,rfl,rfl,by simp,by simp [aheadN],by simp,by simp,by simp⟩
 rintro m gf H' ⟨k,hk,rfl,rfl,w1,w4,w8,w9,w10⟩ ih
 refine LX.roundP (noO_ok _ _) hG [] (by decide +kernel) ?_
 have hal:=aheadN_lt nx t k (by omega)
 by_cases hlt:k < nx.length
 ·have hltI:(k:Int) < (nx.length:Int):=by omega
  have hk63:k≤63:=by omega
  have hbk:=bitN_lt hk63
  rcases HV.out with ⟨h1,_⟩ | ⟨a2,off,ha2,hev,hrow⟩
  ·omega
  have hcell:=((hrow.mono (g':=gput g n (some (.cells [.lit (.int .i64 M.inp),.lit (.int .i64 M.out),rv,nv,.lit (.int .u64 (all:Int))] true 0))) (gput_lt ha2)).one (k:=k) (s:=1) (by rw [u64C_len]; exact hlt))
  rw [u64C_at,gput_lt ha2] at hcell
  have hxl:nx.getD k 0 < 18446744073709551616:=by
   rw [List.getD_eq_getElem?_getD,List.getElem?_eq_getElem hlt]
   exact HX.out _ (List.getElem_mem hlt)
  have HST:Hide (aheadN nx t (k+1)=if andN (nx.getD k 0) t=0 then aheadN nx t k else orN (aheadN nx t k) (bitN k)):=⟨rfl⟩
  generalize nx.getD k 0=x at *
  rcases hev with ⟨c2,rfl⟩ | ⟨c2,rfl⟩ <;> by_cases hz:andN x t=0
  all_goals
   iterate 6 all_goals try first | with_reducible refine splitI (fun h=>?_) fun h=>?_ | with_reducible refine splitBI (fun h=>?_) fun h=>?_ | simp (maxSteps:=999999) (disch:=first | assumption | omega | (simp; done) | fail) [Tryd.results77, *]
   refine ih.out (nx.length - (k+1)) _ _ (by omega) ⟨k+1,by omega,rfl,rfl,by simp [*],?_,by simp [*],by simp [*],by simp⟩
   rw [HST.out]
   simp [*]
 ·have hltI:¬(k:Int) < (nx.length:Int):=by omega
  have hk2:k=nx.length:=by omega
  iterate 6 all_goals try first | with_reducible refine splitI (fun h=>?_) fun h=>?_ | with_reducible refine splitBI (fun h=>?_) fun h=>?_ | simp (maxSteps:=999999) (disch:=first | assumption | omega | (simp; done) | fail) [Tryd.results77, *]
  exact ⟨Nat.le_succ n,fun b hb=>gput_lt hb⟩
structure GOK (g:Nat→Option Blk) (n:Nat) (M:MachM) (nx:List Nat) (all:Nat) (cs:List AV) : Prop where
 rep:RepG g n M nx all cs
 grn:GrN M.gr nx all
theorem GOK.mono {g g' : Nat→Option Blk} {n n' : Nat} {M:MachM} {nx:List Nat} {all:Nat} {cs:List AV} (h:GOK g n M nx all cs) (hn:n≤n') (hg:∀ a,a < n→g' a=g a) : GOK g' n' M nx all cs:=⟨h.rep.mono hn hg,h.grn⟩
theorem GOK.one {g:Nat→Option Blk} {n:Nat} {M:MachM} {nx:List Nat} {all:Nat} {cs:List AV} (h:GOK g n M nx all cs) : ∃ rv nv,cs=[.lit (.int .i64 M.inp),.lit (.int .i64 M.out),rv,nv,.lit (.int .u64 (all:Int))]∧oneC rv=true∧oneC nv=true:=by
 obtain ⟨⟨rv,nv,rfl,hM,hV⟩,_⟩:=h
 obtain ⟨rv',e1,h1r⟩:=hM.one
 cases e1
 exact ⟨rv,nv,rfl,h1r,hV.one⟩
theorem aheadG_w {M:MachM} {nx:List Nat} {all:Nat} (t:Nat) (ht:t < 18446744073709551616) (g:Nat→Option Blk) (n:Nat) (cs:List AV) (hr:GOK g n M nx all cs) :
  WC 6 Tryd.prog 77 [.agg cs,.lit (.int .u64 t)] ⟨.fn g,n⟩ fun r=>r=.ret (.lit (.int .u64 ((aheadN nx t M.gr.n:Nat) : Int))) ⟨.fn g,n⟩:=by
 rw [← hr.grn.len]
 exact ahead_w t ht (by rw [hr.grn.len]; exact hr.grn.n64) hr.grn.lt g n cs hr.rep
theorem ends_w {M:MachM} {nx:List Nat} {all:Nat} (g:Nat→Option Blk) (n:Nat) (cs:List AV) (hr:GOK g n M nx all cs) :
  WC 6 Tryd.prog 67 [.agg cs] ⟨.fn g,n⟩ fun r=>r=.ret (.lit (.int .u64 ((endsN nx all M.gr.n:Nat) : Int))) ⟨.fn g,n⟩:=by
 refine WC.drop1 rfl ?_
 obtain ⟨rv,nv,rfl,h1r,h1v⟩:=hr.one
 have h1a:allOne [.lit (.int .i64 M.inp),.lit (.int .i64 M.out),rv,nv,.lit (.int .u64 (all:Int))]=true:=by simp [h1r,h1v]
 have HR:=Hide.mk hr
 have hall:=hr.grn.alt
 have hal:=aheadN_lt nx all M.gr.n hr.grn.n64
 clear hr
 refine WC.enterP (noO_ok _ _) hG pl67 Tryd.func67 rfl (by decide +kernel) (Nat.le_of_ble_eq_true (by kernel_rfl)) ?_
 iterate 6 all_goals try first | with_reducible refine splitI (fun h=>?_) fun h=>?_ | with_reducible refine splitBI (fun h=>?_) fun h=>?_ | simp (maxSteps:=999999) (disch:=first | assumption | omega | (simp; done) | fail) [Tryd.results67, *]
 refine WC.mono (aheadG_w all hall _ _ _ (HR.out.mono (by omega) fun a ha=>gput_lt ha)) ?_
 rintro _ rfl
 iterate 6 all_goals try first | with_reducible refine splitI (fun h=>?_) fun h=>?_ | with_reducible refine splitBI (fun h=>?_) fun h=>?_ | simp (maxSteps:=999999) (disch:=first | assumption | omega | (simp; done) | fail) [Tryd.results67, *]
 exact ⟨_,⟨rfl,rfl⟩,Nat.le_succ n,fun b hb=>gput_lt hb⟩
theorem until_w {M:MachM} {nx:List Nat} {all:Nat} (a b:Nat) (ha:a < 18446744073709551616) (hb:b < 18446744073709551616) (g:Nat→Option Blk) (n:Nat) (cs:List AV) (hr:GOK g n M nx all cs) :
  WC 6 Tryd.prog 134 [.agg cs,.lit (.int .u64 a),.lit (.int .u64 b)] ⟨.fn g,n⟩ fun r=>∃ x:Nat,r=.ret (.lit (.int .u64 (x:Int))) ⟨.fn g,n⟩∧x < 18446744073709551616∧IsL M.gr.n (M.gr.fE (sOf a) (sOf b)) (sOf x):=by
 refine WC.mono (WC.drop (K:=fun v=>∃ x:Nat,v=.lit (.int .u64 (x:Int))∧x < 18446744073709551616∧IsL M.gr.n (M.gr.fE (sOf a) (sOf b)) (sOf x)) ?_) ?_
 rotate_left
 ·rintro r ⟨v,rfl,x,rfl,h⟩
  exact ⟨x,rfl,h⟩
 obtain ⟨rv,nv,rfl,h1r,h1v⟩:=hr.one
 have h1a:allOne [.lit (.int .i64 M.inp),.lit (.int .i64 M.out),rv,nv,.lit (.int .u64 (all:Int))]=true:=by simp [h1r,h1v]
 have HR:=Hide.mk hr
 have HN:=Hide.mk hr.grn
 clear hr
 refine WC.enterP (noO_ok _ _) hG [] Tryd.func134 rfl (by decide +kernel) (Nat.le_of_ble_eq_true (by kernel_rfl)) ?_
 iterate 6 all_goals try first | with_reducible refine splitI (fun h=>?_) fun h=>?_ | with_reducible refine splitBI (fun h=>?_) fun h=>?_ | simp (maxSteps:=999999) (disch:=first | assumption | omega | (simp; done) | fail) [Tryd.results134, *]
 refine LX.ind (fun m gf H'=>∃ (k:Nat),k < 18446744073709551616∧m=18446744073709551616 - k∧H'=⟨.fn (gput g n (some (.cells [.lit (.int .i64 M.inp),.lit (.int .i64 M.out),rv,nv,.lit (.int .u64 (all:Int))] true 0))),n+1⟩ ∧
  UInv M.gr a b k∧gf 1=some (.lit (.int .u64 (a:Int)))∧gf 2=some (.lit (.int .u64 (k:Int)))∧gf 3=some (.ptr n 0)) (m0:=18446744073709551616 - b) ?_ ?_
 ·exact ⟨b,hb,rfl,rfl,.start,by simp,by simp,by simp⟩
 rintro m gf H' ⟨k,hk,rfl,rfl,hu,w1,w2,w3⟩ ih
 have HU:=Hide.mk hu
 clear hu
 refine LX.roundP (noO_ok _ _) hG [] (by decide +kernel) ?_
 iterate 6 all_goals try first | with_reducible refine splitI (fun h=>?_) fun h=>?_ | with_reducible refine splitBI (fun h=>?_) fun h=>?_ | simp (maxSteps:=999999) (disch:=first | assumption | omega | (simp; done) | fail) [Tryd.results134, *]
 refine WC.mono (aheadG_w k hk _ _ _ (HR.out.mono (by omega) fun a ha=>gput_lt ha)) ?_
 rintro _ rfl
 have hal:=aheadN_lt nx k M.gr.n HN.out.n64
 have hST:=HU.out.step HN.out
 have hFI:=HU.out.fin HN.out
 generalize aheadN nx k M.gr.n=q at *
 have hx1:andN a q < 18446744073709551616:=andN_lt ha
 have hx2:orN k (andN a q) < 18446744073709551616:=orN_lt hk hx1
 have hge:=or_ge k (andN a q)
 have HST:=Hide.mk hST
 have HFI:=Hide.mk hFI
 clear hST hFI
 by_cases he:orN k (andN a q)=k
 ·iterate 6 all_goals try first | with_reducible refine splitI (fun h=>?_) fun h=>?_ | with_reducible refine splitBI (fun h=>?_) fun h=>?_ | simp (maxSteps:=999999) (disch:=first | assumption | omega | (simp; done) | fail) [Tryd.results134, *]
  refine ⟨_,_,⟨rfl,rfl⟩,rfl,⟨Nat.le_succ n,fun b hb=>gput_lt hb⟩,?_⟩
  exact ⟨k,rfl,hk,HFI.out he⟩
 ·have hlt:k < orN k (andN a q):=by omega
  have heI:¬((orN k (andN a q) : Nat) : Int)=(k:Int):=by omega
  iterate 6 all_goals try first | with_reducible refine splitI (fun h=>?_) fun h=>?_ | with_reducible refine splitBI (fun h=>?_) fun h=>?_ | simp (maxSteps:=999999) (disch:=first | assumption | omega | (simp; done) | fail) [Tryd.results134, *]
  refine ih.out (18446744073709551616 - orN k (andN a q)) _ _ (by omega) ⟨orN k (andN a q),hx2,rfl,rfl,HST.out,by simp [*],by simp,by simp [*]⟩
theorem always_w {M:MachM} {nx:List Nat} {all:Nat} (a:Nat) (ha:a < 18446744073709551616) (g:Nat→Option Blk) (n:Nat) (cs:List AV) (hr:GOK g n M nx all cs) :
  WC 6 Tryd.prog 136 [.agg cs,.lit (.int .u64 a)] ⟨.fn g,n⟩ fun r=>∃ x:Nat,r=.ret (.lit (.int .u64 (x:Int))) ⟨.fn g,n⟩∧x < 18446744073709551616∧IsL M.gr.n (M.gr.fA allS (notS (sOf a))) (notS (sOf x)):=by
 refine WC.mono (WC.drop (K:=fun v=>∃ x:Nat,v=.lit (.int .u64 (x:Int))∧x < 18446744073709551616∧IsL M.gr.n (M.gr.fA allS (notS (sOf a))) (notS (sOf x))) ?_) ?_
 rotate_left
 ·rintro r ⟨v,rfl,x,rfl,h⟩
  exact ⟨x,rfl,h⟩
 obtain ⟨rv,nv,rfl,h1r,h1v⟩:=hr.one
 have h1a:allOne [.lit (.int .i64 M.inp),.lit (.int .i64 M.out),rv,nv,.lit (.int .u64 (all:Int))]=true:=by simp [h1r,h1v]
 have HR:=Hide.mk hr
 have HN:=Hide.mk hr.grn
 have hen:=hr.grn.ends_lt
 clear hr
 refine WC.enterP (noO_ok _ _) hG pl136 Tryd.func136 rfl (by decide +kernel) (Nat.le_of_ble_eq_true (by kernel_rfl)) ?_
 iterate 6 all_goals try first | with_reducible refine splitI (fun h=>?_) fun h=>?_ | with_reducible refine splitBI (fun h=>?_) fun h=>?_ | simp (maxSteps:=999999) (disch:=first | assumption | omega | (simp; done) | fail) [Tryd.results136, *]
 refine LX.ind (fun m gf H'=>∃ (k:Nat),k < 18446744073709551616∧m=k∧H'=⟨.fn (gput g n (some (.cells [.lit (.int .i64 M.inp),.lit (.int .i64 M.out),rv,nv,.lit (.int .u64 (all:Int))] true 0))),n+1⟩ ∧
  AInv M.gr a k∧gf 1=some (.lit (.int .u64 (k:Int)))∧gf 2=some (.ptr n 0)) (m0:=a) ?_ ?_
 ·exact ⟨a,ha,rfl,rfl,.start,by simp,by simp⟩
 rintro m gf H' ⟨k,hk,rfl,rfl,hu,w1,w2⟩ ih
 have HU:=Hide.mk hu
 clear hu
 refine LX.roundP (noO_ok _ _) hG pl136 (by decide +kernel) ?_
 iterate 6 all_goals try first | with_reducible refine splitI (fun h=>?_) fun h=>?_ | with_reducible refine splitBI (fun h=>?_) fun h=>?_ | simp (maxSteps:=999999) (disch:=first | assumption | omega | (simp; done) | fail) [Tryd.results136, *]
 refine WC.mono (aheadG_w m hk _ _ _ (HR.out.mono (by omega) fun a ha=>gput_lt ha)) ?_
 rintro _ rfl
 iterate 6 all_goals try first | with_reducible refine splitI (fun h=>?_) fun h=>?_ | with_reducible refine splitBI (fun h=>?_) fun h=>?_ | simp (maxSteps:=999999) (disch:=first | assumption | omega | (simp; done) | fail) [Tryd.results136, *]
 refine WC.mono (ends_w _ _ _ (HR.out.mono (by omega) fun a ha=>gput_lt ha)) ?_
 rintro _ rfl
 have hal:=aheadN_lt nx m M.gr.n HN.out.n64
 have hST:=HU.out.step HN.out
 have hFI:=HU.out.fin HN.out
 generalize aheadN nx m M.gr.n=q at *
 generalize endsN nx all M.gr.n=e at *
 have hx1:orN q e < 18446744073709551616:=orN_lt hal hen
 have hx2:andN m (orN q e) < 18446744073709551616:=andN_lt hk
 have hge:=and_le m (orN q e)
 have HST:=Hide.mk hST
 have HFI:=Hide.mk hFI
 clear hST hFI
 by_cases he:andN m (orN q e)=m
 ·iterate 6 all_goals try first | with_reducible refine splitI (fun h=>?_) fun h=>?_ | with_reducible refine splitBI (fun h=>?_) fun h=>?_ | simp (maxSteps:=999999) (disch:=first | assumption | omega | (simp; done) | fail) [Tryd.results136, *]
  refine ⟨_,_,⟨rfl,rfl⟩,rfl,⟨Nat.le_succ n,fun b hb=>gput_lt hb⟩,?_⟩
  exact ⟨m,rfl,hk,HFI.out he⟩
 ·have hlt:andN m (orN q e) < m:=by omega
  have heI:¬((andN m (orN q e) : Nat) : Int)=(m:Int):=by omega
  iterate 6 all_goals try first | with_reducible refine splitI (fun h=>?_) fun h=>?_ | with_reducible refine splitBI (fun h=>?_) fun h=>?_ | simp (maxSteps:=999999) (disch:=first | assumption | omega | (simp; done) | fail) [Tryd.results136, *]
  refine ih.out (andN m (orN q e)) _ _ (by omega) ⟨andN m (orN q e),hx2,rfl,rfl,HST.out,by simp [*],by simp [*]⟩
end Go.Ai
end
section
namespace Go.Ai
open Go.Proofs
set_option maxRecDepth 10000
set_option maxHeartbeats 40000000
theorem mk74:mkI Tryd.prog 74=some (.lit (.int .u64 0)):=by kernel_rfl
theorem mk42:mkI Tryd.prog 42=some (.lit (.int .i64 0)):=by kernel_rfl
attribute [simp] mk74 mk42
theorem graphOf_w {M:MachM} (hM:M.ok) (g:Nat→Option Blk) (n:Nat) (ms:List AV) (hr:RepM g n M ms) :
  WC 6 Tryd.prog 30 [.agg ms] ⟨.fn g,n⟩ fun r=>∃ cs g' n',r=.ret (.agg cs) ⟨.fn g',n'⟩∧n≤n'∧(∀ b,b < n→g' b=g b)∧GOK g' n' M (nxK M M.rows.length 0) (allK M.rows.length) cs:=by
 obtain ⟨rv,svs,rfl,hrows,hrv⟩:=hr
 have h1r:=hrv.one
 have h1a:allOne [.lit (.int .i64 M.inp),.lit (.int .i64 M.out),rv]=true:=by simp [h1r]
 have hlen:=@lenV Tryd.prog _ _ _ _ _ hrv
 have h64:M.rows.length≤64:=hM.2.2.2.2.2.1
 have hsl:=hrows.len
 have HROW:=Hide.mk hrows
 have HRV:=Hide.mk hrv
 have HM:=Hide.mk hM
 have hz64:(M.rows.length:Int)≤1048576:=by omega
 clear hrows hrv
 have h1b:allOne [.lit (.int .i64 M.inp),.lit (.int .i64 M.out),rv,.sl (n+1+1) 0 M.rows.length M.rows.length,.lit (.int .u64 0)]=true:=by simp [h1r]
 refine WC.enterP (noO_ok _ _) hG pl30 Tryd.func30 rfl (by decide +kernel) (Nat.le_of_ble_eq_true (by kernel_rfl)) ?_
 try simp (maxSteps:=999999) (disch:=first | assumption | omega | (simp; done) | fail) [Tryd.results30, *]
 refine LX.ind (fun m gf H'=>∃ (k n' : Nat) (g' : Nat→Option Blk),k≤M.rows.length∧m=M.rows.length - k∧H'=⟨.fn g',n'⟩∧n+1+1+1+1≤n'∧(∀ q,q < n→g' q=g q)∧g' n=some (.cells [.lit (.int .i64 M.inp),.lit (.int .i64 M.out),rv] true 0)∧g' (n+1)=some (.cells [.lit (.int .i64 0),.lit (.int .i64 0),.lit (.slice none 0 0),.lit (.slice none 0 0),.lit (.int .u64 0)] true 0)∧g' (n+1+1)=some (.cells (u64C (nxK M k 0)) true 0)∧g' (n+1+1+1)=some (.cells [.lit (.int .i64 M.inp),.lit (.int .i64 M.out),rv,.sl (n+1+1) 0 M.rows.length M.rows.length,.lit (.int .u64 ((allK k:Nat) : Int))] true 0)∧gf 1=some (.ptr n 0)∧gf 2=some (.ptr (n+1) 0)∧gf 3=some (.ptr (n+1+1+1) 0)∧gf 15=some rv∧gf 16=some (.lit (.int .i64 M.rows.length))∧gf 17=some (.lit (.int .i64 k))) (m0:=M.rows.length) ?_ ?_
 ·refine ⟨0,_,_,Nat.zero_le _,rfl,rfl,Nat.le_refl _,fun q hq=>?_,?_,?_,?_,?_,by simp,by simp,by simp,by simp,by simp,by simp⟩
  ·simp (disch:=omega) only [gput_lt]
  ·simp (disch:=omega) only [gput_lt,gput_eq]
  ·simp (disch:=omega) only [gput_lt,gput_eq]
  ·rw [nxK_zero]
   simp (disch:=omega) only [gput_lt,gput_eq]
   unfold u64C
   rw [List.map_replicate]
   try rfl
  ·simp (disch:=omega) only [gput_eq]
   try rfl
 rintro m gf H' ⟨k,n1,g1,hk,rfl,rfl,hn1,hg1,e0,e1,e2,e3,w1,w2,w3,w15,w16,w17⟩ ih
 have HG1:=Hide.mk hg1
 clear hg1
 refine LX.roundP (noO_ok _ _) hG pl30 (by decide +kernel) ?_
 by_cases hlt:k < M.rows.length
 ·have hltI:(k:Int) < (M.rows.length:Int):=by omega
  have hk63:k≤63:=by omega
  have hbk:=bitN_lt hk63
  have hall:=allK_lt k (by omega)
  have hR:=HROW.out.at k hlt (by omega)
  rcases HRV.out with ⟨h1,_⟩ | ⟨a2,off,ha2,hev,hrow⟩
  ·omega
  have hcell:=(hrow.mono (HG1.out a2 ha2)).one (k:=k) (s:=1) (by omega)
  have hgd:M.rows.getD k []=M.rows[k]:=by rw [List.getD_eq_getElem?_getD,List.getElem?_eq_getElem hlt]; rfl
  have hre:=ok_row_edge HM.out (List.getElem_mem hlt)
  have HGD:=Hide.mk hgd
  clear hgd
  have hr16:M.rows[k].length≤16:=by
   have h1:=ok_row HM.out _ (List.getElem_mem hlt)
   have h2:M.inp≤16:=HM.out.2.1
   omega
  generalize svs[k]'(by omega)=sv at hR hcell
  generalize M.rows[k]=row at hR HGD hre hr16
  have hlen2:=@lenV Tryd.prog _ _ _ _ _ hR
  have h1sv:=hR.one
  have HRE:=Hide.mk hre
  have HRR:=Hide.mk hR
  have HAK:Hide (orN (allK k) (bitN k)=allK (k+1)):=⟨rfl⟩
  have hal2:=orN_lt hall hbk
  have h1c:allOne [.lit (.int .u64 ((orN (allK k) (bitN k) : Nat) : Int))]=true:=by simp
  clear hre hR hrow
  rcases hev with ⟨c2,rfl⟩ | ⟨c2,rfl⟩
  ·try simp (maxSteps:=999999) (disch:=first | assumption | omega | (simp; done) | fail) [Tryd.results30, *]
   refine LX.ind (fun m gf H'=>∃ (j n' : Nat) (g' : Nat→Option Blk),j≤row.length∧m=row.length - j∧H'=⟨.fn g',n'⟩∧n+1+1+1+1≤n'∧(∀ q,q < n→g' q=g q)∧g' n=some (.cells [.lit (.int .i64 M.inp),.lit (.int .i64 M.out),.sl a2 off M.rows.length c2] true 0)∧g' (n+1)=some (.cells [.lit (.int .i64 0),.lit (.int .i64 0),.lit (.slice none 0 0),.lit (.slice none 0 0),.lit (.int .u64 0)] true 0)∧g' (n+1+1)=some (.cells (u64C (nxK M k j)) true 0)∧g' (n+1+1+1)=some (.cells [.lit (.int .i64 M.inp),.lit (.int .i64 M.out),.sl a2 off M.rows.length c2,.sl (n+1+1) 0 M.rows.length M.rows.length,.lit (.int .u64 ((orN (allK k) (bitN k) : Nat) : Int))] true 0)∧gf 1=some (.ptr n 0)∧gf 2=some (.ptr (n+1) 0)∧gf 3=some (.ptr (n+1+1+1) 0)∧gf 15=some (.sl a2 off M.rows.length c2)∧gf 16=some (.lit (.int .i64 M.rows.length))∧gf 17=some (.lit (.int .i64 k))∧gf 4=some (.lit (.int .i64 k))∧gf 28=some sv∧gf 29=some (.lit (.int .i64 row.length))∧gf 30=some (.lit (.int .i64 j))) (m0:=row.length) ?_ ?_
   ·refine ⟨0,_,_,Nat.zero_le _,rfl,rfl,hn1,fun q hq=>?_,?_,?_,?_,?_,by simp [*],by simp [*],by simp [*],by simp [*],by simp [*],by simp [*],by simp,by simp,by simp,by simp⟩
    ·simp (disch:=omega) only [gput_ne]
     exact HG1.out q hq
    ·simp (disch:=omega) only [gput_ne]
     exact e0
    ·simp (disch:=omega) only [gput_ne]
     exact e1
    ·simp (disch:=omega) only [gput_ne]
     exact e2
    ·simp (disch:=omega) only [gput_eq]
     try rfl
   rintro m gf H' ⟨j,n2,g2,hj,rfl,rfl,hn2,hg2,d0,d1,d2,d3,x1,x2,x3,x15,x16,x17,x4,x28,x29,x30⟩ ihj
   have HG2:=Hide.mk hg2
   clear hg2
   refine LX.roundP (noO_ok _ _) hG pl30 (by decide +kernel) ?_
   by_cases hjt:j < row.length
   ·have hjtI:(j:Int) < (row.length:Int):=by omega
    rcases HRR.out with ⟨h1,_⟩ | ⟨a3,off3,ha3,hev3,hrow3⟩
    ·omega
    have hrow3':=hrow3.mono (HG2.out a3 ha3)
    have hagg:=hrow3'.agg (k:=j * 2) (s:=2) (by rw [rowC_len]; omega)
    rw [rowC_at row j hjt] at hagg
    have hrj:row[j]=row.getD j (-1,-1):=by rw [List.getD_eq_getElem?_getD,List.getElem?_eq_getElem hjt]; rfl
    have hre:=HRE.out _ (List.getElem_mem hjt)
    have HST:Hide (rowN row (j+1)=if (row.getD j (-1,-1)).1 = -1 then rowN row j else orN (rowN row j) (bitN (row.getD j (-1,-1)).1.toNat)):=⟨rfl⟩
    rw [← hrj] at HST
    generalize row[j]=e at hagg hre HST
    obtain ⟨to,out⟩:=e
    dsimp only at hagg hre HST
    have hul:(u64C (nxK M k j)).length=M.rows.length:=by rw [u64C_len,nxK_len]
    have hat:(u64C (nxK M k j))[k]?=some (.lit (.int .u64 ((rowN row j:Nat) : Int))):=by
     rw [List.getElem?_eq_getElem (by omega),u64C_at,nxK_at M k j k hlt,if_neg (by omega),if_pos rfl,HGD.out]
    have hrl:=rowN_lt HRE.out j (by omega)
    have hset:=fun v h=>nxK_set M k j v hlt (by rw [HGD.out]; exact h)
    have hsame:rowN row (j+1)=rowN row j→u64C (nxK M k j)=u64C (nxK M k (j+1)):=fun h=>by
     rw [← nxK_set M k j (rowN row (j+1)) hlt (by rw [HGD.out])]
     rw [h]
     apply List.ext_getElem?
     intro i
     rw [List.getElem?_set]
     split
     ·rename_i e; subst e; rw [if_pos (by omega)]; exact hat
     ·rfl
    have HSET:=Hide.mk hset
    have HSAME:=Hide.mk hsame
    clear hset hsame hrow3 hrow3' hrj
    generalize u64C (nxK M k j)=L at *
    have hkL:k < L.length:=by omega
    have hget:L[k]'hkL=.lit (.int .u64 ((rowN row j:Nat) : Int)):=by
     rw [List.getElem?_eq_getElem hkL] at hat
     exact Option.some.inj hat
    clear hat
    by_cases ht:to = -1
    ·subst ht
     rw [if_pos rfl] at HST
     rcases hev3 with ⟨c3,rfl⟩ | ⟨c3,rfl⟩
     all_goals
      try simp (maxSteps:=999999) (disch:=first | assumption | omega | (simp; done) | fail) [Tryd.results30, *]
      refine ihj.out (row.length - (j+1)) _ _ (by omega) ⟨j+1,n2+1,_,by omega,rfl,rfl,by omega,fun q hq=>?_,?_,?_,?_,?_,by simp [*],by simp [*],by simp [*],by simp [*],by simp [*],by simp [*],by simp [*],by simp [*],by simp [*],by simp⟩
      ·simp (disch:=omega) only [gput_lt]
       exact HG2.out q hq
      ·simp (disch:=omega) only [gput_lt]
       exact d0
      ·simp (disch:=omega) only [gput_lt]
       exact d1
      ·simp (disch:=omega) only [gput_lt]
       rw [← HSAME.out HST.out]
       exact d2
      ·simp (disch:=omega) only [gput_lt]
       exact d3
    ·rw [if_neg ht] at HST
     obtain ⟨t,rfl⟩ : ∃ t:Nat,to=t:=⟨to.toNat,by omega⟩
     have ht63:t≤63:=by omega
     have hbt:=bitN_lt ht63
     have hor:=orN_lt hrl hbt
     have hkl:k+[(.lit (.int .u64 ((orN (rowN row j) (bitN t) : Nat) : Int)) : AV)].length≤L.length:=by rw [hul]; exact hlt
     have h1d:allOne [.lit (.int .u64 ((orN (rowN row j) (bitN t) : Nat) : Int))]=true:=by simp
     rcases hev3 with ⟨c3,rfl⟩ | ⟨c3,rfl⟩
     all_goals
      try simp (maxSteps:=999999) (disch:=first | assumption | omega | (simp; done) | fail) [Tryd.results30, *]
      refine ihj.out (row.length - (j+1)) _ _ (by omega) ⟨j+1,n2+1,_,by omega,rfl,rfl,by omega,fun q hq=>?_,?_,?_,?_,?_,by simp [*],by simp [*],by simp [*],by simp [*],by simp [*],by simp [*],by simp [*],by simp [*],by simp [*],by simp⟩
      ·simp (disch:=omega) only [gput_lt,gput_ne]
       exact HG2.out q hq
      ·simp (disch:=omega) only [gput_lt,gput_ne]
       exact d0
      ·simp (disch:=omega) only [gput_lt,gput_ne]
       exact d1
      ·simp (disch:=omega) only [gput_lt,gput_ne,gput_eq]
       rw [← HSET.out _ HST.out]
       rw [put_set hkL,Int.toNat_natCast]
      ·simp (disch:=omega) only [gput_lt,gput_ne]
       exact d3
   ·have hjtI:¬(j:Int) < (row.length:Int):=by omega
    have hj2:j=row.length:=by omega
    have HJ:Hide (u64C (nxK M k j)=u64C (nxK M (k+1) 0)):=⟨by rw [← nxK_next,HGD.out,hj2]⟩
    have HJ2:=Hide.mk hj2
    clear hj2
    try simp (maxSteps:=999999) (disch:=first | assumption | omega | (simp; done) | fail) [Tryd.results30, *]
    refine ih.out (M.rows.length - (k+1)) _ _ (by omega) ⟨k+1,n2,_,by omega,rfl,rfl,by omega,fun q hq=>HG2.out q hq,d0,d1,?_,?_,by simp [*],by simp [*],by simp [*],by simp [*],by simp [*],by simp⟩
    ·rw [← HJ.out]; exact d2
    ·rw [← HAK.out]; exact d3
  ·try simp (maxSteps:=999999) (disch:=first | assumption | omega | (simp; done) | fail) [Tryd.results30, *]
   refine LX.ind (fun m gf H'=>∃ (j n' : Nat) (g' : Nat→Option Blk),j≤row.length∧m=row.length - j∧H'=⟨.fn g',n'⟩∧n+1+1+1+1≤n'∧(∀ q,q < n→g' q=g q)∧g' n=some (.cells [.lit (.int .i64 M.inp),.lit (.int .i64 M.out),.slq a2 off M.rows.length c2] true 0)∧g' (n+1)=some (.cells [.lit (.int .i64 0),.lit (.int .i64 0),.lit (.slice none 0 0),.lit (.slice none 0 0),.lit (.int .u64 0)] true 0)∧g' (n+1+1)=some (.cells (u64C (nxK M k j)) true 0)∧g' (n+1+1+1)=some (.cells [.lit (.int .i64 M.inp),.lit (.int .i64 M.out),.slq a2 off M.rows.length c2,.sl (n+1+1) 0 M.rows.length M.rows.length,.lit (.int .u64 ((orN (allK k) (bitN k) : Nat) : Int))] true 0)∧gf 1=some (.ptr n 0)∧gf 2=some (.ptr (n+1) 0)∧gf 3=some (.ptr (n+1+1+1) 0)∧gf 15=some (.slq a2 off M.rows.length c2)∧gf 16=some (.lit (.int .i64 M.rows.length))∧gf 17=some (.lit (.int .i64 k))∧gf 4=some (.lit (.int .i64 k))∧gf 28=some sv∧gf 29=some (.lit (.int .i64 row.length))∧gf 30=some (.lit (.int .i64 j))) (m0:=row.length) ?_ ?_
   ·refine ⟨0,_,_,Nat.zero_le _,rfl,rfl,hn1,fun q hq=>?_,?_,?_,?_,?_,by simp [*],by simp [*],by simp [*],by simp [*],by simp [*],by simp [*],by simp,by simp,by simp,by simp⟩
    ·simp (disch:=omega) only [gput_ne]
     exact HG1.out q hq
    ·simp (disch:=omega) only [gput_ne]
     exact e0
    ·simp (disch:=omega) only [gput_ne]
     exact e1
    ·simp (disch:=omega) only [gput_ne]
     exact e2
    ·simp (disch:=omega) only [gput_eq]
     try rfl
   rintro m gf H' ⟨j,n2,g2,hj,rfl,rfl,hn2,hg2,d0,d1,d2,d3,x1,x2,x3,x15,x16,x17,x4,x28,x29,x30⟩ ihj
   have HG2:=Hide.mk hg2
   clear hg2
   refine LX.roundP (noO_ok _ _) hG pl30 (by decide +kernel) ?_
   by_cases hjt:j < row.length
   ·have hjtI:(j:Int) < (row.length:Int):=by omega
    rcases HRR.out with ⟨h1,_⟩ | ⟨a3,off3,ha3,hev3,hrow3⟩
    ·omega
    have hrow3':=hrow3.mono (HG2.out a3 ha3)
    have hagg:=hrow3'.agg (k:=j * 2) (s:=2) (by rw [rowC_len]; omega)
    rw [rowC_at row j hjt] at hagg
    have hrj:row[j]=row.getD j (-1,-1):=by rw [List.getD_eq_getElem?_getD,List.getElem?_eq_getElem hjt]; rfl
    have hre:=HRE.out _ (List.getElem_mem hjt)
    have HST:Hide (rowN row (j+1)=if (row.getD j (-1,-1)).1 = -1 then rowN row j else orN (rowN row j) (bitN (row.getD j (-1,-1)).1.toNat)):=⟨rfl⟩
    rw [← hrj] at HST
    generalize row[j]=e at hagg hre HST
    obtain ⟨to,out⟩:=e
    dsimp only at hagg hre HST
    have hul:(u64C (nxK M k j)).length=M.rows.length:=by rw [u64C_len,nxK_len]
    have hat:(u64C (nxK M k j))[k]?=some (.lit (.int .u64 ((rowN row j:Nat) : Int))):=by
     rw [List.getElem?_eq_getElem (by omega),u64C_at,nxK_at M k j k hlt,if_neg (by omega),if_pos rfl,HGD.out]
    have hrl:=rowN_lt HRE.out j (by omega)
    have hset:=fun v h=>nxK_set M k j v hlt (by rw [HGD.out]; exact h)
    have hsame:rowN row (j+1)=rowN row j→u64C (nxK M k j)=u64C (nxK M k (j+1)):=fun h=>by
     rw [← nxK_set M k j (rowN row (j+1)) hlt (by rw [HGD.out])]
     rw [h]
     apply List.ext_getElem?
     intro i
     rw [List.getElem?_set]
     split
     ·rename_i e; subst e; rw [if_pos (by omega)]; exact hat
     ·rfl
    have HSET:=Hide.mk hset
    have HSAME:=Hide.mk hsame
    clear hset hsame hrow3 hrow3' hrj
    generalize u64C (nxK M k j)=L at *
    have hkL:k < L.length:=by omega
    have hget:L[k]'hkL=.lit (.int .u64 ((rowN row j:Nat) : Int)):=by
     rw [List.getElem?_eq_getElem hkL] at hat
     exact Option.some.inj hat
    clear hat
    by_cases ht:to = -1
    ·subst ht
     rw [if_pos rfl] at HST
     rcases hev3 with ⟨c3,rfl⟩ | ⟨c3,rfl⟩
     all_goals
      try simp (maxSteps:=999999) (disch:=first | assumption | omega | (simp; done) | fail) [Tryd.results30, *]
      refine ihj.out (row.length - (j+1)) _ _ (by omega) ⟨j+1,n2+1,_,by omega,rfl,rfl,by omega,fun q hq=>?_,?_,?_,?_,?_,by simp [*],by simp [*],by simp [*],by simp [*],by simp [*],by simp [*],by simp [*],by simp [*],by simp [*],by simp⟩
      ·simp (disch:=omega) only [gput_lt]
       exact HG2.out q hq
      ·simp (disch:=omega) only [gput_lt]
       exact d0
      ·simp (disch:=omega) only [gput_lt]
       exact d1
      ·simp (disch:=omega) only [gput_lt]
       rw [← HSAME.out HST.out]
       exact d2
      ·simp (disch:=omega) only [gput_lt]
       exact d3
    ·rw [if_neg ht] at HST
     obtain ⟨t,rfl⟩ : ∃ t:Nat,to=t:=⟨to.toNat,by omega⟩
     have ht63:t≤63:=by omega
     have hbt:=bitN_lt ht63
     have hor:=orN_lt hrl hbt
     have hkl:k+[(.lit (.int .u64 ((orN (rowN row j) (bitN t) : Nat) : Int)) : AV)].length≤L.length:=by rw [hul]; exact hlt
     have h1d:allOne [.lit (.int .u64 ((orN (rowN row j) (bitN t) : Nat) : Int))]=true:=by simp
     rcases hev3 with ⟨c3,rfl⟩ | ⟨c3,rfl⟩
     all_goals
      try simp (maxSteps:=999999) (disch:=first | assumption | omega | (simp; done) | fail) [Tryd.results30, *]
      refine ihj.out (row.length - (j+1)) _ _ (by omega) ⟨j+1,n2+1,_,by omega,rfl,rfl,by omega,fun q hq=>?_,?_,?_,?_,?_,by simp [*],by simp [*],by simp [*],by simp [*],by simp [*],by simp [*],by simp [*],by simp [*],by simp [*],by simp⟩
      ·simp (disch:=omega) only [gput_lt,gput_ne]
       exact HG2.out q hq
      ·simp (disch:=omega) only [gput_lt,gput_ne]
       exact d0
      ·simp (disch:=omega) only [gput_lt,gput_ne]
       exact d1
      ·simp (disch:=omega) only [gput_lt,gput_ne,gput_eq]
       rw [← HSET.out _ HST.out]
       rw [put_set hkL,Int.toNat_natCast]
      ·simp (disch:=omega) only [gput_lt,gput_ne]
       exact d3
   ·have hjtI:¬(j:Int) < (row.length:Int):=by omega
    have hj2:j=row.length:=by omega
    have HJ:Hide (u64C (nxK M k j)=u64C (nxK M (k+1) 0)):=⟨by rw [← nxK_next,HGD.out,hj2]⟩
    have HJ2:=Hide.mk hj2
    clear hj2
    try simp (maxSteps:=999999) (disch:=first | assumption | omega | (simp; done) | fail) [Tryd.results30, *]
    refine ih.out (M.rows.length - (k+1)) _ _ (by omega) ⟨k+1,n2,_,by omega,rfl,rfl,by omega,fun q hq=>HG2.out q hq,d0,d1,?_,?_,by simp [*],by simp [*],by simp [*],by simp [*],by simp [*],by simp⟩
    ·rw [← HJ.out]; exact d2
    ·rw [← HAK.out]; exact d3
 ·have hltI:¬(k:Int) < (M.rows.length:Int):=by omega
  have hk2:k=M.rows.length:=by omega
  have HK2:=Hide.mk hk2
  have h1e:allOne [.lit (.int .i64 M.inp),.lit (.int .i64 M.out),rv,.sl (n+1+1) 0 M.rows.length M.rows.length,.lit (.int .u64 ((allK k:Nat) : Int))]=true:=by simp [h1r]
  clear hk2
  try simp (maxSteps:=999999) (disch:=first | assumption | omega | (simp; done) | fail) [Tryd.results30, *]
  refine ⟨_,_,_,⟨rfl,rfl,rfl⟩,by omega,fun q hq=>?_,?_,grN_of HM.out⟩
  ·rw [gput_lt (by omega)]; exact HG1.out q hq
  ·rw [HK2.out]
   refine ⟨rv,_,rfl,⟨rv,svs,rfl,?_,?_⟩,.inr ⟨n+1+1,0,by omega,.inl ⟨M.rows.length,?_⟩,_,true,0,by rw [gput_ne (by omega)]; exact e2,?_,?_⟩⟩
   ·exact HROW.out.ext (by omega) fun q z hq hz=>by rw [gput_lt (by omega),HG1.out q hq]; exact hz
   ·exact HRV.out.mono (by omega) fun q hq=>by rw [gput_lt (by omega),HG1.out q hq]
   ·rw [nxK_len]
   ·rw [HK2.out]; simp
   ·rw [HK2.out]; simp
end Go.Ai
end
section
namespace Go.Ai
open Go.Proofs
set_option maxRecDepth 10000
set_option maxHeartbeats 40000000
theorem one_w (b:Bool) (H:Mem) : WC 6 Tryd.prog 34 [.lit (.bool b)] H fun r=>r=.ret (.lit (.int .i64 (b01 b))) H:=by
 refine WC.ofFn ?_
 cases b
 ·refine WC.enterP (noO_ok _ _) hG [] Tryd.func34 rfl (by decide +kernel) (Nat.le_of_ble_eq_true (by kernel_rfl)) ?_
  try simp (maxSteps:=999999) (disch:=first | assumption | omega | (simp; done) | fail) [Tryd.results34, *]
  all_goals try rfl
 ·refine WC.enterP (noO_ok _ _) hG [] Tryd.func34 rfl (by decide +kernel) (Nat.le_of_ble_eq_true (by kernel_rfl)) ?_
  try simp (maxSteps:=999999) (disch:=first | assumption | omega | (simp; done) | fail) [Tryd.results34, *]
  all_goals try rfl
theorem b01_in (b:Bool) : 0≤b01 b∧b01 b≤1:=by cases b <;> decide
theorem rahead_w {M:MachM} (hM:M.ok) (s:Nat) (hs:s < M.rows.length) (X:SetS) (A:Nat) (g:Nat→Option Blk) (n:Nat) (ms:List AV) (hr:RepM g n M ms) (hA:g A=some (.cells (intC M.rows.length X) true 0)) (hAn:A < n) :
  WC 6 Tryd.prog 33 [.agg ms,.lit (.int .i64 s),.sl A 0 M.rows.length M.rows.length] ⟨.fn g,n⟩ fun r=>∃ a b:Nat,r=.ret (.tup [.lit (.int .i64 a),.lit (.int .i64 b)]) ⟨.fn g,n⟩∧a≤b∧b≤16∧decide (0 < a)=M.gr.pre X s∧decide (a=b)=M.gr.post X s∧decide (b=0)=M.gr.ends s:=by
 refine WC.mono (WC.drop (K:=fun v=>v=.tup [.lit (.int .i64 (someN (M.rows.getD s []) X (M.rows.getD s []).length:Nat)),.lit (.int .i64 (manyN (M.rows.getD s []) (M.rows.getD s []).length:Nat))]) ?_) ?_
 rotate_left
 ·rintro r ⟨v,rfl,rfl⟩
  have h16:(M.rows.getD s []).length≤16:=by
   have hg:M.rows.getD s []=M.rows[s]:=by rw [List.getD_eq_getElem?_getD,List.getElem?_eq_getElem hs]; rfl
   rw [hg]
   have h1:=ok_row hM _ (List.getElem_mem hs)
   have h2:M.inp≤16:=hM.2.1
   omega
  have h1:=many_le (M.rows.getD s []) (M.rows.getD s []).length
  exact ⟨_,_,rfl,some_le _ _ _,by omega,counts_mean M X s _ rfl⟩
 obtain ⟨rv,svs,rfl,hrows,hrv⟩:=hr
 have h1r:=hrv.one
 have h1a:allOne [.lit (.int .i64 M.inp),.lit (.int .i64 M.out),rv]=true:=by simp [h1r]
 have hsl:=hrows.len
 have hR:=hrows.at s hs (by omega)
 rcases hrv with ⟨h1,_⟩ | ⟨a2,off,ha2,hev,hrow⟩
 ·omega
 have hcell:=(hrow.mono (g':=gput g n (some (.cells [.lit (.int .i64 M.inp),.lit (.int .i64 M.out),rv] true 0))) (gput_lt ha2)).one (k:=s) (s:=1) (by omega)
 rw [gput_lt ha2] at hcell
 have hg:M.rows.getD s []=M.rows[s]:=by rw [List.getD_eq_getElem?_getD,List.getElem?_eq_getElem hs]; rfl
 have hrl:=ok_row hM _ (List.getElem_mem hs)
 have h16:M.inp≤16:=hM.2.1
 have hed:∀ e∈M.rows[s],e.1 = -1∨(0≤e.1∧e.1.toNat < M.rows.length):=fun e he=>by
  have h2:=(hM.2.2.2.2.2.2 _ (List.getElem_mem hs)).2 e he
  unfold edgeOK at h2
  simp only [Bool.or_eq_true,Bool.and_eq_true,decide_eq_true_eq] at h2
  rcases h2 with h2 | h2
  ·left; rw [h2]
  ·right; omega
 have h64:M.rows.length≤64:=hM.2.2.2.2.2.1
 rw [hg]
 generalize svs[s]'(by omega)=sv at hR hcell
 generalize M.rows[s]=row at *
 have hsI:(s:Int) < (M.rows.length:Int):=by omega
 have HR:=Hide.mk hR
 have HE:=Hide.mk hed
 have hcl:=intC_len M.rows.length X
 have HAT:=Hide.mk (intC_at M.rows.length X)
 generalize intC M.rows.length X=L at *
 clear hrows hrow hR hed hM hg
 have hmI:M.inp=(row.length:Int):=by omega
 have HMI:=Hide.mk hmI
 clear hmI hrl
 generalize M.rows.length=N at *
 have HI:Hide (∀ e' : AV,e'=e'):=⟨fun _=>rfl⟩
 refine WC.enterP (noO_ok _ _) hG [] Tryd.func33 rfl (by decide +kernel) (Nat.le_of_ble_eq_true (by kernel_rfl)) ?_
 try simp (maxSteps:=999999) (disch:=first | assumption | omega | (simp; done) | fail) [Tryd.results33, *]
 refine LX.ind (fun m gf H'=>∃ (k:Nat),k≤row.length∧m=row.length - k∧H'=⟨.fn (gput g n (some (.cells [.lit (.int .i64 M.inp),.lit (.int .i64 M.out),rv] true 0))),n+1⟩ ∧
  gf 1=some (.lit (.int .i64 s))∧gf 2=some (.sl A 0 N N)∧gf 3=some (.ptr n 0)∧gf 8=some (.lit (.int .i64 ((someN row X k:Nat) : Int)))∧gf 9=some (.lit (.int .i64 ((manyN row k:Nat) : Int)))∧gf 10=some (.lit (.int .i64 k))) (m0:=row.length) ?_ ?_
 ·exact ⟨0,Nat.zero_le _,rfl,rfl,by simp,by simp,by simp,by simp [someN],by simp [manyN],by simp⟩
 rintro m gf H' ⟨k,hk,rfl,rfl,w1,w2,w3,w8,w9,w10⟩ ih
 have hrl:=HMI.out
 have hso:=some_le row X k
 have hma:=many_le row k
 refine LX.roundP (noO_ok _ _) hG [] (by decide +kernel) ?_
 by_cases hlt:k < row.length
 ·have hltI:(k:Int) < M.inp:=by omega
  rcases HR.out with ⟨h1,_⟩ | ⟨a3,off3,ha3,hev3,hrow3⟩
  ·omega
  have hrow3':=hrow3.mono (g':=gput g n (some (.cells [.lit (.int .i64 M.inp),.lit (.int .i64 M.out),rv] true 0))) (gput_lt ha3)
  have hto:=hrow3'.one (k:=k * 2) (s:=1) (by rw [rowC_len]; omega)
  have hc1:=(rowC_one row k hlt).1
  rw [List.getElem?_eq_getElem (by rw [rowC_len]; omega)] at hc1
  rw [Option.some.inj hc1,gput_lt ha3] at hto
  have hre:=HE.out _ (List.getElem_mem hlt)
  have hgd:row.getD k (-1,-1)=row[k]:=by rw [List.getD_eq_getElem?_getD,List.getElem?_eq_getElem hlt]; rfl
  have HS1:Hide (someN row X (k+1)=if okE row k=true then someN row X k+(if X (row.getD k (-1,-1)).1.toNat=true then 1 else 0) else someN row X k):=⟨rfl⟩
  have HS2:Hide (manyN row (k+1)=if okE row k=true then manyN row k+1 else manyN row k):=⟨rfl⟩
  unfold okE at HS1 HS2
  rw [hgd] at HS1 HS2
  generalize row[k]=e at hto hre HS1 HS2
  obtain ⟨to,out⟩:=e
  dsimp only at hto hre HS1 HS2
  clear hc1 hrow3 hrow3' hgd hrl
  by_cases ht:0≤to
  ·obtain ⟨t,rfl⟩ : ∃ t:Nat,to=t:=⟨to.toNat,by omega⟩
   rw [decide_eq_true ht,if_pos rfl] at HS1 HS2
   have htl:t < N:=by omega
   have hat:=HAT.out t
   rw [if_pos htl] at hat
   have htL:t < L.length:=by omega
   have hget:L[t]'htL=.lit (.int .i64 (b01 (X t))):=by
    rw [List.getElem?_eq_getElem htL] at hat
    exact Option.some.inj hat
   clear hat
   have hb:=b01_in (X t)
   have HB:Hide ((if X t=true then (1:Nat) else 0)=(b01 (X t)).toNat):=⟨by cases X t <;> rfl⟩
   rw [Int.toNat_natCast] at HS1
   rw [HB.out] at HS1
   generalize b01 (X t)=bt at *
   have hAn1:¬A=n:=by omega
   rcases hev with ⟨c2,rfl⟩ | ⟨c2,rfl⟩ <;> rcases hev3 with ⟨c3,rfl⟩ | ⟨c3,rfl⟩
   all_goals
    try simp (maxSteps:=999999) (disch:=first | assumption | omega | (simp; done) | fail) [Tryd.results33, *]
    refine ih.out (row.length - (k+1)) _ _ (by omega) ⟨k+1,by omega,rfl,rfl,by simp [*],by simp [*],by simp [*],?_,?_,by simp⟩
    ·rw [HS1.out,show ((someN row X k+bt.toNat:Nat) : Int)=(someN row X k:Int)+bt by omega]; simp [*]
    ·rw [HS2.out]; simp [*]
  ·rw [decide_eq_false ht,if_neg (by decide)] at HS1 HS2
   rcases hev with ⟨c2,rfl⟩ | ⟨c2,rfl⟩ <;> rcases hev3 with ⟨c3,rfl⟩ | ⟨c3,rfl⟩
   all_goals
    try simp (maxSteps:=999999) (disch:=first | assumption | omega | (simp; done) | fail) [Tryd.results33, *]
    refine ih.out (row.length - (k+1)) _ _ (by omega) ⟨k+1,by omega,rfl,rfl,by simp [*],by simp [*],by simp [*],?_,?_,by simp⟩
    ·rw [HS1.out]; simp [*]
    ·rw [HS2.out]; simp [*]
 ·have hltI:¬(k:Int) < M.inp:=by omega
  have hk2:k=row.length:=by omega
  have HK2:=Hide.mk hk2
  clear hk2 hrl
  try simp (maxSteps:=999999) (disch:=first | assumption | omega | (simp; done) | fail) [Tryd.results33, *]
  refine ⟨_,_,⟨rfl,rfl⟩,rfl,⟨Nat.le_succ n,fun b hb=>gput_lt hb⟩,?_⟩
  rw [HK2.out]
end Go.Ai
end
section
namespace Go.Ai
open Go.Proofs
set_option maxRecDepth 10000
set_option maxHeartbeats 40000000
def RQ (M:MachM) (x:NodeM) (g:Nat→Option Blk) (n:Nat) (r:COut) : Prop:=∃ A X g' n',r=.ret (.sl A 0 M.rows.length M.rows.length) ⟨.fn g',n'⟩∧n≤n'∧(∀ b,b < n→g' b=g b)∧n≤A∧A < n'∧g' A=some (.cells (intC M.rows.length X) true 0)∧semN M x X
def RSatW (M:MachM) (m:Nat) : Prop:=∀ (x:NodeM),sizeN x≤m→validM M.rows.length M.inp M.out x=true→∀ (g:Nat→Option Blk) (n:Nat) (ms xs:List AV),RepM g n M ms→repN g n x xs→WC 6 Tryd.prog 13 [.agg ms,.agg xs] ⟨.fn g,n⟩ (RQ M x g n)
theorem rsem0_w {M:MachM} (hM:M.ok) {m:Nat} (IH0:RSatW M m) (a b:Int) (subs:List NodeM) (hx:sizeN (.mk 0 a b subs)≤m+1) (hv:validM M.rows.length M.inp M.out (.mk 0 a b subs)=true) (g:Nat→Option Blk) (n:Nat) (ms xs:List AV) (hr:RepM g n M ms) (hx0:repN g n (.mk 0 a b subs) xs) :
  WC 6 Tryd.prog 13 [.agg ms,.agg xs] ⟨.fn g,n⟩ (RQ M (.mk 0 a b subs) g n):=by
 have IH:=Hide.mk IH0
 have HMM:=Hide.mk hM
 have HR:=Hide.mk hr
 obtain ⟨rv,svs,rfl,hrows,hrv⟩:=hr
 have h1r:=hrv.one
 have h1a:allOne [.lit (.int .i64 M.inp),.lit (.int .i64 M.out),rv]=true:=by simp [h1r]
 have hlen:=@lenV Tryd.prog _ _ _ _ _ hrv
 have hsl:=hrows.len
 have HROW:=Hide.mk hrows
 have HRV:=Hide.mk hrv
 have HOK:=Hide.mk (ok_row hM)
 have h64:M.rows.length≤64:=hM.2.2.2.2.2.1
 have hz64:(M.rows.length:Int)≤1048576:=by omega
 have hrep:=hx0
 obtain ⟨hop,sv,rfl,hsv⟩:=hx0
 have h1s:oneC sv=true:=by
  obtain ⟨_,_,_,e1,e2,_⟩:=repN_one hrep
  cases e1; exact e2
 have h1x:allOne [.lit (.int .u8 ((0:Nat) : Int)),.lit (.int .i64 a),.lit (.int .i64 b),sv]=true:=by simp [h1s]
 have h1y:allOne [.lit (.int .u8 0),.lit (.int .i64 a),.lit (.int .i64 b),sv]=true:=by simp [h1s]
 have h1e:allOne [.lit (.int .i64 (-1)),.lit (.int .i64 0)]=true:=by simp
 unfold validM at hv
 simp only [Bool.and_eq_true,decide_eq_true_eq] at hv
 obtain ⟨v1,v2,v3,v4,v5,v6,v7⟩:=hv
 have v2' : subs.length=0:=v2
 have hsz:sizeL subs≤m:=by unfold sizeN at hx; omega
 have HSV:Hide ((subs=[]∧(sv=.lit (.slice none 0 0)∨sv=.es))∨∃ a off r,a < n∧((∃ c,sv=.sl a off subs.length c)∨(∃ c,sv=.slq a off subs.length c))∧Row g a off r∧repL g n subs r):=⟨hsv⟩
 have hlS:∀ {H:Mem} {e' : Ev} {o:Oper} {c' : Call} {e:TypeId},lenS Tryd.prog H e' o c' (some (.slice e)) (some [sv])=.val (.lit (.int .i64 0)) H:=by
  intro H e' o c' e
  rcases HSV.out with ⟨h1,rfl | rfl⟩ | ⟨a2,off,r,_,⟨c2,rfl⟩ | ⟨c2,rfl⟩,_⟩
  ·rw [h1] at v2'; first | rfl | cases v2'
  ·rw [h1] at v2'; first | rfl | cases v2'
  ·rw [v2']; rfl
  ·rw [v2']; rfl
 clear hrows hrv IH0 v1 v2 v5 v6 hx hop hM
 have hs0:subs=[]:=List.length_eq_zero_iff.1 v2'
 subst hs0
 have HSL:Hide (semL M [] noneS noneS):=⟨⟨eqS.refl _ _,eqS.refl _ _⟩⟩
 clear hrep v7 v2' hsz hsv HSV
 refine WC.enterP (noO_ok _ _) hG pl13 Tryd.func13 rfl (by decide +kernel) (Nat.le_of_ble_eq_true (by kernel_rfl)) ?_
 try simp (maxSteps:=999999) (disch:=first | assumption | omega | (simp; done) | fail) [Tryd.results13, *]
 refine LX.ind (fun m gf H'=>∃ (k n' : Nat) (g' : Nat→Option Blk),k≤M.rows.length∧m=M.rows.length - k∧H'=⟨.fn g',n'⟩∧(n+1+1+1+1)+1≤n'∧(∀ q,q < n→g' q=g q)∧g' n=some (.cells [.lit (.int .i64 M.inp),.lit (.int .i64 M.out),rv] true 0)∧g' (n+1)=some (.cells [.lit (.int .u8 0),.lit (.int .i64 a),.lit (.int .i64 b),sv] true 0)∧g' (n+1+1)=some (.cells (intC M.rows.length noneS) true 0)∧g' (n+1+1+1)=some (.cells (intC M.rows.length noneS) true 0)∧g' (n+1+1+1+1)=some (.cells (intC M.rows.length (upS allS k)) true 0)∧gf 2=some (.ptr n 0)∧gf 3=some (.ptr (n+1) 0)∧gf 5=some (.lit (.int .i64 M.rows.length))∧gf 6=some (.sl (n+1+1) 0 M.rows.length M.rows.length)∧gf 7=some (.sl (n+1+1+1) 0 M.rows.length M.rows.length)∧gf 8=some (.sl (n+1+1+1+1) 0 M.rows.length M.rows.length)∧gf 9=some (.lit (.int .i64 k))) (m0:=M.rows.length) ?_ ?_
 ·refine ⟨0,_,_,Nat.zero_le _,rfl,rfl,Nat.le_refl _,fun q hq=>?_,?_,?_,?_,?_,?_,by simp [*],by simp [*],by simp [*],by simp [*],by simp [*],by simp [*],by simp⟩
  ·simp (disch:=omega) only [gput_lt]
  ·simp (disch:=omega) only [gput_lt,gput_eq]
  ·simp (disch:=omega) only [gput_lt,gput_eq]
   try rfl
  ·rw [intC_none]
   simp (disch:=omega) only [gput_lt,gput_eq]
   try rfl
  ·rw [intC_none]
   simp (disch:=omega) only [gput_lt,gput_eq]
   try rfl
  ·rw [intC_zero]
   simp (disch:=omega) only [gput_eq]
   try rfl
 rintro m gf H' ⟨k,nq,gq,hk,rfl,rfl,hnq,hgq,e0,e1,eA,eB,eO,w2,w3,w5,w6,w7,w8,w9⟩ ih
 have HGq:=Hide.mk hgq
 clear hgq
 refine LX.roundP (noO_ok _ _) hG pl13 (by decide +kernel) ?_
 by_cases hlt:k < M.rows.length
 ·have hltI:(k:Int) < (M.rows.length:Int):=by omega
  have hRA:=rahead_w HMM.out k hlt noneS (n+1+1)
  have HRA:=Hide.mk hRA
  clear hRA
  have hul:=intC_len M.rows.length (upS allS k)
  have hset:=intC_set M.rows.length allS k hlt
  have HSET:=Hide.mk hset
  clear hset
  have hclA:=intC_len M.rows.length noneS
  have hclB:=intC_len M.rows.length noneS
  have hatA:=intC_at M.rows.length noneS k
  have hatB:=intC_at M.rows.length noneS k
  rw [if_pos hlt] at hatA hatB
  have HRM:Hide (∀ (g' : Nat→Option Blk) (n' : Nat),n≤n'→(∀ q,q < n→g' q=gq q)→RepM g' n' M [.lit (.int .i64 M.inp),.lit (.int .i64 M.out),rv]):=⟨fun g' n' h1 h2=>HR.out.mono h1 fun q hq=>by rw [h2 q hq]; exact HGq.out q hq⟩
  have hkA:k < (intC M.rows.length noneS).length:=by omega
  have hkB:k < (intC M.rows.length noneS).length:=by omega
  have hgA:(intC M.rows.length noneS)[k]'hkA=.lit (.int .i64 (b01 (noneS k))):=by
   rw [List.getElem?_eq_getElem hkA] at hatA
   exact Option.some.inj hatA
  have hgB:(intC M.rows.length noneS)[k]'hkB=.lit (.int .i64 (b01 (noneS k))):=by
   rw [List.getElem?_eq_getElem hkB] at hatB
   exact Option.some.inj hatB
  have eA' : Hide (gq (n+1+1)=some (.cells (intC M.rows.length noneS) true 0)):=⟨eA⟩
  clear hatA hatB
  generalize intC M.rows.length (upS allS k)=L at *
  have hkL:k < L.length:=by omega
  try simp (maxSteps:=999999) (disch:=first | assumption | omega | (simp; done) | fail) [Tryd.results13, *]
  refine WC.mono (HRA.out _ _ _ (HRM.out _ _ (by omega) fun q hq=>by simp (disch:=omega) only [gput_lt]) (by simp (disch:=omega) only [gput_lt]; exact eA'.out) (by omega)) ?_
  rintro _ ⟨so,ma,rfl,hsm1,hsm2,hpre,hpost,hends⟩
  clear hpre hpost hends
  try simp (maxSteps:=999999) (disch:=first | assumption | omega | (simp; done) | fail) [Tryd.results13, *]
  refine ih.out (M.rows.length - (k+1)) _ _ (by omega) ⟨k+1,nq+1,_,by omega,rfl,rfl,by omega,fun q hq=>?_,?_,?_,?_,?_,?_,by simp [*],by simp [*],by simp [*],by simp [*],by simp [*],by simp [*],by simp⟩
  ·simp (disch:=omega) only [gput_lt,gput_ne]
   exact HGq.out q hq
  ·simp (disch:=omega) only [gput_lt,gput_ne]
   exact e0
  ·simp (disch:=omega) only [gput_lt,gput_ne]
   exact e1
  ·simp (disch:=omega) only [gput_lt,gput_ne]
   exact eA'.out
  ·simp (disch:=omega) only [gput_lt,gput_ne]
   exact eB
  ·simp (disch:=omega) only [gput_lt,gput_ne,gput_eq]
   rw [← HSET.out]
   rfl
 ·have hltI:¬(k:Int) < (M.rows.length:Int):=by omega
  have hk2:k=M.rows.length:=by omega
  have HK2:=Hide.mk hk2
  clear hk2
  try simp (maxSteps:=999999) (disch:=first | assumption | omega | (simp; done) | fail) [Tryd.results13, *]
  refine ⟨(n+1+1+1+1),allS,gq,nq,rfl,by omega,fun q hq=>HGq.out q hq,by omega,by omega,?_,noneS,noneS,HSL.out,?_⟩
  ·rw [← intC_end]
   have h:=eO
   rw [HK2.out] at h
   exact h
  ·exact eqS.refl _ _
theorem rsem1_w {M:MachM} (hM:M.ok) {m:Nat} (IH0:RSatW M m) (a b:Int) (subs:List NodeM) (hx:sizeN (.mk 1 a b subs)≤m+1) (hv:validM M.rows.length M.inp M.out (.mk 1 a b subs)=true) (g:Nat→Option Blk) (n:Nat) (ms xs:List AV) (hr:RepM g n M ms) (hx0:repN g n (.mk 1 a b subs) xs) :
  WC 6 Tryd.prog 13 [.agg ms,.agg xs] ⟨.fn g,n⟩ (RQ M (.mk 1 a b subs) g n):=by
 have IH:=Hide.mk IH0
 have HMM:=Hide.mk hM
 have HR:=Hide.mk hr
 obtain ⟨rv,svs,rfl,hrows,hrv⟩:=hr
 have h1r:=hrv.one
 have h1a:allOne [.lit (.int .i64 M.inp),.lit (.int .i64 M.out),rv]=true:=by simp [h1r]
 have hlen:=@lenV Tryd.prog _ _ _ _ _ hrv
 have hsl:=hrows.len
 have HROW:=Hide.mk hrows
 have HRV:=Hide.mk hrv
 have HOK:=Hide.mk (ok_row hM)
 have h64:M.rows.length≤64:=hM.2.2.2.2.2.1
 have hz64:(M.rows.length:Int)≤1048576:=by omega
 have hrep:=hx0
 obtain ⟨hop,sv,rfl,hsv⟩:=hx0
 have h1s:oneC sv=true:=by
  obtain ⟨_,_,_,e1,e2,_⟩:=repN_one hrep
  cases e1; exact e2
 have h1x:allOne [.lit (.int .u8 ((1:Nat) : Int)),.lit (.int .i64 a),.lit (.int .i64 b),sv]=true:=by simp [h1s]
 have h1y:allOne [.lit (.int .u8 1),.lit (.int .i64 a),.lit (.int .i64 b),sv]=true:=by simp [h1s]
 have h1e:allOne [.lit (.int .i64 (-1)),.lit (.int .i64 0)]=true:=by simp
 unfold validM at hv
 simp only [Bool.and_eq_true,decide_eq_true_eq] at hv
 obtain ⟨v1,v2,v3,v4,v5,v6,v7⟩:=hv
 have v2' : subs.length=0:=v2
 have hsz:sizeL subs≤m:=by unfold sizeN at hx; omega
 have HSV:Hide ((subs=[]∧(sv=.lit (.slice none 0 0)∨sv=.es))∨∃ a off r,a < n∧((∃ c,sv=.sl a off subs.length c)∨(∃ c,sv=.slq a off subs.length c))∧Row g a off r∧repL g n subs r):=⟨hsv⟩
 have hlS:∀ {H:Mem} {e' : Ev} {o:Oper} {c' : Call} {e:TypeId},lenS Tryd.prog H e' o c' (some (.slice e)) (some [sv])=.val (.lit (.int .i64 0)) H:=by
  intro H e' o c' e
  rcases HSV.out with ⟨h1,rfl | rfl⟩ | ⟨a2,off,r,_,⟨c2,rfl⟩ | ⟨c2,rfl⟩,_⟩
  ·rw [h1] at v2'; first | rfl | cases v2'
  ·rw [h1] at v2'; first | rfl | cases v2'
  ·rw [v2']; rfl
  ·rw [v2']; rfl
 clear hrows hrv IH0 v1 v2 v5 v6 hx hop hM
 have hs0:subs=[]:=List.length_eq_zero_iff.1 v2'
 subst hs0
 have HSL:Hide (semL M [] noneS noneS):=⟨⟨eqS.refl _ _,eqS.refl _ _⟩⟩
 clear hrep v7 v2' hsz hsv HSV
 refine WC.enterP (noO_ok _ _) hG pl13 Tryd.func13 rfl (by decide +kernel) (Nat.le_of_ble_eq_true (by kernel_rfl)) ?_
 try simp (maxSteps:=999999) (disch:=first | assumption | omega | (simp; done) | fail) [Tryd.results13, *]
 refine LX.ind (fun m gf H'=>∃ (k n' : Nat) (g' : Nat→Option Blk),k≤M.rows.length∧m=M.rows.length - k∧H'=⟨.fn g',n'⟩∧(n+1+1+1+1)+1≤n'∧(∀ q,q < n→g' q=g q)∧g' n=some (.cells [.lit (.int .i64 M.inp),.lit (.int .i64 M.out),rv] true 0)∧g' (n+1)=some (.cells [.lit (.int .u8 1),.lit (.int .i64 a),.lit (.int .i64 b),sv] true 0)∧g' (n+1+1)=some (.cells (intC M.rows.length noneS) true 0)∧g' (n+1+1+1)=some (.cells (intC M.rows.length noneS) true 0)∧g' (n+1+1+1+1)=some (.cells (intC M.rows.length (upS (fun s=>decide ((s:Int)=a)) k)) true 0)∧gf 2=some (.ptr n 0)∧gf 3=some (.ptr (n+1) 0)∧gf 5=some (.lit (.int .i64 M.rows.length))∧gf 6=some (.sl (n+1+1) 0 M.rows.length M.rows.length)∧gf 7=some (.sl (n+1+1+1) 0 M.rows.length M.rows.length)∧gf 8=some (.sl (n+1+1+1+1) 0 M.rows.length M.rows.length)∧gf 9=some (.lit (.int .i64 k))) (m0:=M.rows.length) ?_ ?_
 ·refine ⟨0,_,_,Nat.zero_le _,rfl,rfl,Nat.le_refl _,fun q hq=>?_,?_,?_,?_,?_,?_,by simp [*],by simp [*],by simp [*],by simp [*],by simp [*],by simp [*],by simp⟩
  ·simp (disch:=omega) only [gput_lt]
  ·simp (disch:=omega) only [gput_lt,gput_eq]
  ·simp (disch:=omega) only [gput_lt,gput_eq]
   try rfl
  ·rw [intC_none]
   simp (disch:=omega) only [gput_lt,gput_eq]
   try rfl
  ·rw [intC_none]
   simp (disch:=omega) only [gput_lt,gput_eq]
   try rfl
  ·rw [intC_zero]
   simp (disch:=omega) only [gput_eq]
   try rfl
 rintro m gf H' ⟨k,nq,gq,hk,rfl,rfl,hnq,hgq,e0,e1,eA,eB,eO,w2,w3,w5,w6,w7,w8,w9⟩ ih
 have HGq:=Hide.mk hgq
 clear hgq
 refine LX.roundP (noO_ok _ _) hG pl13 (by decide +kernel) ?_
 by_cases hlt:k < M.rows.length
 ·have hltI:(k:Int) < (M.rows.length:Int):=by omega
  have hRA:=rahead_w HMM.out k hlt noneS (n+1+1)
  have HRA:=Hide.mk hRA
  clear hRA
  have hul:=intC_len M.rows.length (upS (fun s=>decide ((s:Int)=a)) k)
  have hset:=intC_set M.rows.length (fun s=>decide ((s:Int)=a)) k hlt
  have HSET:=Hide.mk hset
  clear hset
  have hclA:=intC_len M.rows.length noneS
  have hclB:=intC_len M.rows.length noneS
  have hatA:=intC_at M.rows.length noneS k
  have hatB:=intC_at M.rows.length noneS k
  rw [if_pos hlt] at hatA hatB
  have HRM:Hide (∀ (g' : Nat→Option Blk) (n' : Nat),n≤n'→(∀ q,q < n→g' q=gq q)→RepM g' n' M [.lit (.int .i64 M.inp),.lit (.int .i64 M.out),rv]):=⟨fun g' n' h1 h2=>HR.out.mono h1 fun q hq=>by rw [h2 q hq]; exact HGq.out q hq⟩
  have hkA:k < (intC M.rows.length noneS).length:=by omega
  have hkB:k < (intC M.rows.length noneS).length:=by omega
  have hgA:(intC M.rows.length noneS)[k]'hkA=.lit (.int .i64 (b01 (noneS k))):=by
   rw [List.getElem?_eq_getElem hkA] at hatA
   exact Option.some.inj hatA
  have hgB:(intC M.rows.length noneS)[k]'hkB=.lit (.int .i64 (b01 (noneS k))):=by
   rw [List.getElem?_eq_getElem hkB] at hatB
   exact Option.some.inj hatB
  have eA' : Hide (gq (n+1+1)=some (.cells (intC M.rows.length noneS) true 0)):=⟨eA⟩
  clear hatA hatB
  generalize intC M.rows.length (upS (fun s=>decide ((s:Int)=a)) k)=L at *
  have hkL:k < L.length:=by omega
  by_cases hka:a=(k:Int)
  ·subst hka
   try simp (maxSteps:=999999) (disch:=first | assumption | omega | (simp; done) | fail) [Tryd.results13, *]
   refine WC.mono (HRA.out _ _ _ (HRM.out _ _ (by omega) fun q hq=>by simp (disch:=omega) only [gput_lt]) (by simp (disch:=omega) only [gput_lt]; exact eA'.out) (by omega)) ?_
   rintro _ ⟨so,ma,rfl,hsm1,hsm2,hpre,hpost,hends⟩
   clear hpre hpost hends
   try simp (maxSteps:=999999) (disch:=first | assumption | omega | (simp; done) | fail) [Tryd.results13, *]
   refine WC.mono (one_w _ _) ?_
   rintro _ rfl
   try simp (maxSteps:=999999) (disch:=first | assumption | omega | (simp; done) | fail) [Tryd.results13, *]
   refine ih.out (M.rows.length - (k+1)) _ _ (by omega) ⟨k+1,nq+1,_,by omega,rfl,rfl,by omega,fun q hq=>?_,?_,?_,?_,?_,?_,by simp [*],by simp [*],by simp [*],by simp [*],by simp [*],by simp [*],by simp⟩
   ·simp (disch:=omega) only [gput_lt,gput_ne]
    exact HGq.out q hq
   ·simp (disch:=omega) only [gput_lt,gput_ne]
    exact e0
   ·simp (disch:=omega) only [gput_lt,gput_ne]
    exact e1
   ·simp (disch:=omega) only [gput_lt,gput_ne]
    exact eA'.out
   ·simp (disch:=omega) only [gput_lt,gput_ne]
    exact eB
   ·simp (disch:=omega) only [gput_lt,gput_ne,gput_eq]
    rw [← HSET.out]
    show _=some (Blk.cells (L.set k (.lit (.int .i64 (b01 (decide ((k:Int)=(k:Int))))))) true 0)
    simp
  ·have hka' : ¬(k:Int)=a:=fun h=>hka h.symm
   try simp (maxSteps:=999999) (disch:=first | assumption | omega | (simp; done) | fail) [Tryd.results13, *]
   refine WC.mono (HRA.out _ _ _ (HRM.out _ _ (by omega) fun q hq=>by simp (disch:=omega) only [gput_lt]) (by simp (disch:=omega) only [gput_lt]; exact eA'.out) (by omega)) ?_
   rintro _ ⟨so,ma,rfl,hsm1,hsm2,hpre,hpost,hends⟩
   clear hpre hpost hends
   try simp (maxSteps:=999999) (disch:=first | assumption | omega | (simp; done) | fail) [Tryd.results13, *]
   refine WC.mono (one_w _ _) ?_
   rintro _ rfl
   try simp (maxSteps:=999999) (disch:=first | assumption | omega | (simp; done) | fail) [Tryd.results13, *]
   refine ih.out (M.rows.length - (k+1)) _ _ (by omega) ⟨k+1,nq+1,_,by omega,rfl,rfl,by omega,fun q hq=>?_,?_,?_,?_,?_,?_,by simp [*],by simp [*],by simp [*],by simp [*],by simp [*],by simp [*],by simp⟩
   ·simp (disch:=omega) only [gput_lt,gput_ne]
    exact HGq.out q hq
   ·simp (disch:=omega) only [gput_lt,gput_ne]
    exact e0
   ·simp (disch:=omega) only [gput_lt,gput_ne]
    exact e1
   ·simp (disch:=omega) only [gput_lt,gput_ne]
    exact eA'.out
   ·simp (disch:=omega) only [gput_lt,gput_ne]
    exact eB
   ·simp (disch:=omega) only [gput_lt,gput_ne,gput_eq]
    rw [← HSET.out]
    show _=some (Blk.cells (L.set k (.lit (.int .i64 (b01 (decide ((k:Int)=a)))))) true 0)
    simp [hka']
 ·have hltI:¬(k:Int) < (M.rows.length:Int):=by omega
  have hk2:k=M.rows.length:=by omega
  have HK2:=Hide.mk hk2
  clear hk2
  try simp (maxSteps:=999999) (disch:=first | assumption | omega | (simp; done) | fail) [Tryd.results13, *]
  refine ⟨(n+1+1+1+1),(fun s=>decide ((s:Int)=a)),gq,nq,rfl,by omega,fun q hq=>HGq.out q hq,by omega,by omega,?_,noneS,noneS,HSL.out,?_⟩
  ·rw [← intC_end]
   have h:=eO
   rw [HK2.out] at h
   exact h
  ·exact eqS.refl _ _
theorem rsem2_w {M:MachM} (hM:M.ok) {m:Nat} (IH0:RSatW M m) (a b:Int) (subs:List NodeM) (hx:sizeN (.mk 2 a b subs)≤m+1) (hv:validM M.rows.length M.inp M.out (.mk 2 a b subs)=true) (g:Nat→Option Blk) (n:Nat) (ms xs:List AV) (hr:RepM g n M ms) (hx0:repN g n (.mk 2 a b subs) xs) :
  WC 6 Tryd.prog 13 [.agg ms,.agg xs] ⟨.fn g,n⟩ (RQ M (.mk 2 a b subs) g n):=by
 have IH:=Hide.mk IH0
 have HMM:=Hide.mk hM
 have HR:=Hide.mk hr
 obtain ⟨rv,svs,rfl,hrows,hrv⟩:=hr
 have h1r:=hrv.one
 have h1a:allOne [.lit (.int .i64 M.inp),.lit (.int .i64 M.out),rv]=true:=by simp [h1r]
 have hlen:=@lenV Tryd.prog _ _ _ _ _ hrv
 have hsl:=hrows.len
 have HROW:=Hide.mk hrows
 have HRV:=Hide.mk hrv
 have HOK:=Hide.mk (ok_row hM)
 have h64:M.rows.length≤64:=hM.2.2.2.2.2.1
 have hz64:(M.rows.length:Int)≤1048576:=by omega
 have hrep:=hx0
 obtain ⟨hop,sv,rfl,hsv⟩:=hx0
 have h1s:oneC sv=true:=by
  obtain ⟨_,_,_,e1,e2,_⟩:=repN_one hrep
  cases e1; exact e2
 have h1x:allOne [.lit (.int .u8 ((2:Nat) : Int)),.lit (.int .i64 a),.lit (.int .i64 b),sv]=true:=by simp [h1s]
 have h1y:allOne [.lit (.int .u8 2),.lit (.int .i64 a),.lit (.int .i64 b),sv]=true:=by simp [h1s]
 have h1e:allOne [.lit (.int .i64 (-1)),.lit (.int .i64 0)]=true:=by simp
 unfold validM at hv
 simp only [Bool.and_eq_true,decide_eq_true_eq] at hv
 obtain ⟨v1,v2,v3,v4,v5,v6,v7⟩:=hv
 have v2' : subs.length=0:=v2
 have hsz:sizeL subs≤m:=by unfold sizeN at hx; omega
 have HSV:Hide ((subs=[]∧(sv=.lit (.slice none 0 0)∨sv=.es))∨∃ a off r,a < n∧((∃ c,sv=.sl a off subs.length c)∨(∃ c,sv=.slq a off subs.length c))∧Row g a off r∧repL g n subs r):=⟨hsv⟩
 have hlS:∀ {H:Mem} {e' : Ev} {o:Oper} {c' : Call} {e:TypeId},lenS Tryd.prog H e' o c' (some (.slice e)) (some [sv])=.val (.lit (.int .i64 0)) H:=by
  intro H e' o c' e
  rcases HSV.out with ⟨h1,rfl | rfl⟩ | ⟨a2,off,r,_,⟨c2,rfl⟩ | ⟨c2,rfl⟩,_⟩
  ·rw [h1] at v2'; first | rfl | cases v2'
  ·rw [h1] at v2'; first | rfl | cases v2'
  ·rw [v2']; rfl
  ·rw [v2']; rfl
 have v5' : a < M.inp:=v5
 obtain ⟨i,rfl⟩ : ∃ i:Nat,a=i:=⟨a.toNat,by omega⟩
 clear hrows hrv IH0 v1 v2 v5 v6 hx hop hM
 have hs0:subs=[]:=List.length_eq_zero_iff.1 v2'
 subst hs0
 have HSL:Hide (semL M [] noneS noneS):=⟨⟨eqS.refl _ _,eqS.refl _ _⟩⟩
 clear hrep v7 v2' hsz hsv HSV
 refine WC.enterP (noO_ok _ _) hG pl13 Tryd.func13 rfl (by decide +kernel) (Nat.le_of_ble_eq_true (by kernel_rfl)) ?_
 try simp (maxSteps:=999999) (disch:=first | assumption | omega | (simp; done) | fail) [Tryd.results13, *]
 refine LX.ind (fun m gf H'=>∃ (k n' : Nat) (g' : Nat→Option Blk),k≤M.rows.length∧m=M.rows.length - k∧H'=⟨.fn g',n'⟩∧(n+1+1+1+1)+1≤n'∧(∀ q,q < n→g' q=g q)∧g' n=some (.cells [.lit (.int .i64 M.inp),.lit (.int .i64 M.out),rv] true 0)∧g' (n+1)=some (.cells [.lit (.int .u8 2),.lit (.int .i64 (i:Int)),.lit (.int .i64 b),sv] true 0)∧g' (n+1+1)=some (.cells (intC M.rows.length noneS) true 0)∧g' (n+1+1+1)=some (.cells (intC M.rows.length noneS) true 0)∧g' (n+1+1+1+1)=some (.cells (intC M.rows.length (upS (fun s=>decide (0≤(M.edge s (i:Int).toNat).1)) k)) true 0)∧gf 2=some (.ptr n 0)∧gf 3=some (.ptr (n+1) 0)∧gf 5=some (.lit (.int .i64 M.rows.length))∧gf 6=some (.sl (n+1+1) 0 M.rows.length M.rows.length)∧gf 7=some (.sl (n+1+1+1) 0 M.rows.length M.rows.length)∧gf 8=some (.sl (n+1+1+1+1) 0 M.rows.length M.rows.length)∧gf 9=some (.lit (.int .i64 k))) (m0:=M.rows.length) ?_ ?_
 ·refine ⟨0,_,_,Nat.zero_le _,rfl,rfl,Nat.le_refl _,fun q hq=>?_,?_,?_,?_,?_,?_,by simp [*],by simp [*],by simp [*],by simp [*],by simp [*],by simp [*],by simp⟩
  ·simp (disch:=omega) only [gput_lt]
  ·simp (disch:=omega) only [gput_lt,gput_eq]
  ·simp (disch:=omega) only [gput_lt,gput_eq]
   try rfl
  ·rw [intC_none]
   simp (disch:=omega) only [gput_lt,gput_eq]
   try rfl
  ·rw [intC_none]
   simp (disch:=omega) only [gput_lt,gput_eq]
   try rfl
  ·rw [intC_zero]
   simp (disch:=omega) only [gput_eq]
   try rfl
 rintro m gf H' ⟨k,nq,gq,hk,rfl,rfl,hnq,hgq,e0,e1,eA,eB,eO,w2,w3,w5,w6,w7,w8,w9⟩ ih
 have HGq:=Hide.mk hgq
 clear hgq
 refine LX.roundP (noO_ok _ _) hG pl13 (by decide +kernel) ?_
 by_cases hlt:k < M.rows.length
 ·have hltI:(k:Int) < (M.rows.length:Int):=by omega
  have hRA:=rahead_w HMM.out k hlt noneS (n+1+1)
  have HRA:=Hide.mk hRA
  clear hRA
  have hul:=intC_len M.rows.length (upS (fun s=>decide (0≤(M.edge s (i:Int).toNat).1)) k)
  have hset:=intC_set M.rows.length (fun s=>decide (0≤(M.edge s (i:Int).toNat).1)) k hlt
  have HSET:=Hide.mk hset
  clear hset
  have hclA:=intC_len M.rows.length noneS
  have hclB:=intC_len M.rows.length noneS
  have hatA:=intC_at M.rows.length noneS k
  have hatB:=intC_at M.rows.length noneS k
  rw [if_pos hlt] at hatA hatB
  have HRM:Hide (∀ (g' : Nat→Option Blk) (n' : Nat),n≤n'→(∀ q,q < n→g' q=gq q)→RepM g' n' M [.lit (.int .i64 M.inp),.lit (.int .i64 M.out),rv]):=⟨fun g' n' h1 h2=>HR.out.mono h1 fun q hq=>by rw [h2 q hq]; exact HGq.out q hq⟩
  have hkA:k < (intC M.rows.length noneS).length:=by omega
  have hkB:k < (intC M.rows.length noneS).length:=by omega
  have hgA:(intC M.rows.length noneS)[k]'hkA=.lit (.int .i64 (b01 (noneS k))):=by
   rw [List.getElem?_eq_getElem hkA] at hatA
   exact Option.some.inj hatA
  have hgB:(intC M.rows.length noneS)[k]'hkB=.lit (.int .i64 (b01 (noneS k))):=by
   rw [List.getElem?_eq_getElem hkB] at hatB
   exact Option.some.inj hatB
  have eA' : Hide (gq (n+1+1)=some (.cells (intC M.rows.length noneS) true 0)):=⟨eA⟩
  clear hatA hatB
  generalize intC M.rows.length (upS (fun s=>decide (0≤(M.edge s (i:Int).toNat).1)) k)=L at *
  have hkL:k < L.length:=by omega
  have hR:=HROW.out.at k hlt (by omega)
  rcases HRV.out with ⟨h1,_⟩ | ⟨a2,off,ha2,hev,hrow⟩
  ·omega
  have hcell:=(hrow.mono (HGq.out a2 ha2)).one (k:=k) (s:=1) (by omega)
  have hrl:=HOK.out _ (List.getElem_mem hlt)
  have hrk:=List.getElem?_eq_getElem hlt
  generalize svs[k]'(by omega)=sw at hR hcell
  generalize M.rows[k]=row at hR hrl hrk
  have hilt:i < row.length:=by omega
  rcases hR with ⟨h1,_⟩ | ⟨a3,off3,ha3,hev3,hrow3⟩
  ·omega
  have hrow3':=hrow3.mono (HGq.out a3 ha3)
  have hagg:=hrow3'.agg (k:=i * 2) (s:=2) (by rw [rowC_len]; omega)
  rw [rowC_at row i hilt] at hagg
  have hed:=edge_at hrk (List.getElem?_eq_getElem hilt)
  generalize row[i]=e at hagg hed
  obtain ⟨to,out⟩:=e
  have HED:Hide (M.edge k (i:Int).toNat=(to,out)):=⟨by rw [Int.toNat_natCast]; exact hed⟩
  dsimp only at hagg
  have hiI:(i:Int) < (row.length:Int):=by omega
  clear hrow hrow3 hrow3' hed hrk hrl
  rcases hev with ⟨c2,rfl⟩ | ⟨c2,rfl⟩ <;> rcases hev3 with ⟨c3,rfl⟩ | ⟨c3,rfl⟩ <;> by_cases hto:0≤to
  all_goals
   try simp (maxSteps:=999999) (disch:=first | assumption | omega | (simp; done) | fail) [Tryd.results13, *]
   refine WC.mono (HRA.out _ _ _ (HRM.out _ _ (by omega) fun q hq=>by simp (disch:=omega) only [gput_lt]) (by simp (disch:=omega) only [gput_lt]; exact eA'.out) (by omega)) ?_
   rintro _ ⟨so,ma,rfl,hsm1,hsm2,hpre,hpost,hends⟩
   clear hpre hpost hends
   try simp (maxSteps:=999999) (disch:=first | assumption | omega | (simp; done) | fail) [Tryd.results13, *]
   refine WC.mono (one_w _ _) ?_
   rintro _ rfl
   try simp (maxSteps:=999999) (disch:=first | assumption | omega | (simp; done) | fail) [Tryd.results13, *]
   refine ih.out (M.rows.length - (k+1)) _ _ (by omega) ⟨k+1,nq+1,_,by omega,rfl,rfl,by omega,fun q hq=>?_,?_,?_,?_,?_,?_,by simp [*],by simp [*],by simp [*],by simp [*],by simp [*],by simp [*],by simp⟩
   ·simp (disch:=omega) only [gput_lt,gput_ne]
    exact HGq.out q hq
   ·simp (disch:=omega) only [gput_lt,gput_ne]
    exact e0
   ·simp (disch:=omega) only [gput_lt,gput_ne]
    exact e1
   ·simp (disch:=omega) only [gput_lt,gput_ne]
    exact eA'.out
   ·simp (disch:=omega) only [gput_lt,gput_ne]
    exact eB
   ·simp (disch:=omega) only [gput_lt,gput_ne,gput_eq]
    rw [← HSET.out]
    show _=some (Blk.cells (L.set k (.lit (.int .i64 (b01 (decide (0≤(M.edge k (i:Int).toNat).1)))))) true 0)
    rw [HED.out]
    simp [*]
 ·have hltI:¬(k:Int) < (M.rows.length:Int):=by omega
  have hk2:k=M.rows.length:=by omega
  have HK2:=Hide.mk hk2
  clear hk2
  try simp (maxSteps:=999999) (disch:=first | assumption | omega | (simp; done) | fail) [Tryd.results13, *]
  refine ⟨(n+1+1+1+1),(fun s=>decide (0≤(M.edge s (i:Int).toNat).1)),gq,nq,rfl,by omega,fun q hq=>HGq.out q hq,by omega,by omega,?_,noneS,noneS,HSL.out,?_⟩
  ·rw [← intC_end]
   have h:=eO
   rw [HK2.out] at h
   exact h
  ·exact eqS.refl _ _
end Go.Ai
end
section
namespace Go.Ai
open Go.Proofs
set_option maxRecDepth 10000
set_option maxHeartbeats 40000000
theorem rsem3_w {M:MachM} (hM:M.ok) {m:Nat} (IH0:RSatW M m) (a b:Int) (subs:List NodeM) (hx:sizeN (.mk 3 a b subs)≤m+1) (hv:validM M.rows.length M.inp M.out (.mk 3 a b subs)=true) (g:Nat→Option Blk) (n:Nat) (ms xs:List AV) (hr:RepM g n M ms) (hx0:repN g n (.mk 3 a b subs) xs) :
  WC 6 Tryd.prog 13 [.agg ms,.agg xs] ⟨.fn g,n⟩ (RQ M (.mk 3 a b subs) g n):=by
 have IH:=Hide.mk IH0
 have HMM:=Hide.mk hM
 have HR:=Hide.mk hr
 obtain ⟨rv,svs,rfl,hrows,hrv⟩:=hr
 have h1r:=hrv.one
 have h1a:allOne [.lit (.int .i64 M.inp),.lit (.int .i64 M.out),rv]=true:=by simp [h1r]
 have hlen:=@lenV Tryd.prog _ _ _ _ _ hrv
 have hsl:=hrows.len
 have HROW:=Hide.mk hrows
 have HRV:=Hide.mk hrv
 have HOK:=Hide.mk (ok_row hM)
 have h64:M.rows.length≤64:=hM.2.2.2.2.2.1
 have hz64:(M.rows.length:Int)≤1048576:=by omega
 have hrep:=hx0
 obtain ⟨hop,sv,rfl,hsv⟩:=hx0
 have h1s:oneC sv=true:=by
  obtain ⟨_,_,_,e1,e2,_⟩:=repN_one hrep
  cases e1; exact e2
 have h1x:allOne [.lit (.int .u8 ((3:Nat) : Int)),.lit (.int .i64 a),.lit (.int .i64 b),sv]=true:=by simp [h1s]
 have h1y:allOne [.lit (.int .u8 3),.lit (.int .i64 a),.lit (.int .i64 b),sv]=true:=by simp [h1s]
 have h1e:allOne [.lit (.int .i64 (-1)),.lit (.int .i64 0)]=true:=by simp
 unfold validM at hv
 simp only [Bool.and_eq_true,decide_eq_true_eq] at hv
 obtain ⟨v1,v2,v3,v4,v5,v6,v7⟩:=hv
 have v2' : subs.length=0:=v2
 have hsz:sizeL subs≤m:=by unfold sizeN at hx; omega
 have HSV:Hide ((subs=[]∧(sv=.lit (.slice none 0 0)∨sv=.es))∨∃ a off r,a < n∧((∃ c,sv=.sl a off subs.length c)∨(∃ c,sv=.slq a off subs.length c))∧Row g a off r∧repL g n subs r):=⟨hsv⟩
 have hlS:∀ {H:Mem} {e' : Ev} {o:Oper} {c' : Call} {e:TypeId},lenS Tryd.prog H e' o c' (some (.slice e)) (some [sv])=.val (.lit (.int .i64 0)) H:=by
  intro H e' o c' e
  rcases HSV.out with ⟨h1,rfl | rfl⟩ | ⟨a2,off,r,_,⟨c2,rfl⟩ | ⟨c2,rfl⟩,_⟩
  ·rw [h1] at v2'; first | rfl | cases v2'
  ·rw [h1] at v2'; first | rfl | cases v2'
  ·rw [v2']; rfl
  ·rw [v2']; rfl
 have v5' : a < M.inp:=v5
 obtain ⟨i,rfl⟩ : ∃ i:Nat,a=i:=⟨a.toNat,by omega⟩
 clear hrows hrv IH0 v1 v2 v5 v6 hx hop hM
 have hs0:subs=[]:=List.length_eq_zero_iff.1 v2'
 subst hs0
 have HSL:Hide (semL M [] noneS noneS):=⟨⟨eqS.refl _ _,eqS.refl _ _⟩⟩
 clear hrep v7 v2' hsz hsv HSV
 refine WC.enterP (noO_ok _ _) hG pl13 Tryd.func13 rfl (by decide +kernel) (Nat.le_of_ble_eq_true (by kernel_rfl)) ?_
 try simp (maxSteps:=999999) (disch:=first | assumption | omega | (simp; done) | fail) [Tryd.results13, *]
 refine LX.ind (fun m gf H'=>∃ (k n' : Nat) (g' : Nat→Option Blk),k≤M.rows.length∧m=M.rows.length - k∧H'=⟨.fn g',n'⟩∧(n+1+1+1+1)+1≤n'∧(∀ q,q < n→g' q=g q)∧g' n=some (.cells [.lit (.int .i64 M.inp),.lit (.int .i64 M.out),rv] true 0)∧g' (n+1)=some (.cells [.lit (.int .u8 3),.lit (.int .i64 (i:Int)),.lit (.int .i64 b),sv] true 0)∧g' (n+1+1)=some (.cells (intC M.rows.length noneS) true 0)∧g' (n+1+1+1)=some (.cells (intC M.rows.length noneS) true 0)∧g' (n+1+1+1+1)=some (.cells (intC M.rows.length (upS (fun s=>decide (0≤(M.edge s (i:Int).toNat).1) && decide ((M.edge s (i:Int).toNat).2=b)) k)) true 0)∧gf 2=some (.ptr n 0)∧gf 3=some (.ptr (n+1) 0)∧gf 5=some (.lit (.int .i64 M.rows.length))∧gf 6=some (.sl (n+1+1) 0 M.rows.length M.rows.length)∧gf 7=some (.sl (n+1+1+1) 0 M.rows.length M.rows.length)∧gf 8=some (.sl (n+1+1+1+1) 0 M.rows.length M.rows.length)∧gf 9=some (.lit (.int .i64 k))) (m0:=M.rows.length) ?_ ?_
 ·refine ⟨0,_,_,Nat.zero_le _,rfl,rfl,Nat.le_refl _,fun q hq=>?_,?_,?_,?_,?_,?_,by simp [*],by simp [*],by simp [*],by simp [*],by simp [*],by simp [*],by simp⟩
  ·simp (disch:=omega) only [gput_lt]
  ·simp (disch:=omega) only [gput_lt,gput_eq]
  ·simp (disch:=omega) only [gput_lt,gput_eq]
   try rfl
  ·rw [intC_none]
   simp (disch:=omega) only [gput_lt,gput_eq]
   try rfl
  ·rw [intC_none]
   simp (disch:=omega) only [gput_lt,gput_eq]
   try rfl
  ·rw [intC_zero]
   simp (disch:=omega) only [gput_eq]
   try rfl
 rintro m gf H' ⟨k,nq,gq,hk,rfl,rfl,hnq,hgq,e0,e1,eA,eB,eO,w2,w3,w5,w6,w7,w8,w9⟩ ih
 have HGq:=Hide.mk hgq
 clear hgq
 refine LX.roundP (noO_ok _ _) hG pl13 (by decide +kernel) ?_
 by_cases hlt:k < M.rows.length
 ·have hltI:(k:Int) < (M.rows.length:Int):=by omega
  have hRA:=rahead_w HMM.out k hlt noneS (n+1+1)
  have HRA:=Hide.mk hRA
  clear hRA
  have hul:=intC_len M.rows.length (upS (fun s=>decide (0≤(M.edge s (i:Int).toNat).1) && decide ((M.edge s (i:Int).toNat).2=b)) k)
  have hset:=intC_set M.rows.length (fun s=>decide (0≤(M.edge s (i:Int).toNat).1) && decide ((M.edge s (i:Int).toNat).2=b)) k hlt
  have HSET:=Hide.mk hset
  clear hset
  have hclA:=intC_len M.rows.length noneS
  have hclB:=intC_len M.rows.length noneS
  have hatA:=intC_at M.rows.length noneS k
  have hatB:=intC_at M.rows.length noneS k
  rw [if_pos hlt] at hatA hatB
  have HRM:Hide (∀ (g' : Nat→Option Blk) (n' : Nat),n≤n'→(∀ q,q < n→g' q=gq q)→RepM g' n' M [.lit (.int .i64 M.inp),.lit (.int .i64 M.out),rv]):=⟨fun g' n' h1 h2=>HR.out.mono h1 fun q hq=>by rw [h2 q hq]; exact HGq.out q hq⟩
  have hkA:k < (intC M.rows.length noneS).length:=by omega
  have hkB:k < (intC M.rows.length noneS).length:=by omega
  have hgA:(intC M.rows.length noneS)[k]'hkA=.lit (.int .i64 (b01 (noneS k))):=by
   rw [List.getElem?_eq_getElem hkA] at hatA
   exact Option.some.inj hatA
  have hgB:(intC M.rows.length noneS)[k]'hkB=.lit (.int .i64 (b01 (noneS k))):=by
   rw [List.getElem?_eq_getElem hkB] at hatB
   exact Option.some.inj hatB
  have eA' : Hide (gq (n+1+1)=some (.cells (intC M.rows.length noneS) true 0)):=⟨eA⟩
  clear hatA hatB
  generalize intC M.rows.length (upS (fun s=>decide (0≤(M.edge s (i:Int).toNat).1) && decide ((M.edge s (i:Int).toNat).2=b)) k)=L at *
  have hkL:k < L.length:=by omega
  have hR:=HROW.out.at k hlt (by omega)
  rcases HRV.out with ⟨h1,_⟩ | ⟨a2,off,ha2,hev,hrow⟩
  ·omega
  have hcell:=(hrow.mono (HGq.out a2 ha2)).one (k:=k) (s:=1) (by omega)
  have hrl:=HOK.out _ (List.getElem_mem hlt)
  have hrk:=List.getElem?_eq_getElem hlt
  generalize svs[k]'(by omega)=sw at hR hcell
  generalize M.rows[k]=row at hR hrl hrk
  have hilt:i < row.length:=by omega
  rcases hR with ⟨h1,_⟩ | ⟨a3,off3,ha3,hev3,hrow3⟩
  ·omega
  have hrow3':=hrow3.mono (HGq.out a3 ha3)
  have hagg:=hrow3'.agg (k:=i * 2) (s:=2) (by rw [rowC_len]; omega)
  rw [rowC_at row i hilt] at hagg
  have hed:=edge_at hrk (List.getElem?_eq_getElem hilt)
  generalize row[i]=e at hagg hed
  obtain ⟨to,out⟩:=e
  have HED:Hide (M.edge k (i:Int).toNat=(to,out)):=⟨by rw [Int.toNat_natCast]; exact hed⟩
  dsimp only at hagg
  have hiI:(i:Int) < (row.length:Int):=by omega
  clear hrow hrow3 hrow3' hed hrk hrl
  rcases hev with ⟨c2,rfl⟩ | ⟨c2,rfl⟩ <;> rcases hev3 with ⟨c3,rfl⟩ | ⟨c3,rfl⟩ <;> by_cases hto:0≤to <;> by_cases hou:out=b
  all_goals
   try simp (maxSteps:=999999) (disch:=first | assumption | omega | (simp; done) | fail) [Tryd.results13, *]
   refine WC.mono (HRA.out _ _ _ (HRM.out _ _ (by omega) fun q hq=>by simp (disch:=omega) only [gput_lt]) (by simp (disch:=omega) only [gput_lt]; exact eA'.out) (by omega)) ?_
   rintro _ ⟨so,ma,rfl,hsm1,hsm2,hpre,hpost,hends⟩
   clear hpre hpost hends
   try simp (maxSteps:=999999) (disch:=first | assumption | omega | (simp; done) | fail) [Tryd.results13, *]
   refine WC.mono (one_w _ _) ?_
   rintro _ rfl
   try simp (maxSteps:=999999) (disch:=first | assumption | omega | (simp; done) | fail) [Tryd.results13, *]
   refine ih.out (M.rows.length - (k+1)) _ _ (by omega) ⟨k+1,nq+1,_,by omega,rfl,rfl,by omega,fun q hq=>?_,?_,?_,?_,?_,?_,by simp [*],by simp [*],by simp [*],by simp [*],by simp [*],by simp [*],by simp⟩
   ·simp (disch:=omega) only [gput_lt,gput_ne]
    exact HGq.out q hq
   ·simp (disch:=omega) only [gput_lt,gput_ne]
    exact e0
   ·simp (disch:=omega) only [gput_lt,gput_ne]
    exact e1
   ·simp (disch:=omega) only [gput_lt,gput_ne]
    exact eA'.out
   ·simp (disch:=omega) only [gput_lt,gput_ne]
    exact eB
   ·simp (disch:=omega) only [gput_lt,gput_ne,gput_eq]
    rw [← HSET.out]
    show _=some (Blk.cells (L.set k (.lit (.int .i64 (b01 (decide (0≤(M.edge k (i:Int).toNat).1) && decide ((M.edge k (i:Int).toNat).2=b)))))) true 0)
    rw [HED.out]
    simp [*]
 ·have hltI:¬(k:Int) < (M.rows.length:Int):=by omega
  have hk2:k=M.rows.length:=by omega
  have HK2:=Hide.mk hk2
  clear hk2
  try simp (maxSteps:=999999) (disch:=first | assumption | omega | (simp; done) | fail) [Tryd.results13, *]
  refine ⟨(n+1+1+1+1),(fun s=>decide (0≤(M.edge s (i:Int).toNat).1) && decide ((M.edge s (i:Int).toNat).2=b)),gq,nq,rfl,by omega,fun q hq=>HGq.out q hq,by omega,by omega,?_,noneS,noneS,HSL.out,?_⟩
  ·rw [← intC_end]
   have h:=eO
   rw [HK2.out] at h
   exact h
  ·exact eqS.refl _ _
theorem rsem7_w {M:MachM} (hM:M.ok) {m:Nat} (IH0:RSatW M m) (a b:Int) (subs:List NodeM) (hx:sizeN (.mk 7 a b subs)≤m+1) (hv:validM M.rows.length M.inp M.out (.mk 7 a b subs)=true) (g:Nat→Option Blk) (n:Nat) (ms xs:List AV) (hr:RepM g n M ms) (hx0:repN g n (.mk 7 a b subs) xs) :
  WC 6 Tryd.prog 13 [.agg ms,.agg xs] ⟨.fn g,n⟩ (RQ M (.mk 7 a b subs) g n):=by
 have IH:=Hide.mk IH0
 have HMM:=Hide.mk hM
 have HR:=Hide.mk hr
 obtain ⟨rv,svs,rfl,hrows,hrv⟩:=hr
 have h1r:=hrv.one
 have h1a:allOne [.lit (.int .i64 M.inp),.lit (.int .i64 M.out),rv]=true:=by simp [h1r]
 have hlen:=@lenV Tryd.prog _ _ _ _ _ hrv
 have hsl:=hrows.len
 have HROW:=Hide.mk hrows
 have HRV:=Hide.mk hrv
 have HOK:=Hide.mk (ok_row hM)
 have h64:M.rows.length≤64:=hM.2.2.2.2.2.1
 have hz64:(M.rows.length:Int)≤1048576:=by omega
 have hrep:=hx0
 obtain ⟨hop,sv,rfl,hsv⟩:=hx0
 have h1s:oneC sv=true:=by
  obtain ⟨_,_,_,e1,e2,_⟩:=repN_one hrep
  cases e1; exact e2
 have h1x:allOne [.lit (.int .u8 ((7:Nat) : Int)),.lit (.int .i64 a),.lit (.int .i64 b),sv]=true:=by simp [h1s]
 have h1y:allOne [.lit (.int .u8 7),.lit (.int .i64 a),.lit (.int .i64 b),sv]=true:=by simp [h1s]
 have h1e:allOne [.lit (.int .i64 (-1)),.lit (.int .i64 0)]=true:=by simp
 unfold validM at hv
 simp only [Bool.and_eq_true,decide_eq_true_eq] at hv
 obtain ⟨v1,v2,v3,v4,v5,v6,v7⟩:=hv
 have v2' : subs.length=1:=v2
 have hsz:sizeL subs≤m:=by unfold sizeN at hx; omega
 have HSV:Hide ((subs=[]∧(sv=.lit (.slice none 0 0)∨sv=.es))∨∃ a off r,a < n∧((∃ c,sv=.sl a off subs.length c)∨(∃ c,sv=.slq a off subs.length c))∧Row g a off r∧repL g n subs r):=⟨hsv⟩
 have hlS:∀ {H:Mem} {e' : Ev} {o:Oper} {c' : Call} {e:TypeId},lenS Tryd.prog H e' o c' (some (.slice e)) (some [sv])=.val (.lit (.int .i64 1)) H:=by
  intro H e' o c' e
  rcases HSV.out with ⟨h1,rfl | rfl⟩ | ⟨a2,off,r,_,⟨c2,rfl⟩ | ⟨c2,rfl⟩,_⟩
  ·rw [h1] at v2'; first | rfl | cases v2'
  ·rw [h1] at v2'; first | rfl | cases v2'
  ·rw [v2']; rfl
  ·rw [v2']; rfl
 clear hrows hrv IH0 v1 v2 v5 v6 hx hop hM
 obtain ⟨y,rfl⟩ : ∃ y,subs=[y]:=by
  match subs,v2' with
  | [y],_=>exact ⟨y,rfl⟩
 rcases hsv with ⟨h1,_⟩ | ⟨a2,off,r,ha2,hev,hrow,hrl⟩
 ·cases h1
 have hll:=repL_len hrl
 have hy0:=repL_at hrl 0 (by simp)
 have hc0:=hrow.agg (k:=0 * 4) (s:=4) (by rw [hll]; simp)
 have hy0' : repN g n y ((r.drop (0 * 4)).take 4):=hy0
 obtain ⟨k2,k3,sv2,hcy,h1c,hop2⟩:=repN_one hy0'
 rw [hcy] at hc0 hy0'
 have h1q:allOne [.lit (.int .u8 y.op),.lit (.int .i64 k2),.lit (.int .i64 k3),sv2]=true:=by simp [h1c]
 have hc0' : loadB (some (true,4)) (g a2) off=some (.agg [.lit (.int .u8 y.op),.lit (.int .i64 k2),.lit (.int .i64 k3),sv2]):=by simpa using hc0
 have hyv:=validL_mem v7 y (by simp)
 have hyz:sizeN y≤m:=Nat.le_trans (size_mem (by simp)) hsz
 have HY:=Hide.mk hy0'
 have HYV:=Hide.mk hyv
 clear hy0 hc0 hcy hy0' hyv hrow hrl hll hrep v7 v2' hsz HSV
 rcases hev with ⟨c2,rfl⟩ | ⟨c2,rfl⟩
 all_goals
  refine WC.enterP (noO_ok _ _) hG pl13 Tryd.func13 rfl (by decide +kernel) (Nat.le_of_ble_eq_true (by kernel_rfl)) ?_
  try simp (maxSteps:=999999) (disch:=first | assumption | omega | (simp; done) | fail) [Tryd.results13, *]
  refine WC.mono (IH.out y hyz HYV.out _ _ _ _ (HR.out.mono (by omega) fun q hq=>by simp (disch:=omega) only [gput_lt]) (repN_mono (by omega) (fun q hq=>by simp (disch:=omega) only [gput_lt]) HY.out)) ?_
  rintro _ ⟨Aa,SA,g1,n1,rfl,hn1,hg1,hA1,hA2,hA3,hsemA⟩
  have HG:Hide (∀ q,q < n→g1 q=g q):=⟨fun q hq=>by rw [hg1 q (by omega)]; simp (disch:=omega) only [gput_lt]⟩
  have f0:g1 n=some (.cells [.lit (.int .i64 M.inp),.lit (.int .i64 M.out),rv] true 0):=by rw [hg1 n (by omega)]; simp (disch:=omega) only [gput_lt,gput_eq]
  have f1:=(hg1 (n+1) (by omega)).trans ((gput_lt (by omega)).trans ((gput_lt (by omega)).trans gput_eq))
  have f3:g1 (n+1+1+1)=some (.cells (intC M.rows.length noneS) true 0):=by rw [hg1 (n+1+1+1) (by omega),intC_none]; simp (disch:=omega) only [gput_eq]; try rfl
  have HSA:=Hide.mk hsemA
  clear hg1 hsemA
  have HSL:Hide (semL M [y] SA noneS):=⟨⟨HSA.out,eqS.refl _ _⟩⟩
  obtain ⟨xv,f1x⟩ : ∃ xv,g1 (n+1)=some (.cells [.lit (.int .u8 ((7:Nat) : Int)),.lit (.int .i64 a),.lit (.int .i64 b),xv] true 0):=⟨_,f1⟩
  clear HSA
  try simp (maxSteps:=999999) (disch:=first | assumption | omega | (simp; done) | fail) [Tryd.results13, *]
  refine LX.ind (fun m gf H'=>∃ (k n' : Nat) (g' : Nat→Option Blk),k≤M.rows.length∧m=M.rows.length - k∧H'=⟨.fn g',n'⟩∧n1+1≤n'∧(∀ q,q < n→g' q=g q)∧g' n=some (.cells [.lit (.int .i64 M.inp),.lit (.int .i64 M.out),rv] true 0)∧g' (n+1)=some (.cells [.lit (.int .u8 7),.lit (.int .i64 a),.lit (.int .i64 b),xv] true 0)∧g' Aa=some (.cells (intC M.rows.length SA) true 0)∧g' (n+1+1+1)=some (.cells (intC M.rows.length noneS) true 0)∧g' n1=some (.cells (intC M.rows.length (upS (M.gr.pre SA) k)) true 0)∧gf 2=some (.ptr n 0)∧gf 3=some (.ptr (n+1) 0)∧gf 5=some (.lit (.int .i64 M.rows.length))∧gf 6=some (.sl Aa 0 M.rows.length M.rows.length)∧gf 7=some (.sl (n+1+1+1) 0 M.rows.length M.rows.length)∧gf 8=some (.sl n1 0 M.rows.length M.rows.length)∧gf 9=some (.lit (.int .i64 k))) (m0:=M.rows.length) ?_ ?_
  ·refine ⟨0,_,_,Nat.zero_le _,rfl,rfl,Nat.le_refl _,fun q hq=>?_,?_,?_,?_,?_,?_,by simp [*],by simp [*],by simp [*],by simp [*],by simp [*],by simp [*],by simp⟩
   ·simp (disch:=omega) only [gput_lt]
    exact HG.out q hq
   ·simp (disch:=omega) only [gput_lt]
    exact f0
   ·simp (disch:=omega) only [gput_lt]
    exact f1x
   ·simp (disch:=omega) only [gput_lt]
    exact hA3
   ·simp (disch:=omega) only [gput_lt]
    exact f3
   ·rw [intC_zero]
    simp (disch:=omega) only [gput_eq]
    try rfl
  clear f0 f1x hA3 f3 HG f1
  rintro m gf H' ⟨k,nq,gq,hk,rfl,rfl,hnq,hgq,e0,e1,eA,eB,eO,w2,w3,w5,w6,w7,w8,w9⟩ ih
  have HGq:=Hide.mk hgq
  clear hgq
  refine LX.roundP (noO_ok _ _) hG pl13 (by decide +kernel) ?_
  by_cases hlt:k < M.rows.length
  ·have hltI:(k:Int) < (M.rows.length:Int):=by omega
   have hRA:=rahead_w HMM.out k hlt SA Aa
   have HRA:=Hide.mk hRA
   clear hRA
   have hul:=intC_len M.rows.length (upS (M.gr.pre SA) k)
   have hset:=intC_set M.rows.length (M.gr.pre SA) k hlt
   have HSET:=Hide.mk hset
   clear hset
   have hclA:=intC_len M.rows.length SA
   have hclB:=intC_len M.rows.length noneS
   have hatA:=intC_at M.rows.length SA k
   have hatB:=intC_at M.rows.length noneS k
   rw [if_pos hlt] at hatA hatB
   have HRM:Hide (∀ (g' : Nat→Option Blk) (n' : Nat),n≤n'→(∀ q,q < n→g' q=gq q)→RepM g' n' M [.lit (.int .i64 M.inp),.lit (.int .i64 M.out),rv]):=⟨fun g' n' h1 h2=>HR.out.mono h1 fun q hq=>by rw [h2 q hq]; exact HGq.out q hq⟩
   have hkA:k < (intC M.rows.length SA).length:=by omega
   have hkB:k < (intC M.rows.length noneS).length:=by omega
   have hgA:(intC M.rows.length SA)[k]'hkA=.lit (.int .i64 (b01 (SA k))):=by
    rw [List.getElem?_eq_getElem hkA] at hatA
    exact Option.some.inj hatA
   have hgB:(intC M.rows.length noneS)[k]'hkB=.lit (.int .i64 (b01 (noneS k))):=by
    rw [List.getElem?_eq_getElem hkB] at hatB
    exact Option.some.inj hatB
   have eA' : Hide (gq Aa=some (.cells (intC M.rows.length SA) true 0)):=⟨eA⟩
   clear hatA hatB
   generalize intC M.rows.length (upS (M.gr.pre SA) k)=L at *
   have hkL:k < L.length:=by omega
   try simp (maxSteps:=999999) (disch:=first | assumption | omega | (simp; done) | fail) [Tryd.results13, *]
   refine WC.mono (HRA.out _ _ _ (HRM.out _ _ (by omega) fun q hq=>by simp (disch:=omega) only [gput_lt]) (by simp (disch:=omega) only [gput_lt]; exact eA'.out) (by omega)) ?_
   rintro _ ⟨so,ma,rfl,hsm1,hsm2,hpre,hpost,hends⟩
   have HP:=Hide.mk hpre
   clear hpre hpost hends
   by_cases hc:0 < so
   all_goals
    first | have hcI:(0:Int) < (so:Int):=by omega | have hcI:¬(0:Int) < (so:Int):=by omega
    try simp (maxSteps:=999999) (disch:=first | assumption | omega | (simp; done) | fail) [Tryd.results13, *]
    refine WC.mono (one_w _ _) ?_
    rintro _ rfl
    try simp (maxSteps:=999999) (disch:=first | assumption | omega | (simp; done) | fail) [Tryd.results13, *]
    refine ih.out (M.rows.length - (k+1)) _ _ (by omega) ⟨k+1,nq+1,_,by omega,rfl,rfl,by omega,fun q hq=>?_,?_,?_,?_,?_,?_,by simp [*],by simp [*],by simp [*],by simp [*],by simp [*],by simp [*],by simp⟩
    ·simp (disch:=omega) only [gput_lt,gput_ne]
     exact HGq.out q hq
    ·simp (disch:=omega) only [gput_lt,gput_ne]
     exact e0
    ·simp (disch:=omega) only [gput_lt,gput_ne]
     exact e1
    ·simp (disch:=omega) only [gput_lt,gput_ne]
     exact eA'.out
    ·simp (disch:=omega) only [gput_lt,gput_ne]
     exact eB
    ·simp (disch:=omega) only [gput_lt,gput_ne,gput_eq]
     rw [← HSET.out]
     show _=some (Blk.cells (L.set k (.lit (.int .i64 (b01 (M.gr.pre SA k))))) true 0)
     rw [← HP.out]
     simp [hc,b01]
  ·have hltI:¬(k:Int) < (M.rows.length:Int):=by omega
   have hk2:k=M.rows.length:=by omega
   have HK2:=Hide.mk hk2
   clear hk2
   try simp (maxSteps:=999999) (disch:=first | assumption | omega | (simp; done) | fail) [Tryd.results13, *]
   refine ⟨n1,(M.gr.pre SA),gq,nq,rfl,by omega,fun q hq=>HGq.out q hq,by omega,by omega,?_,SA,noneS,HSL.out,?_⟩
   ·rw [← intC_end]
    have h:=eO
    rw [HK2.out] at h
    exact h
   ·exact eqS.refl _ _
theorem rsem11_w {M:MachM} (hM:M.ok) {m:Nat} (IH0:RSatW M m) (a b:Int) (subs:List NodeM) (hx:sizeN (.mk 11 a b subs)≤m+1) (hv:validM M.rows.length M.inp M.out (.mk 11 a b subs)=true) (g:Nat→Option Blk) (n:Nat) (ms xs:List AV) (hr:RepM g n M ms) (hx0:repN g n (.mk 11 a b subs) xs) :
  WC 6 Tryd.prog 13 [.agg ms,.agg xs] ⟨.fn g,n⟩ (RQ M (.mk 11 a b subs) g n):=by
 have IH:=Hide.mk IH0
 have HMM:=Hide.mk hM
 have HR:=Hide.mk hr
 obtain ⟨rv,svs,rfl,hrows,hrv⟩:=hr
 have h1r:=hrv.one
 have h1a:allOne [.lit (.int .i64 M.inp),.lit (.int .i64 M.out),rv]=true:=by simp [h1r]
 have hlen:=@lenV Tryd.prog _ _ _ _ _ hrv
 have hsl:=hrows.len
 have HROW:=Hide.mk hrows
 have HRV:=Hide.mk hrv
 have HOK:=Hide.mk (ok_row hM)
 have h64:M.rows.length≤64:=hM.2.2.2.2.2.1
 have hz64:(M.rows.length:Int)≤1048576:=by omega
 have hrep:=hx0
 obtain ⟨hop,sv,rfl,hsv⟩:=hx0
 have h1s:oneC sv=true:=by
  obtain ⟨_,_,_,e1,e2,_⟩:=repN_one hrep
  cases e1; exact e2
 have h1x:allOne [.lit (.int .u8 ((11:Nat) : Int)),.lit (.int .i64 a),.lit (.int .i64 b),sv]=true:=by simp [h1s]
 have h1y:allOne [.lit (.int .u8 11),.lit (.int .i64 a),.lit (.int .i64 b),sv]=true:=by simp [h1s]
 have h1e:allOne [.lit (.int .i64 (-1)),.lit (.int .i64 0)]=true:=by simp
 unfold validM at hv
 simp only [Bool.and_eq_true,decide_eq_true_eq] at hv
 obtain ⟨v1,v2,v3,v4,v5,v6,v7⟩:=hv
 have v2' : subs.length=1:=v2
 have hsz:sizeL subs≤m:=by unfold sizeN at hx; omega
 have HSV:Hide ((subs=[]∧(sv=.lit (.slice none 0 0)∨sv=.es))∨∃ a off r,a < n∧((∃ c,sv=.sl a off subs.length c)∨(∃ c,sv=.slq a off subs.length c))∧Row g a off r∧repL g n subs r):=⟨hsv⟩
 have hlS:∀ {H:Mem} {e' : Ev} {o:Oper} {c' : Call} {e:TypeId},lenS Tryd.prog H e' o c' (some (.slice e)) (some [sv])=.val (.lit (.int .i64 1)) H:=by
  intro H e' o c' e
  rcases HSV.out with ⟨h1,rfl | rfl⟩ | ⟨a2,off,r,_,⟨c2,rfl⟩ | ⟨c2,rfl⟩,_⟩
  ·rw [h1] at v2'; first | rfl | cases v2'
  ·rw [h1] at v2'; first | rfl | cases v2'
  ·rw [v2']; rfl
  ·rw [v2']; rfl
 clear hrows hrv IH0 v1 v2 v5 v6 hx hop hM
 obtain ⟨y,rfl⟩ : ∃ y,subs=[y]:=by
  match subs,v2' with
  | [y],_=>exact ⟨y,rfl⟩
 rcases hsv with ⟨h1,_⟩ | ⟨a2,off,r,ha2,hev,hrow,hrl⟩
 ·cases h1
 have hll:=repL_len hrl
 have hy0:=repL_at hrl 0 (by simp)
 have hc0:=hrow.agg (k:=0 * 4) (s:=4) (by rw [hll]; simp)
 have hy0' : repN g n y ((r.drop (0 * 4)).take 4):=hy0
 obtain ⟨k2,k3,sv2,hcy,h1c,hop2⟩:=repN_one hy0'
 rw [hcy] at hc0 hy0'
 have h1q:allOne [.lit (.int .u8 y.op),.lit (.int .i64 k2),.lit (.int .i64 k3),sv2]=true:=by simp [h1c]
 have hc0' : loadB (some (true,4)) (g a2) off=some (.agg [.lit (.int .u8 y.op),.lit (.int .i64 k2),.lit (.int .i64 k3),sv2]):=by simpa using hc0
 have hyv:=validL_mem v7 y (by simp)
 have hyz:sizeN y≤m:=Nat.le_trans (size_mem (by simp)) hsz
 have HY:=Hide.mk hy0'
 have HYV:=Hide.mk hyv
 clear hy0 hc0 hcy hy0' hyv hrow hrl hll hrep v7 v2' hsz HSV
 rcases hev with ⟨c2,rfl⟩ | ⟨c2,rfl⟩
 all_goals
  refine WC.enterP (noO_ok _ _) hG pl13 Tryd.func13 rfl (by decide +kernel) (Nat.le_of_ble_eq_true (by kernel_rfl)) ?_
  try simp (maxSteps:=999999) (disch:=first | assumption | omega | (simp; done) | fail) [Tryd.results13, *]
  refine WC.mono (IH.out y hyz HYV.out _ _ _ _ (HR.out.mono (by omega) fun q hq=>by simp (disch:=omega) only [gput_lt]) (repN_mono (by omega) (fun q hq=>by simp (disch:=omega) only [gput_lt]) HY.out)) ?_
  rintro _ ⟨Aa,SA,g1,n1,rfl,hn1,hg1,hA1,hA2,hA3,hsemA⟩
  have HG:Hide (∀ q,q < n→g1 q=g q):=⟨fun q hq=>by rw [hg1 q (by omega)]; simp (disch:=omega) only [gput_lt]⟩
  have f0:g1 n=some (.cells [.lit (.int .i64 M.inp),.lit (.int .i64 M.out),rv] true 0):=by rw [hg1 n (by omega)]; simp (disch:=omega) only [gput_lt,gput_eq]
  have f1:=(hg1 (n+1) (by omega)).trans ((gput_lt (by omega)).trans ((gput_lt (by omega)).trans gput_eq))
  have f3:g1 (n+1+1+1)=some (.cells (intC M.rows.length noneS) true 0):=by rw [hg1 (n+1+1+1) (by omega),intC_none]; simp (disch:=omega) only [gput_eq]; try rfl
  have HSA:=Hide.mk hsemA
  clear hg1 hsemA
  have HSL:Hide (semL M [y] SA noneS):=⟨⟨HSA.out,eqS.refl _ _⟩⟩
  obtain ⟨xv,f1x⟩ : ∃ xv,g1 (n+1)=some (.cells [.lit (.int .u8 ((11:Nat) : Int)),.lit (.int .i64 a),.lit (.int .i64 b),xv] true 0):=⟨_,f1⟩
  clear HSA
  try simp (maxSteps:=999999) (disch:=first | assumption | omega | (simp; done) | fail) [Tryd.results13, *]
  refine LX.ind (fun m gf H'=>∃ (k n' : Nat) (g' : Nat→Option Blk),k≤M.rows.length∧m=M.rows.length - k∧H'=⟨.fn g',n'⟩∧n1+1≤n'∧(∀ q,q < n→g' q=g q)∧g' n=some (.cells [.lit (.int .i64 M.inp),.lit (.int .i64 M.out),rv] true 0)∧g' (n+1)=some (.cells [.lit (.int .u8 11),.lit (.int .i64 a),.lit (.int .i64 b),xv] true 0)∧g' Aa=some (.cells (intC M.rows.length SA) true 0)∧g' (n+1+1+1)=some (.cells (intC M.rows.length noneS) true 0)∧g' n1=some (.cells (intC M.rows.length (upS (M.gr.post SA) k)) true 0)∧gf 2=some (.ptr n 0)∧gf 3=some (.ptr (n+1) 0)∧gf 5=some (.lit (.int .i64 M.rows.length))∧gf 6=some (.sl Aa 0 M.rows.length M.rows.length)∧gf 7=some (.sl (n+1+1+1) 0 M.rows.length M.rows.length)∧gf 8=some (.sl n1 0 M.rows.length M.rows.length)∧gf 9=some (.lit (.int .i64 k))) (m0:=M.rows.length) ?_ ?_
  ·refine ⟨0,_,_,Nat.zero_le _,rfl,rfl,Nat.le_refl _,fun q hq=>?_,?_,?_,?_,?_,?_,by simp [*],by simp [*],by simp [*],by simp [*],by simp [*],by simp [*],by simp⟩
   ·simp (disch:=omega) only [gput_lt]
    exact HG.out q hq
   ·simp (disch:=omega) only [gput_lt]
    exact f0
   ·simp (disch:=omega) only [gput_lt]
    exact f1x
   ·simp (disch:=omega) only [gput_lt]
    exact hA3
   ·simp (disch:=omega) only [gput_lt]
    exact f3
   ·rw [intC_zero]
    simp (disch:=omega) only [gput_eq]
    try rfl
  clear f0 f1x hA3 f3 HG f1
  rintro m gf H' ⟨k,nq,gq,hk,rfl,rfl,hnq,hgq,e0,e1,eA,eB,eO,w2,w3,w5,w6,w7,w8,w9⟩ ih
  have HGq:=Hide.mk hgq
  clear hgq
  refine LX.roundP (noO_ok _ _) hG pl13 (by decide +kernel) ?_
  by_cases hlt:k < M.rows.length
  ·have hltI:(k:Int) < (M.rows.length:Int):=by omega
   have hRA:=rahead_w HMM.out k hlt SA Aa
   have HRA:=Hide.mk hRA
   clear hRA
   have hul:=intC_len M.rows.length (upS (M.gr.post SA) k)
   have hset:=intC_set M.rows.length (M.gr.post SA) k hlt
   have HSET:=Hide.mk hset
   clear hset
   have hclA:=intC_len M.rows.length SA
   have hclB:=intC_len M.rows.length noneS
   have hatA:=intC_at M.rows.length SA k
   have hatB:=intC_at M.rows.length noneS k
   rw [if_pos hlt] at hatA hatB
   have HRM:Hide (∀ (g' : Nat→Option Blk) (n' : Nat),n≤n'→(∀ q,q < n→g' q=gq q)→RepM g' n' M [.lit (.int .i64 M.inp),.lit (.int .i64 M.out),rv]):=⟨fun g' n' h1 h2=>HR.out.mono h1 fun q hq=>by rw [h2 q hq]; exact HGq.out q hq⟩
   have hkA:k < (intC M.rows.length SA).length:=by omega
   have hkB:k < (intC M.rows.length noneS).length:=by omega
   have hgA:(intC M.rows.length SA)[k]'hkA=.lit (.int .i64 (b01 (SA k))):=by
    rw [List.getElem?_eq_getElem hkA] at hatA
    exact Option.some.inj hatA
   have hgB:(intC M.rows.length noneS)[k]'hkB=.lit (.int .i64 (b01 (noneS k))):=by
    rw [List.getElem?_eq_getElem hkB] at hatB
    exact Option.some.inj hatB
   have eA' : Hide (gq Aa=some (.cells (intC M.rows.length SA) true 0)):=⟨eA⟩
   clear hatA hatB
   generalize intC M.rows.length (upS (M.gr.post SA) k)=L at *
   have hkL:k < L.length:=by omega
   try simp (maxSteps:=999999) (disch:=first | assumption | omega | (simp; done) | fail) [Tryd.results13, *]
   refine WC.mono (HRA.out _ _ _ (HRM.out _ _ (by omega) fun q hq=>by simp (disch:=omega) only [gput_lt]) (by simp (disch:=omega) only [gput_lt]; exact eA'.out) (by omega)) ?_
   rintro _ ⟨so,ma,rfl,hsm1,hsm2,hpre,hpost,hends⟩
   have HP:=Hide.mk hpost
   clear hpre hpost hends
   by_cases hc:so=ma
   all_goals
    first | have hcI:(so:Int)=(ma:Int):=by omega | have hcI:¬(so:Int)=(ma:Int):=by omega
    try simp (maxSteps:=999999) (disch:=first | assumption | omega | (simp; done) | fail) [Tryd.results13, *]
    refine WC.mono (one_w _ _) ?_
    rintro _ rfl
    try simp (maxSteps:=999999) (disch:=first | assumption | omega | (simp; done) | fail) [Tryd.results13, *]
    refine ih.out (M.rows.length - (k+1)) _ _ (by omega) ⟨k+1,nq+1,_,by omega,rfl,rfl,by omega,fun q hq=>?_,?_,?_,?_,?_,?_,by simp [*],by simp [*],by simp [*],by simp [*],by simp [*],by simp [*],by simp⟩
    ·simp (disch:=omega) only [gput_lt,gput_ne]
     exact HGq.out q hq
    ·simp (disch:=omega) only [gput_lt,gput_ne]
     exact e0
    ·simp (disch:=omega) only [gput_lt,gput_ne]
     exact e1
    ·simp (disch:=omega) only [gput_lt,gput_ne]
     exact eA'.out
    ·simp (disch:=omega) only [gput_lt,gput_ne]
     exact eB
    ·simp (disch:=omega) only [gput_lt,gput_ne,gput_eq]
     rw [← HSET.out]
     show _=some (Blk.cells (L.set k (.lit (.int .i64 (b01 (M.gr.post SA k))))) true 0)
     rw [← HP.out]
     simp [hc,b01]
  ·have hltI:¬(k:Int) < (M.rows.length:Int):=by omega
   have hk2:k=M.rows.length:=by omega
   have HK2:=Hide.mk hk2
   clear hk2
   try simp (maxSteps:=999999) (disch:=first | assumption | omega | (simp; done) | fail) [Tryd.results13, *]
   refine ⟨n1,(M.gr.post SA),gq,nq,rfl,by omega,fun q hq=>HGq.out q hq,by omega,by omega,?_,SA,noneS,HSL.out,?_⟩
   ·rw [← intC_end]
    have h:=eO
    rw [HK2.out] at h
    exact h
   ·exact eqS.refl _ _
end Go.Ai
end
