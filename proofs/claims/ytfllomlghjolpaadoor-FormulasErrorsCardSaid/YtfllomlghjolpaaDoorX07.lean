/- A small verified interpreter over names, its proofs, and what was proved with it. No condition. -/
import Derived.Test.YtfllomlghjolpaaDoorRows
import Derived.Test.YtfllomlghjolpaaDoorCards
import Derived.Test.YtfllomlghjolpaaDoorTie
import Derived.WalkKit
import Derived.OpenShut
import Derived.Deep.DeepHandedRow
import Derived.LaidOnce
import Derived.Test.YtfllomlghjolpaaDoorX05
import Derived.Test.YtfllomlghjolpaaDoorX06
set_option linter.all false
set_option linter.deprecated false
section
namespace Go.Ai
open Go.Proofs
set_option maxRecDepth 100000
attribute [simp] Tryd.underlying0 Tryd.underlying1 Tryd.underlying2 Tryd.underlying3 Tryd.underlying4 Tryd.underlying5 Tryd.underlying6 Tryd.underlying7 Tryd.underlying8 Tryd.underlying9 Tryd.underlying10 Tryd.underlying11 Tryd.underlying12 Tryd.underlying13 Tryd.underlying14 Tryd.underlying15 Tryd.underlying16 Tryd.underlying17 Tryd.underlying18 Tryd.underlying19 Tryd.underlying20 Tryd.underlying21 Tryd.underlying22 Tryd.underlying23 Tryd.underlying24 Tryd.underlying25 Tryd.underlying26 Tryd.underlying27 Tryd.underlying28 Tryd.underlying29 Tryd.underlying30 Tryd.underlying31 Tryd.underlying32 Tryd.underlying33 Tryd.underlying34 Tryd.underlying35 Tryd.underlying36 Tryd.underlying37 Tryd.underlying38 Tryd.underlying39 Tryd.underlying40 Tryd.underlying41 Tryd.underlying42 Tryd.underlying43 Tryd.underlying44 Tryd.underlying45 Tryd.underlying46 Tryd.underlying47 Tryd.underlying48 Tryd.underlying49 Tryd.underlying50 Tryd.underlying51 Tryd.underlying52 Tryd.underlying53 Tryd.underlying54 Tryd.underlying55 Tryd.underlying56 Tryd.underlying57 Tryd.underlying58 Tryd.underlying59 Tryd.underlying60 Tryd.underlying61 Tryd.underlying62 Tryd.underlying63 Tryd.underlying64 Tryd.underlying65 Tryd.underlying66 Tryd.underlying67 Tryd.underlying68 Tryd.underlying69 Tryd.underlying70 Tryd.underlying71 Tryd.underlying72 Tryd.underlying73 Tryd.underlying74 Tryd.underlying75 Tryd.underlying76 Tryd.underlying77 Tryd.underlying78 Tryd.underlying79 Tryd.underlying80 Tryd.underlying81 Tryd.underlying82 Tryd.underlying83 Tryd.underlying84 Tryd.underlying85 Tryd.underlying86 Tryd.underlying87 Tryd.underlying88 Tryd.underlying89 Tryd.underlying90 Tryd.underlying91 Tryd.underlying92 Tryd.underlying93 Tryd.underlying94 Tryd.underlying95 Tryd.underlying96 Tryd.underlying97 Tryd.underlying98 Tryd.underlying99 Tryd.underlying100 Tryd.underlying101 Tryd.underlying102 Tryd.underlying103 Tryd.underlying104 Tryd.underlying105 Tryd.underlying106 Tryd.underlying107 Tryd.underlying108 Tryd.underlying109 Tryd.underlying110 Tryd.underlying111 Tryd.underlying112 Tryd.underlying113 Tryd.underlying114 Tryd.underlying115 Tryd.underlying116 Tryd.underlying117 Tryd.underlying118 Tryd.underlying119 Tryd.underlying120 Tryd.underlying121 Tryd.underlying122 Tryd.underlying123 Tryd.underlying124 Tryd.underlying125 Tryd.underlying126 Tryd.underlying127 Tryd.underlying128 Tryd.underlying129 Tryd.underlying130 Tryd.underlying131 Tryd.underlying132 Tryd.underlying133 Tryd.underlying134 Tryd.underlying135 Tryd.underlying136 Tryd.underlying137 Tryd.underlying138 Tryd.underlying139 Tryd.underlying140 Tryd.underlying141 Tryd.underlying142 Tryd.underlying143 Tryd.underlying144 Tryd.underlying145 Tryd.underlying146 Tryd.underlying147 Tryd.underlying148 Tryd.underlying149 Tryd.underlying150 Tryd.underlying151 Tryd.underlying152 Tryd.underlying153 Tryd.underlying154 Tryd.underlying155 Tryd.underlying156 Tryd.underlying157 Tryd.underlying158 Tryd.underlying159 Tryd.underlying160 Tryd.underlying161 Tryd.underlying162 Tryd.underlying163 Tryd.underlying164 Tryd.underlying165 Tryd.underlying166 Tryd.underlying167 Tryd.underlying168 Tryd.underlying169 Tryd.underlying170 Tryd.underlying171 Tryd.underlying172 Tryd.underlying173 Tryd.underlying174 Tryd.underlying175 Tryd.underlying176 Tryd.underlying177 Tryd.underlying178 Tryd.underlying179 Tryd.underlying180 Tryd.underlying181 Tryd.underlying182 Tryd.underlying183 Tryd.underlying184 Tryd.underlying185 Tryd.underlying186 Tryd.underlying187 Tryd.underlying188 Tryd.underlying189 Tryd.underlying190 Tryd.underlying191 Tryd.underlying192 Tryd.underlying193 Tryd.underlying194
theorem hb3:hasBody Tryd.prog 3=true:=by kernel_rfl
theorem hb11:hasBody Tryd.prog 11=true:=by kernel_rfl
theorem hb14:hasBody Tryd.prog 14=true:=by kernel_rfl
theorem hb15:hasBody Tryd.prog 15=true:=by kernel_rfl
theorem hb20:hasBody Tryd.prog 20=true:=by kernel_rfl
theorem hb21:hasBody Tryd.prog 21=true:=by kernel_rfl
theorem hb25:hasBody Tryd.prog 25=true:=by kernel_rfl
theorem hb26:hasBody Tryd.prog 26=true:=by kernel_rfl
theorem hb27:hasBody Tryd.prog 27=true:=by kernel_rfl
theorem hb28:hasBody Tryd.prog 28=true:=by kernel_rfl
theorem hb30:hasBody Tryd.prog 30=true:=by kernel_rfl
theorem hb31:hasBody Tryd.prog 31=true:=by kernel_rfl
theorem hb32:hasBody Tryd.prog 32=true:=by kernel_rfl
theorem hb38:hasBody Tryd.prog 38=true:=by kernel_rfl
theorem hb39:hasBody Tryd.prog 39=true:=by kernel_rfl
theorem hb43:hasBody Tryd.prog 43=true:=by kernel_rfl
theorem hb49:hasBody Tryd.prog 49=true:=by kernel_rfl
theorem hb50:hasBody Tryd.prog 50=true:=by kernel_rfl
theorem hb52:hasBody Tryd.prog 52=true:=by kernel_rfl
theorem hb53:hasBody Tryd.prog 53=true:=by kernel_rfl
theorem hb54:hasBody Tryd.prog 54=true:=by kernel_rfl
theorem hb55:hasBody Tryd.prog 55=true:=by kernel_rfl
theorem hb56:hasBody Tryd.prog 56=true:=by kernel_rfl
theorem hb57:hasBody Tryd.prog 57=true:=by kernel_rfl
theorem hb64:hasBody Tryd.prog 64=true:=by kernel_rfl
theorem hb65:hasBody Tryd.prog 65=true:=by kernel_rfl
theorem hb66:hasBody Tryd.prog 66=true:=by kernel_rfl
theorem hb67:hasBody Tryd.prog 67=true:=by kernel_rfl
theorem hb69:hasBody Tryd.prog 69=true:=by kernel_rfl
theorem hb70:hasBody Tryd.prog 70=true:=by kernel_rfl
theorem hb71:hasBody Tryd.prog 71=true:=by kernel_rfl
theorem hb72:hasBody Tryd.prog 72=true:=by kernel_rfl
theorem hb77:hasBody Tryd.prog 77=true:=by kernel_rfl
theorem hb78:hasBody Tryd.prog 78=true:=by kernel_rfl
theorem hb80:hasBody Tryd.prog 80=true:=by kernel_rfl
theorem hb81:hasBody Tryd.prog 81=true:=by kernel_rfl
theorem hb82:hasBody Tryd.prog 82=true:=by kernel_rfl
theorem hb86:hasBody Tryd.prog 86=true:=by kernel_rfl
theorem hb87:hasBody Tryd.prog 87=true:=by kernel_rfl
theorem hb88:hasBody Tryd.prog 88=true:=by kernel_rfl
theorem hb122:hasBody Tryd.prog 122=true:=by kernel_rfl
theorem hb123:hasBody Tryd.prog 123=true:=by kernel_rfl
theorem hb124:hasBody Tryd.prog 124=true:=by kernel_rfl
theorem hb125:hasBody Tryd.prog 125=true:=by kernel_rfl
theorem hb126:hasBody Tryd.prog 126=true:=by kernel_rfl
theorem hb127:hasBody Tryd.prog 127=true:=by kernel_rfl
theorem hb128:hasBody Tryd.prog 128=true:=by kernel_rfl
theorem hb129:hasBody Tryd.prog 129=true:=by kernel_rfl
theorem hb130:hasBody Tryd.prog 130=true:=by kernel_rfl
theorem hb131:hasBody Tryd.prog 131=true:=by kernel_rfl
theorem hb132:hasBody Tryd.prog 132=true:=by kernel_rfl
theorem hb133:hasBody Tryd.prog 133=true:=by kernel_rfl
theorem hb134:hasBody Tryd.prog 134=true:=by kernel_rfl
theorem hb135:hasBody Tryd.prog 135=true:=by kernel_rfl
theorem hb136:hasBody Tryd.prog 136=true:=by kernel_rfl
theorem hb137:hasBody Tryd.prog 137=true:=by kernel_rfl
theorem hb138:hasBody Tryd.prog 138=true:=by kernel_rfl
theorem hb139:hasBody Tryd.prog 139=true:=by kernel_rfl
theorem hb140:hasBody Tryd.prog 140=true:=by kernel_rfl
theorem hb141:hasBody Tryd.prog 141=true:=by kernel_rfl
attribute [simp] hb3 hb11 hb14 hb15 hb20 hb21 hb25 hb26 hb27 hb28 hb30 hb31 hb32 hb38 hb39 hb43 hb49 hb50 hb52 hb53 hb54 hb55 hb56 hb57 hb64 hb65 hb66 hb67 hb69 hb70 hb71 hb72 hb77 hb78 hb80 hb81 hb82 hb86 hb87 hb88 hb122 hb123 hb124 hb125 hb126 hb127 hb128 hb129 hb130 hb131 hb132 hb133 hb134 hb135 hb136 hb137 hb138 hb139 hb140 hb141
theorem ag_73:tIsAgg Tryd.prog 73=some (false,1):=by kernel_rfl
theorem ag_76:tIsAgg Tryd.prog 76=some (true,5):=by kernel_rfl
theorem ag_3:tIsAgg Tryd.prog 3=some (false,1):=by kernel_rfl
theorem ag_70:tIsAgg Tryd.prog 70=some (true,2):=by kernel_rfl
theorem ag_63:tIsAgg Tryd.prog 63=some (false,1):=by kernel_rfl
theorem ag_28:tIsAgg Tryd.prog 28=some (false,1):=by kernel_rfl
theorem ag_5:tIsAgg Tryd.prog 5=some (false,1):=by kernel_rfl
theorem ag_72:tIsAgg Tryd.prog 72=some (false,1):=by kernel_rfl
theorem ag_74:tIsAgg Tryd.prog 74=some (false,1):=by kernel_rfl
theorem ag_9:tIsAgg Tryd.prog 9=some (false,1):=by kernel_rfl
theorem ag_34:tIsAgg Tryd.prog 34=some (true,4):=by kernel_rfl
theorem ag_31:tIsAgg Tryd.prog 31=some (false,1):=by kernel_rfl
theorem ag_32:tIsAgg Tryd.prog 32=some (false,1):=by kernel_rfl
theorem ag_117:tIsAgg Tryd.prog 117=some (true,4):=by kernel_rfl
theorem ag_30:tIsAgg Tryd.prog 30=some (true,3):=by kernel_rfl
theorem ag_128:tIsAgg Tryd.prog 128=some (true,2):=by kernel_rfl
theorem ag_115:tIsAgg Tryd.prog 115=some (false,1):=by kernel_rfl
theorem ag_4:tIsAgg Tryd.prog 4=some (false,1):=by kernel_rfl
theorem zl_147:zeroL Tryd.prog 147=some [.lit (.int .u8 0),.lit (.int .u8 0),.lit (.int .u8 0),.lit (.int .u8 0),.lit (.int .u8 0),.lit (.int .u8 0),.lit (.int .u8 0),.lit (.int .u8 0),.lit (.int .u8 0),.lit (.int .u8 0),.lit (.int .u8 0),.lit (.int .u8 0),.lit (.int .u8 0),.lit (.int .u8 0),.lit (.int .u8 0),.lit (.int .u8 0),.lit (.int .u8 0),.lit (.int .u8 0),.lit (.int .u8 0),.lit (.int .u8 0),.lit (.int .u8 0),.lit (.int .u8 0),.lit (.int .u8 0),.lit (.int .u8 0)]:=by kernel_rfl
theorem zl_70:zeroL Tryd.prog 70=some [.lit (.int .i64 0),.lit (.int .i64 0)]:=by kernel_rfl
theorem zl_34:zeroL Tryd.prog 34=some [.lit (.int .u8 0),.lit (.int .i64 0),.lit (.int .i64 0),.lit (.slice none 0 0)]:=by kernel_rfl
theorem zl_117:zeroL Tryd.prog 117=some [.lit (.int .i64 0),.lit (.int .i64 0),.lit (.string ⟨#[]⟩),.lit (.nilFunc)]:=by kernel_rfl
theorem zl_128:zeroL Tryd.prog 128=some [.lit (.int .i64 0),.lit (.int .i64 0)]:=by kernel_rfl
theorem zl_3:zeroL Tryd.prog 3=some [.lit (.int .i64 0)]:=by kernel_rfl
theorem zl_114:zeroL Tryd.prog 114=some [.lit (.int .u64 0),.lit (.int .u64 0)]:=by kernel_rfl
theorem zl_76:zeroL Tryd.prog 76=some [.lit (.int .i64 0),.lit (.int .i64 0),.lit (.slice none 0 0),.lit (.slice none 0 0),.lit (.int .u64 0)]:=by kernel_rfl
theorem fo_76_2:fldOff Tryd.prog 76 2=some 4:=by kernel_rfl
theorem fo_34_2:fldOff Tryd.prog 34 2=some 2:=by kernel_rfl
theorem fo_70_1:fldOff Tryd.prog 70 1=some 1:=by kernel_rfl
theorem fo_34_1:fldOff Tryd.prog 34 1=some 1:=by kernel_rfl
theorem fo_70_0:fldOff Tryd.prog 70 0=some 0:=by kernel_rfl
theorem fo_30_2:fldOff Tryd.prog 30 2=some 2:=by kernel_rfl
theorem fo_76_0:fldOff Tryd.prog 76 0=some 0:=by kernel_rfl
theorem fo_76_1:fldOff Tryd.prog 76 1=some 3:=by kernel_rfl
theorem fo_34_0:fldOff Tryd.prog 34 0=some 0:=by kernel_rfl
theorem fo_34_3:fldOff Tryd.prog 34 3=some 3:=by kernel_rfl
theorem fo_117_0:fldOff Tryd.prog 117 0=some 0:=by kernel_rfl
theorem fo_117_2:fldOff Tryd.prog 117 2=some 2:=by kernel_rfl
theorem fo_30_1:fldOff Tryd.prog 30 1=some 1:=by kernel_rfl
theorem fo_117_1:fldOff Tryd.prog 117 1=some 1:=by kernel_rfl
theorem fo_30_0:fldOff Tryd.prog 30 0=some 0:=by kernel_rfl
theorem fo_117_3:fldOff Tryd.prog 117 3=some 3:=by kernel_rfl
theorem es_63:elSz Tryd.prog 63=some (none,2):=by kernel_rfl
theorem es_28:elSz Tryd.prog 28=some (none,1):=by kernel_rfl
theorem es_25:elSz Tryd.prog 25=some (none,1):=by kernel_rfl
theorem es_154:elSz Tryd.prog 154=some (some 20,1):=by kernel_rfl
theorem es_147:elSz Tryd.prog 147=some (some 24,1):=by kernel_rfl
theorem es_74:elSz Tryd.prog 74=some (none,1):=by kernel_rfl
theorem es_42:elSz Tryd.prog 42=some (none,1):=by kernel_rfl
theorem es_32:elSz Tryd.prog 32=some (none,4):=by kernel_rfl
theorem es_118:elSz Tryd.prog 118=some (some 15,4):=by kernel_rfl
theorem es_114:elSz Tryd.prog 114=some (some 2,1):=by kernel_rfl
theorem es_37:elSz Tryd.prog 37=some (none,1):=by kernel_rfl
theorem bi_70:bldI Tryd.prog 70=some ([.lit (.int .i64 0),.lit (.int .i64 0)],[(0,1),(1,1)]):=by kernel_rfl
theorem bi_128:bldI Tryd.prog 128=some ([.lit (.int .i64 0),.lit (.int .i64 0)],[(0,1),(1,1)]):=by kernel_rfl
theorem bi_76:bldI Tryd.prog 76=some ([.lit (.int .i64 0),.lit (.int .i64 0),.lit (.slice none 0 0),.lit (.slice none 0 0),.lit (.int .u64 0)],[(0,3),(3,1),(4,1)]):=by kernel_rfl
theorem bs_42:bsI Tryd.prog 42=some ([.lit (.int .i64 0)],1):=by kernel_rfl
theorem ap_42_42:apI Tryd.prog 42 42=some (1,8):=by kernel_rfl
theorem fi_128_0:fdI Tryd.prog 128 0=some (false,0,1):=by kernel_rfl
theorem fi_128_1:fdI Tryd.prog 128 1=some (false,1,1):=by kernel_rfl
attribute [simp] ag_73 ag_76 ag_3 ag_70 ag_63 ag_28 ag_5 ag_72 ag_74 ag_9 ag_34 ag_31 ag_32 ag_117 ag_30 ag_128 ag_115 ag_4 zl_147 zl_70 zl_34 zl_117 zl_128 zl_3 zl_114 zl_76 fo_76_2 fo_34_2 fo_70_1 fo_34_1 fo_70_0 fo_30_2 fo_76_0 fo_76_1 fo_34_0 fo_34_3 fo_117_0 fo_117_2 fo_30_1 fo_117_1 fo_30_0 fo_117_3 es_63 es_28 es_25 es_154 es_147 es_74 es_42 es_32 es_118 es_114 es_37 bi_70 bi_128 bi_76 bs_42 ap_42_42 fi_128_0 fi_128_1
theorem gsize:Tryd.prog.globals.size=6:=by kernel_rfl
end Go.Ai
end
section
namespace Go.Ai
def pl11:List (Nat×List It):=[(4,[.run 0,.run 2,.run 1,.gate [2] [],.run 3,.run 4])]
theorem pl11_at_4:planAt pl11 4=[.run 0,.run 2,.run 1,.gate [2] [],.run 3,.run 4]:=(rfl)
attribute [simp] pl11_at_4
def pl21:List (Nat×List It):=[(14,[.run 0,.run 1,.run 2,.run 3,.run 4,.run 5,.run 6,.run 7,.run 8,.run 9,.gate [0] [],.run 10,.run 11,.run 12,.run 13]),(16,[.run 0,.run 1,.run 2,.run 3,.run 4,.run 5,.run 6,.run 7,.run 8,.run 9,.gate [3,0] [],.run 10,.run 11,.run 12,.run 13]),(18,[.run 0,.run 1,.run 2,.run 3,.run 4,.run 5,.run 6,.run 8,.run 9,.run 10,.run 11,.run 12,.run 7,.gate [12,10,8,0] [],.run 13,.gate [0] [],.run 14,.run 15,.run 16,.run 17])]
theorem pl21_at_14:planAt pl21 14=[.run 0,.run 1,.run 2,.run 3,.run 4,.run 5,.run 6,.run 7,.run 8,.run 9,.gate [0] [],.run 10,.run 11,.run 12,.run 13]:=(rfl)
attribute [simp] pl21_at_14
theorem pl21_at_16:planAt pl21 16=[.run 0,.run 1,.run 2,.run 3,.run 4,.run 5,.run 6,.run 7,.run 8,.run 9,.gate [3,0] [],.run 10,.run 11,.run 12,.run 13]:=(rfl)
attribute [simp] pl21_at_16
theorem pl21_at_18:planAt pl21 18=[.run 0,.run 1,.run 2,.run 3,.run 4,.run 5,.run 6,.run 8,.run 9,.run 10,.run 11,.run 12,.run 7,.gate [12,10,8,0] [],.run 13,.gate [0] [],.run 14,.run 15,.run 16,.run 17]:=(rfl)
attribute [simp] pl21_at_18
def pl30:List (Nat×List It):=[(1,[.run 0,.run 1,.run 2,.run 3,.mk 4,.run 5,.mk 6,.gate [3,2,0] [4],.run 7]),(5,[.run 0,.run 1,.run 2,.run 3,.run 4,.run 5,.run 6]),(10,[.run 0,.run 1,.run 2,.run 3,.run 4,.run 5,.run 6,.run 7,.run 8,.run 9,.run 10])]
theorem pl30_at_1:planAt pl30 1=[.run 0,.run 1,.run 2,.run 3,.mk 4,.run 5,.mk 6,.gate [3,2,0] [4],.run 7]:=(rfl)
attribute [simp] pl30_at_1
theorem pl30_at_5:planAt pl30 5=[.run 0,.run 1,.run 2,.run 3,.run 4,.run 5,.run 6]:=(rfl)
attribute [simp] pl30_at_5
theorem pl30_at_10:planAt pl30 10=[.run 0,.run 1,.run 2,.run 3,.run 4,.run 5,.run 6,.run 7,.run 8,.run 9,.run 10]:=(rfl)
attribute [simp] pl30_at_10
def pl31:List (Nat×List It):=[(7,[.run 0,.run 1,.run 2,.run 3,.run 4,.run 5,.run 6,.run 7,.run 8,.run 9,.run 10,.run 11,.run 12])]
theorem pl31_at_7:planAt pl31 7=[.run 0,.run 1,.run 2,.run 3,.run 4,.run 5,.run 6,.run 7,.run 8,.run 9,.run 10,.run 11,.run 12]:=(rfl)
attribute [simp] pl31_at_7
def pl39:List (Nat×List It):=[(4,[.run 0,.run 1,.run 2,.run 3,.run 4,.run 8,.run 9,.run 10,.run 11,.run 5,.run 6,.run 7,.gate [11,9] [],.run 12,.run 13,.run 14,.run 15,.run 16]),(6,[.run 0,.run 1,.run 2,.run 3,.run 4,.run 5,.run 8,.run 11,.run 12,.run 13,.run 14,.run 15,.run 16,.run 17,.run 6,.run 7,.run 9,.run 10,.gate [16,14,12] [],.run 18,.run 19,.run 20]),(8,[.run 0,.run 1,.run 2,.run 3,.run 4,.run 5,.run 6,.run 7,.run 8,.run 9,.run 10]),(10,[.run 0,.run 1,.run 2,.run 6,.run 7,.run 3,.run 4,.run 5,.gate [7] [],.run 8,.run 9,.run 10,.run 11])]
theorem pl39_at_4:planAt pl39 4=[.run 0,.run 1,.run 2,.run 3,.run 4,.run 8,.run 9,.run 10,.run 11,.run 5,.run 6,.run 7,.gate [11,9] [],.run 12,.run 13,.run 14,.run 15,.run 16]:=(rfl)
attribute [simp] pl39_at_4
theorem pl39_at_6:planAt pl39 6=[.run 0,.run 1,.run 2,.run 3,.run 4,.run 5,.run 8,.run 11,.run 12,.run 13,.run 14,.run 15,.run 16,.run 17,.run 6,.run 7,.run 9,.run 10,.gate [16,14,12] [],.run 18,.run 19,.run 20]:=(rfl)
attribute [simp] pl39_at_6
theorem pl39_at_8:planAt pl39 8=[.run 0,.run 1,.run 2,.run 3,.run 4,.run 5,.run 6,.run 7,.run 8,.run 9,.run 10]:=(rfl)
attribute [simp] pl39_at_8
theorem pl39_at_10:planAt pl39 10=[.run 0,.run 1,.run 2,.run 6,.run 7,.run 3,.run 4,.run 5,.gate [7] [],.run 8,.run 9,.run 10,.run 11]:=(rfl)
attribute [simp] pl39_at_10
def pl49:List (Nat×List It):=[(17,[.run 0,.run 1,.run 2,.run 3,.run 4,.mk 5,.run 7,.run 8,.run 9,.run 10,.gate [3] [],.run 6,.run 11,.run 12,.gate [9] []])]
theorem pl49_at_17:planAt pl49 17=[.run 0,.run 1,.run 2,.run 3,.run 4,.mk 5,.run 7,.run 8,.run 9,.run 10,.gate [3] [],.run 6,.run 11,.run 12,.gate [9] []]:=(rfl)
attribute [simp] pl49_at_17
def pl50:List (Nat×List It):=[(8,[.run 0,.run 1,.mk 2,.run 4,.run 5,.run 3,.run 6,.run 7,.gate [5] []])]
theorem pl50_at_8:planAt pl50 8=[.run 0,.run 1,.mk 2,.run 4,.run 5,.run 3,.run 6,.run 7,.gate [5] []]:=(rfl)
attribute [simp] pl50_at_8
def pl54:List (Nat×List It):=[(1,[.run 0,.run 1,.run 2,.run 3,.run 4,.run 5,.run 6,.run 7,.run 8,.run 9,.run 10,.run 11,.run 12,.run 13,.run 14,.run 15,.run 16,.run 17,.run 18,.run 19,.run 20,.run 21,.run 22,.run 23,.run 24,.run 25,.run 26,.run 27,.run 28,.gate [0] []])]
theorem pl54_at_1:planAt pl54 1=[.run 0,.run 1,.run 2,.run 3,.run 4,.run 5,.run 6,.run 7,.run 8,.run 9,.run 10,.run 11,.run 12,.run 13,.run 14,.run 15,.run 16,.run 17,.run 18,.run 19,.run 20,.run 21,.run 22,.run 23,.run 24,.run 25,.run 26,.run 27,.run 28,.gate [0] []]:=(rfl)
attribute [simp] pl54_at_1
def pl55:List (Nat×List It):=[(8,[.run 0,.run 1,.run 2,.run 3,.run 4,.run 5,.run 6,.run 7,.run 8,.run 9,.run 10,.run 11,.run 12,.run 13,.run 14,.run 15,.run 16,.run 17,.run 18,.run 19,.run 20,.run 21,.run 22,.run 23,.run 24,.run 25,.run 26,.run 27,.run 28,.gate [2,1] []])]
theorem pl55_at_8:planAt pl55 8=[.run 0,.run 1,.run 2,.run 3,.run 4,.run 5,.run 6,.run 7,.run 8,.run 9,.run 10,.run 11,.run 12,.run 13,.run 14,.run 15,.run 16,.run 17,.run 18,.run 19,.run 20,.run 21,.run 22,.run 23,.run 24,.run 25,.run 26,.run 27,.run 28,.gate [2,1] []]:=(rfl)
attribute [simp] pl55_at_8
def pl56:List (Nat×List It):=[(1,[.run 0,.run 1,.run 2,.run 3,.run 4,.run 5,.run 6,.run 7,.run 8,.run 9,.run 10,.run 11,.run 12,.run 13,.run 14,.run 15,.run 16,.run 17,.run 18,.run 19,.run 20,.run 21,.run 22,.run 23,.run 24])]
theorem pl56_at_1:planAt pl56 1=[.run 0,.run 1,.run 2,.run 3,.run 4,.run 5,.run 6,.run 7,.run 8,.run 9,.run 10,.run 11,.run 12,.run 13,.run 14,.run 15,.run 16,.run 17,.run 18,.run 19,.run 20,.run 21,.run 22,.run 23,.run 24]:=(rfl)
attribute [simp] pl56_at_1
def pl65:List (Nat×List It):=[(3,[.run 0,.run 1,.run 2,.run 3,.run 4,.run 5,.run 6,.run 7,.run 8,.run 9,.run 10,.run 11,.run 12,.run 13,.run 14,.run 15])]
theorem pl65_at_3:planAt pl65 3=[.run 0,.run 1,.run 2,.run 3,.run 4,.run 5,.run 6,.run 7,.run 8,.run 9,.run 10,.run 11,.run 12,.run 13,.run 14,.run 15]:=(rfl)
attribute [simp] pl65_at_3
def pl67:List (Nat×List It):=[(1,[.run 0,.run 1,.run 2,.run 3,.run 4,.run 5,.run 6,.run 7,.gate [1] []])]
theorem pl67_at_1:planAt pl67 1=[.run 0,.run 1,.run 2,.run 3,.run 4,.run 5,.run 6,.run 7,.gate [1] []]:=(rfl)
attribute [simp] pl67_at_1
def pl82:List (Nat×List It):=[(7,[.run 0,.run 1,.run 2,.run 3,.run 4,.run 5,.run 6,.run 7,.run 8,.run 9,.run 10,.run 11,.run 12,.run 13,.run 14]),(8,[.run 0,.run 1,.run 2,.run 3,.run 4,.run 5,.run 6,.run 7,.run 8,.run 9,.run 10,.run 11,.run 12,.run 13,.run 14]),(9,[.run 0,.run 1,.run 2,.run 3,.run 4,.run 5,.run 6,.run 7,.run 8,.run 9,.run 10,.run 11,.run 12,.run 13,.run 14]),(10,[.run 0,.run 1,.run 2,.run 3,.run 4,.run 5,.run 6,.run 7,.run 8,.run 9,.run 10,.run 11,.run 12,.run 13,.run 14]),(17,[.run 0,.run 1,.run 2,.run 3,.run 4,.run 5,.run 6,.run 7,.run 8,.run 9,.run 10,.run 11,.run 12,.run 13,.run 14]),(18,[.run 0,.run 1,.run 2,.run 3,.run 4,.run 5,.run 6,.run 7,.run 8,.run 9,.run 10,.run 11,.run 12,.run 13,.run 14]),(23,[.run 0,.run 1,.run 2,.run 3,.run 4,.run 5,.run 6,.run 7,.run 8,.run 9,.run 10,.run 11,.run 12,.run 13,.run 14])]
theorem pl82_at_17:planAt pl82 17=[.run 0,.run 1,.run 2,.run 3,.run 4,.run 5,.run 6,.run 7,.run 8,.run 9,.run 10,.run 11,.run 12,.run 13,.run 14]:=(rfl)
attribute [simp] pl82_at_17
theorem pl82_at_18:planAt pl82 18=[.run 0,.run 1,.run 2,.run 3,.run 4,.run 5,.run 6,.run 7,.run 8,.run 9,.run 10,.run 11,.run 12,.run 13,.run 14]:=(rfl)
attribute [simp] pl82_at_18
theorem pl82_at_23:planAt pl82 23=[.run 0,.run 1,.run 2,.run 3,.run 4,.run 5,.run 6,.run 7,.run 8,.run 9,.run 10,.run 11,.run 12,.run 13,.run 14]:=(rfl)
attribute [simp] pl82_at_23
def pl136:List (Nat×List It):=[(1,[.run 0,.run 1,.run 2,.run 4,.run 3,.gate [4] [],.run 5,.run 6,.run 7,.run 8])]
theorem pl136_at_1:planAt pl136 1=[.run 0,.run 1,.run 2,.run 4,.run 3,.gate [4] [],.run 5,.run 6,.run 7,.run 8]:=(rfl)
attribute [simp] pl136_at_1
def pl138:List (Nat×List It):=[(1,[.run 0,.run 1,.run 2,.run 3,.run 4,.run 5,.run 6,.run 7,.run 8,.run 9,.gate [1] []])]
theorem pl138_at_1:planAt pl138 1=[.run 0,.run 1,.run 2,.run 3,.run 4,.run 5,.run 6,.run 7,.run 8,.run 9,.gate [1] []]:=(rfl)
attribute [simp] pl138_at_1
def pl139:List (Nat×List It):=[(1,[.run 0,.run 1,.run 2,.run 3,.run 4,.run 5,.run 6,.run 7,.run 8,.run 9,.gate [1] []])]
theorem pl139_at_1:planAt pl139 1=[.run 0,.run 1,.run 2,.run 3,.run 4,.run 5,.run 6,.run 7,.run 8,.run 9,.gate [1] []]:=(rfl)
attribute [simp] pl139_at_1
def pl140:List (Nat×List It):=[(1,[.run 0,.run 1,.run 2,.run 3,.run 4,.run 5,.run 6,.run 7,.run 8,.run 9,.run 10,.run 11,.gate [1] []])]
theorem pl140_at_1:planAt pl140 1=[.run 0,.run 1,.run 2,.run 3,.run 4,.run 5,.run 6,.run 7,.run 8,.run 9,.run 10,.run 11,.gate [1] []]:=(rfl)
attribute [simp] pl140_at_1
def pl141:List (Nat×List It):=[(1,[.run 0,.run 1,.run 2,.run 3,.run 4,.run 5,.run 6,.run 8,.run 9,.run 10,.run 11,.run 12,.run 13,.run 14,.run 15,.run 16,.run 17,.run 18,.run 7,.gate [14,10,8,1] [],.run 19,.run 20,.run 21,.run 22,.gate [1] []])]
theorem pl141_at_1:planAt pl141 1=[.run 0,.run 1,.run 2,.run 3,.run 4,.run 5,.run 6,.run 8,.run 9,.run 10,.run 11,.run 12,.run 13,.run 14,.run 15,.run 16,.run 17,.run 18,.run 7,.gate [14,10,8,1] [],.run 19,.run 20,.run 21,.run 22,.gate [1] []]:=(rfl)
attribute [simp] pl141_at_1
end Go.Ai
end
section
namespace Go.Ai
open Go.Proofs
structure OpRow where
 subs:Int
 rank:Int
 sign:ByteArray
 fn:FuncId
def OpRow.cells (r:OpRow) : List AV:=[.lit (.int .i64 r.subs),.lit (.int .i64 r.rank),.lit (.string r.sign),.lit (.func (.func r.fn) #[] #[])]
def opRows:List OpRow:=[
 ⟨0,4,⟨#[116,114,117,101]⟩,122⟩,
 ⟨0,4,⟨#[115,116,97,116,101]⟩,123⟩,
 ⟨0,4,⟨#[99,97,110]⟩,124⟩,
 ⟨0,4,⟨#[103,105,118,101,115]⟩,127⟩,
 ⟨1,3,⟨#[110,111,116]⟩,129⟩,
 ⟨2,2,⟨#[97,110,100]⟩,130⟩,
 ⟨2,1,⟨#[111,114]⟩,131⟩,
 ⟨1,3,⟨#[69,88]⟩,132⟩,
 ⟨1,3,⟨#[69,70]⟩,133⟩,
 ⟨1,3,⟨#[69,71]⟩,135⟩,
 ⟨2,4,⟨#[69]⟩,137⟩,
 ⟨1,3,⟨#[65,88]⟩,138⟩,
 ⟨1,3,⟨#[65,70]⟩,139⟩,
 ⟨1,3,⟨#[65,71]⟩,140⟩,
 ⟨2,4,⟨#[65]⟩,141⟩]
def opCells:List AV:=opRows.flatMap OpRow.cells
def opsB:Blk:=.cells opCells false 0
attribute [simp] gsize oLoad_glob
theorem hG:6=Tryd.prog.globals.size:=gsize.symm
end Go.Ai
end
section
namespace Go.Ai
open Go.Proofs
set_option maxRecDepth 10000
def bP:List AV:=[.lit (.int .u64 1),.lit (.int .u64 10),.lit (.int .u64 100),.lit (.int .u64 1000),.lit (.int .u64 10000),.lit (.int .u64 100000),.lit (.int .u64 1000000),.lit (.int .u64 10000000),.lit (.int .u64 100000000),.lit (.int .u64 1000000000),.lit (.int .u64 10000000000),.lit (.int .u64 100000000000),.lit (.int .u64 1000000000000),.lit (.int .u64 10000000000000),.lit (.int .u64 100000000000000),.lit (.int .u64 1000000000000000),.lit (.int .u64 10000000000000000),.lit (.int .u64 100000000000000000),.lit (.int .u64 1000000000000000000),.lit (.int .u64 10000000000000000000)]
def bT:List AV:=[.lit (.int .u8 0),.lit (.int .u8 1),.lit (.int .u8 28),.lit (.int .u8 2),.lit (.int .u8 29),.lit (.int .u8 14),.lit (.int .u8 24),.lit (.int .u8 3),.lit (.int .u8 30),.lit (.int .u8 22),.lit (.int .u8 20),.lit (.int .u8 15),.lit (.int .u8 25),.lit (.int .u8 17),.lit (.int .u8 4),.lit (.int .u8 8),.lit (.int .u8 31),.lit (.int .u8 27),.lit (.int .u8 13),.lit (.int .u8 23),.lit (.int .u8 21),.lit (.int .u8 19),.lit (.int .u8 16),.lit (.int .u8 7),.lit (.int .u8 26),.lit (.int .u8 12),.lit (.int .u8 18),.lit (.int .u8 6),.lit (.int .u8 11),.lit (.int .u8 5),.lit (.int .u8 10),.lit (.int .u8 9)]
def bU:List AV:=[.lit (.int .u8 0),.lit (.int .u8 1),.lit (.int .u8 56),.lit (.int .u8 2),.lit (.int .u8 57),.lit (.int .u8 49),.lit (.int .u8 28),.lit (.int .u8 3),.lit (.int .u8 61),.lit (.int .u8 58),.lit (.int .u8 42),.lit (.int .u8 50),.lit (.int .u8 38),.lit (.int .u8 29),.lit (.int .u8 17),.lit (.int .u8 4),.lit (.int .u8 62),.lit (.int .u8 47),.lit (.int .u8 59),.lit (.int .u8 36),.lit (.int .u8 45),.lit (.int .u8 43),.lit (.int .u8 51),.lit (.int .u8 22),.lit (.int .u8 53),.lit (.int .u8 39),.lit (.int .u8 33),.lit (.int .u8 30),.lit (.int .u8 24),.lit (.int .u8 18),.lit (.int .u8 12),.lit (.int .u8 5),.lit (.int .u8 63),.lit (.int .u8 55),.lit (.int .u8 48),.lit (.int .u8 27),.lit (.int .u8 60),.lit (.int .u8 41),.lit (.int .u8 37),.lit (.int .u8 16),.lit (.int .u8 46),.lit (.int .u8 35),.lit (.int .u8 44),.lit (.int .u8 21),.lit (.int .u8 52),.lit (.int .u8 32),.lit (.int .u8 23),.lit (.int .u8 11),.lit (.int .u8 54),.lit (.int .u8 26),.lit (.int .u8 40),.lit (.int .u8 15),.lit (.int .u8 34),.lit (.int .u8 20),.lit (.int .u8 31),.lit (.int .u8 10),.lit (.int .u8 25),.lit (.int .u8 14),.lit (.int .u8 19),.lit (.int .u8 9),.lit (.int .u8 13),.lit (.int .u8 8),.lit (.int .u8 7),.lit (.int .u8 6)]
def bR:List AV:=[.lit (.string ⟨#[118,97,108,117,101,32,111,117,116,32,111,102,32,114,97,110,103,101]⟩)]
def bS:List AV:=[.lit (.string ⟨#[105,110,118,97,108,105,100,32,115,121,110,116,97,120]⟩)]
def bX:List AV:=[.iface 176 (.ptr 7 0)]
def bY:List AV:=[.iface 176 (.ptr 6 0)]
noncomputable def H0:Mem:=⟨.tr (u4 (u4 (u4 (u4 (u4 (u4 (u4 (u4 (e4) 0 (.v 0 (.cells opCells false 0))) 1 (.v 1 (.cells bP false 0))) 2 (.v 2 (.cells bX false 0))) 3 (.v 3 (.cells bY false 0))) 4 (.v 4 (.cells bT false 0))) 5 (.v 5 (.cells bU false 0))) 6 (.v 6 (.cells bR false 0))) 7 (.v 7 (.cells bS false 0))),8⟩
theorem lay0:layG Tryd.prog YtfllomlghjolpaaDoor.Rows.formulasKnownRow.laid (mem0 Tryd.prog)=some H0:=by kernel_rfl
end Go.Ai
end
section
namespace Go.Ai
open Go.Proofs
set_option maxRecDepth 10000
def blks0:List Blk:=[.cells opCells false 0,.cells bP false 0,.cells bX false 0,.cells bY false 0,.cells bT false 0,.cells bU false 0,.cells bR false 0,.cells bS false 0]
theorem H0_inv {a:Nat} {x:Blk} (h:H0.get a=some x) : blks0[a]?=some x:=by
 have h' : get4 (u4 (u4 (u4 (u4 (u4 (u4 (u4 (u4 (e4) 0 (.v 0 (.cells opCells false 0))) 1 (.v 1 (.cells bP false 0))) 2 (.v 2 (.cells bX false 0))) 3 (.v 3 (.cells bY false 0))) 4 (.v 4 (.cells bT false 0))) 5 (.v 5 (.cells bU false 0))) 6 (.v 6 (.cells bR false 0))) 7 (.v 7 (.cells bS false 0))) a=some x:=h
 clear h
 rcases get4_v _ _ _ _ _ h' with ⟨rfl,rfl⟩ | ⟨_,h'⟩; · rfl
 rcases get4_v _ _ _ _ _ h' with ⟨rfl,rfl⟩ | ⟨_,h'⟩; · rfl
 rcases get4_v _ _ _ _ _ h' with ⟨rfl,rfl⟩ | ⟨_,h'⟩; · rfl
 rcases get4_v _ _ _ _ _ h' with ⟨rfl,rfl⟩ | ⟨_,h'⟩; · rfl
 rcases get4_v _ _ _ _ _ h' with ⟨rfl,rfl⟩ | ⟨_,h'⟩; · rfl
 rcases get4_v _ _ _ _ _ h' with ⟨rfl,rfl⟩ | ⟨_,h'⟩; · rfl
 rcases get4_v _ _ _ _ _ h' with ⟨rfl,rfl⟩ | ⟨_,h'⟩; · rfl
 rcases get4_v _ _ _ _ _ h' with ⟨rfl,rfl⟩ | ⟨_,h'⟩; · rfl
 rw [get4_e4] at h'; cases h'
noncomputable def holds (H:Mem) : Nat→List Blk→Bool
 | _,[]=>true
 | i,b :: l=>match H.get i with
  | some x=>match eqBlk x b with | true=>holds H (i+1) l | false=>false
  | none=>false
theorem holds_spec {H:Mem} : ∀ {l:List Blk} {i:Nat},holds H i l=true→∀ (k:Nat) b,l[k]?=some b→H.get (i+k)=some b
 | [],_,_,k,b,h=>by simp at h
 | b :: l,i,h,k,c,hk=>by
  unfold holds at h
  split at h
  ·rename_i x hx
   split at h
   ·rename_i he
    cases k with
    | zero=>simp at hk; subst hk; rw [Nat.add_zero,hx,eqBlk_sound he]
    | succ k=>have:=holds_spec h k c (by simpa using hk); rw [← this]; congr 1; omega
   ·cases h
  ·cases h
theorem own_w {O:CallF} (hO:∀ B,CallOK B 6 Tryd.prog O) {f:FuncId} {args:List AV} {v:AV} (hargs:belowL 0 args=true) (hv:plainV v=true) (hrun:retIs v (O f args H0)=true) (H:Mem) (hH:holds H 0 blks0=true) :
  WC 6 Tryd.prog f args H fun r=>r=.ret v H:=by
 refine WC.local (H0:=H0) hO hrun hv hargs (by show 6≤8; omega) (fun a=>?_) (fun a x hx=>?_) fun a x hx=>?_
 ·cases hx:H0.get a with
  | none=>rfl
  | some x =>
   have h1:=H0_inv hx
   have h2:(blks0.all fun x=>startB 8 (some x))=true:=by kernel_rfl
   exact List.all_eq_true.1 h2 x (List.mem_of_getElem? h1)
 ·have:=holds_spec hH a x (H0_inv hx)
  rwa [Nat.zero_add] at this
 ·exact (List.getElem?_eq_some_iff.1 (H0_inv hx)).1
theorem holds_of {H:Mem} (h:∀ i b,blks0[i]?=some b→H.get i=some b) : holds H 0 blks0=true:=by
 have e:(blks0.all fun b=>eqBlk b b)=true:=by kernel_rfl
 have key:∀ (l:List Blk) (i:Nat),(∀ k b,l[k]?=some b→H.get (i+k)=some b)→(l.all fun b=>eqBlk b b)=true→holds H i l=true:=by
  intro l
  induction l with
  | nil=>intro i _ _; rfl
  | cons b l ih =>
   intro i h1 h2
   simp only [List.all_cons,Bool.and_eq_true] at h2
   have h3:=h1 0 b rfl
   rw [Nat.add_zero] at h3
   unfold holds
   rw [h3]
   dsimp only
   rw [h2.1]
   exact ih (i+1) (fun k c hk=>by rw [show i+1+k=i+(k+1) by omega]; exact h1 (k+1) c (by simpa using hk)) h2.2
 exact key blks0 0 (fun k b hk=>by rw [Nat.zero_add]; exact h k b hk) e
end Go.Ai
end
section
namespace Go.Proofs.YtfllomlghjolpaaDoor
open Go Go.Ai Go.ChangeShapes Go.WideShapes Go.ChangeAt Go.RowKit
theorem own:ownKnob Tryd.prog.godebug=none:=by kernel_rfl
theorem laidOut:laidOutB Tryd.prog=true:=by kernel_rfl
theorem door_met (os:Os) (args:Array Value) : laidMetH Tryd.prog Rows.formulasKnownRow.laid ((World.doorLaid Tryd.prog 200 os).forCall (fun _ _=>0) ⟨#[],args,[]⟩).memory :=
 laidMetH_of_parts3 (fuel:=8) (laidMet_of_run' 8 (by kernel_rfl) (by kernel_rfl)) (by kernel_rfl) (by kernel_rfl)
theorem kinds:(Rows.formulasKnownRow.laid.all fun x=>x.2.handleName?.isNone || x.2.funcsIn?.isSome)=true:=by kernel_rfl
end Go.Proofs.YtfllomlghjolpaaDoor
end
section
namespace Go.Ai
open Go.Proofs
set_option maxRecDepth 10000
set_option maxHeartbeats 40000000
end Go.Ai
end
section
namespace Go.Ai
open Go.Proofs
set_option maxRecDepth 10000
set_option maxHeartbeats 40000000
theorem ops_subs (op:Nat) (h:op < 15) : loadB (some (false,1)) (some opsB) (op * 4)=some (.lit (.int .i64 (subsM op:Nat))):=by
 have:op=0∨op=1∨op=2∨op=3∨op=4∨op=5∨op=6∨op=7∨op=8∨op=9∨op=10∨op=11∨op=12∨op=13∨op=14:=by omega
 rcases this with rfl | rfl | rfl | rfl | rfl | rfl | rfl | rfl | rfl | rfl | rfl | rfl | rfl | rfl | rfl <;> rfl
theorem valid_yes (st inp out:Int) : ∀ (m:Nat),m≤1000000→∀ (x:NodeM),sizeN x≤m→validM st inp out x=true→∀ (g:Nat→Option Blk) (n:Nat) (cs:List AV),g 0=some opsB→0 < n→repN g n x cs →
    WC 6 Tryd.prog 56 [.agg cs,.lit (.int .i64 st),.lit (.int .i64 inp),.lit (.int .i64 out)] ⟨.fn g,n⟩ fun r=>r=.ret (.lit (.bool true)) ⟨.fn g,n⟩:=by
  intro m
  induction m with
  | zero=>intro _ x hx; cases x; unfold sizeN at hx; omega
  | succ m ihm =>
    intro hm x hx hv g n cs hops hn0 hr
    have IH:=Hide.mk ihm
    clear ihm
    refine WC.drop1 rfl ?_
    cases x with
    | mk op a b subs =>
      obtain ⟨hop,sv,rfl,hsv⟩:=hr
      simp only [validM,Bool.and_eq_true,decide_eq_true_eq] at hv
      obtain ⟨v1,v2,v3,v4,v5,v6,v7⟩:=hv
      have hld:=ops_subs op v1
      obtain ⟨sv',hq⟩ : ∃ sv',Hide (sv'=sv):=⟨_,⟨rfl⟩⟩
      have hsz:sizeL subs≤m:=by unfold sizeN at hx; omega
      have hlen:subs.length≤1000000:=Nat.le_trans (len_size subs) (by omega)
      have V7:=Hide.mk v7
      have v1I:¬(15:Int)≤(op:Int):=by omega
      have v1J:(op:Int) < 15:=by omega
      have v3I:¬a < 0:=by omega
      have v4I:¬b < 0:=by omega
      have hdec:(op=1∧a < st∧b < 1)∨(op=2∧a < inp∧b < 1)∨(op=3∧a < inp∧b < out)∨(¬(op:Int)=1∧¬(op:Int)=2∧¬(op:Int)=3∧a < 1∧b < 1):=by
        by_cases h1:op=1
        · subst h1; exact .inl ⟨rfl,by simpa using v5,by simpa using v6⟩
        by_cases h2:op=2
        · subst h2; exact .inr (.inl ⟨rfl,by simpa using v5,by simpa using v6⟩)
        by_cases h3:op=3
        · subst h3; exact .inr (.inr (.inl ⟨rfl,by simpa using v5,by simpa using v6⟩))
        · rw [if_neg h1,if_neg (by omega)] at v5
          rw [if_neg h3] at v6
          exact .inr (.inr (.inr ⟨by omega,by omega,by omega,v5,v6⟩))
      clear v5 v6 v7
      rw [← v2] at hld
      clear v2
      rcases hsv with ⟨hsub,rfl | rfl⟩ | ⟨ad,off,r,han,⟨c,rfl⟩ | ⟨c,rfl⟩,hrow,hrep⟩
      all_goals rcases hdec with ⟨rfl,d1,d2⟩ | ⟨rfl,d1,d2⟩ | ⟨rfl,d1,d2⟩ | ⟨d3,d4,d5,d1,d2⟩
      all_goals have d1I:=Int.not_le.2 d1
      all_goals have d2I:=Int.not_le.2 d2
      all_goals refine WC.enterP (noO_ok _ _) hG pl56 Tryd.func56 rfl (by decide +kernel) (Nat.le_of_ble_eq_true (by kernel_rfl)) ?_
      all_goals try simp (maxSteps:=999999) (disch:=first | assumption | omega | (simp; done) | fail) [Tryd.results56, *]
      all_goals
        refine LX.ind (fun m gf H'=>∃ (k n' : Nat) (g' : Nat→Option Blk),k≤subs.length∧m=subs.length - k∧H'=⟨.fn g',n'⟩∧n < n'∧(∀ b,b < n→g' b=g b) ∧
          gf 1=some (.lit (.int .i64 st))∧gf 2=some (.lit (.int .i64 inp))∧gf 3=some (.lit (.int .i64 out))∧gf 61=some sv'∧gf 62=some (.lit (.int .i64 subs.length))∧gf 63=some (.lit (.int .i64 k))∧validL st inp out (subs.drop k)=true) (m0:=subs.length) ?_ ?_
        · exact ⟨0,n+1,_,Nat.zero_le _,rfl,rfl,by omega,fun b hb=>gput_lt hb,by simp,by simp,by simp,by simp [hq.out],by simp [*],by simp,V7.out⟩
        rintro m' gf H' ⟨k,n',g',hk,rfl,rfl,hn',hg',w1,w2,w3,w61,w62,w63,hc⟩ ih
        refine LX.roundP (noO_ok _ _) hG pl56 (by decide +kernel) ?_
        rw [hq.out] at w61
        have HG:=Hide.mk hg'
        have HC:=Hide.mk hc
        clear hg' hc
        by_cases hlt:k < subs.length
        · first
          | (exfalso; rw [hsub] at hlt; simp at hlt; done)
          | (have hy0:=repL_at hrep k hlt
             have hrl:=repL_len hrep
             have hrow':=(hrow.mono (HG.out ad han)).agg (k:=k * 4) (s:=4) (by omega)
             have hdrop:subs.drop k=subs[k] :: subs.drop (k+1):=List.drop_eq_getElem_cons hlt
             have hszy:sizeN subs[k]≤m:=Nat.le_trans (size_mem (List.getElem_mem hlt)) hsz
             have hvk:=HC.out
             rw [hdrop,validL,Bool.and_eq_true] at hvk
             generalize subs[k]=y at hy0 hdrop hszy hvk
             obtain ⟨hvy,hvr⟩:=hvk
             obtain ⟨k2,k3,sv2,hcy,h1c,hop2⟩:=repN_one hy0
             rw [hcy] at hrow' hy0
             have h1a:allOne [.lit (.int .u8 y.op),.lit (.int .i64 k2),.lit (.int .i64 k3),sv2]=true:=by simp [h1c]
             have HY:=Hide.mk hy0
             have HD:=Hide.mk hdrop
             have HR:=Hide.mk hrep
             have HR2:=Hide.mk hrow
             have HVY:=Hide.mk hvy
             have HVR:=Hide.mk hvr
             have hlt' : (k:Int) < (subs.length:Int):=by omega
             clear hy0 hdrop hrep hrow hcy hrl hvy hvr
             try simp (maxSteps:=999999) (disch:=first | assumption | omega | (simp; done) | fail) [Tryd.results56, *]
             refine WC.mono (IH.out (by omega) y hszy HVY.out _ _ _ (by rw [gput_lt (by omega)]; exact (HG.out 0 hn0).trans hops) (by omega) (repN_mono (b':=n'+1) (by omega) (fun a ha=>(gput_lt (by omega)).trans (HG.out a ha)) HY.out)) ?_
             rintro _ rfl
             try simp (maxSteps:=999999) (disch:=first | assumption | omega | (simp; done) | fail) [Tryd.results56, *]
             exact ih.out (subs.length - (k+1)) _ _ (by omega) ⟨k+1,n'+1,_,hlt,rfl,rfl,by omega,fun b hb=>(gput_lt (by omega)).trans (HG.out b hb),by simp [*],by simp [*],by simp [*],by simp [*,hq.out],by simp [*],by simp [*],HVR.out⟩)
        · have hkn:k=subs.length:=by omega
          subst hkn
          first | clear hsub | clear hrep hrow
          try simp (maxSteps:=999999) (disch:=first | assumption | omega | (simp; done) | fail) [Tryd.results56, *]
          all_goals first
            | (exfalso; omega)
            | exact ⟨_,⟨rfl,rfl⟩,⟨Nat.le_of_lt hn',fun b hb=>HG.out b hb⟩⟩
            | exact ⟨Nat.le_of_lt hn',fun b hb=>HG.out b hb⟩
end Go.Ai
end
section
namespace Go.Ai
open Go.Proofs
set_option maxRecDepth 10000
set_option maxHeartbeats 40000000
theorem has_w (m s:Nat) (hm:m < 18446744073709551616) (hs:s≤63) (H:Mem) : WC 6 Tryd.prog 32 [.lit (.int .u64 m),.lit (.int .i64 s)] H fun r=>r=.ret (.lit (.bool (m.testBit s))) H:=by
 refine WC.ofFn ?_
 refine WC.enterP (noO_ok _ _) hG [] Tryd.func32 rfl (by decide +kernel) (Nat.le_of_ble_eq_true (by kernel_rfl)) ?_
 have hb:=lowN_bit m s
 have hb64:(s:Int).toNat≤IntKind.u64.bits:=by rw [bits_u64]; omega
 iterate 6 all_goals try first | with_reducible refine splitI (fun h=>?_) fun h=>?_ | with_reducible refine splitBI (fun h=>?_) fun h=>?_ | simp (maxSteps:=999999) (disch:=first | assumption | omega | (simp; done) | fail) [Tryd.results32, *]
 all_goals (rw [← hb]; simp; omega)
theorem ahead_w {M:MachM} {nx:List Nat} {all:Nat} (t:Nat) (ht:t < 18446744073709551616) (hn64:nx.length≤64) (hnx:∀ x∈nx,x < 18446744073709551616) (g:Nat→Option Blk) (n:Nat) (cs:List AV) (hr:RepG g n M nx all cs) :
  WC 6 Tryd.prog 77 [.agg cs,.lit (.int .u64 t)] ⟨.fn g,n⟩ fun r=>r=.ret (.lit (.int .u64 ((aheadN nx t nx.length:Nat) : Int))) ⟨.fn g,n⟩:=by
 refine WC.drop1 rfl ?_
 obtain ⟨rv,nv,rfl,hM,hV⟩:=hr
 obtain ⟨rv',e1,h1r⟩:=hM.one
 cases e1
 have h1v:=hV.one
 have h1a:allOne [.lit (.int .i64 M.inp),.lit (.int .i64 M.out),rv,nv,.lit (.int .u64 (all:Int))]=true:=by simp [h1r,h1v]
 have hlen:=@lenV Tryd.prog _ _ _ _ _ hV
 have HV:=Hide.mk hV
 have HX:=Hide.mk hnx
 clear hV hM hnx
 refine WC.enterP (noO_ok _ _) hG [] Tryd.func77 rfl (by decide +kernel) (Nat.le_of_ble_eq_true (by kernel_rfl)) ?_
 iterate 6 all_goals try first | with_reducible refine splitI (fun h=>?_) fun h=>?_ | with_reducible refine splitBI (fun h=>?_) fun h=>?_ | simp (maxSteps:=999999) (disch:=first | assumption | omega | (simp; done) | fail) [Tryd.results77, *]
 refine LX.ind (fun m gf H'=>∃ (k:Nat),k≤nx.length∧m=nx.length - k∧H'=⟨.fn (gput g n (some (.cells [.lit (.int .i64 M.inp),.lit (.int .i64 M.out),rv,nv,.lit (.int .u64 (all:Int))] true 0))),n+1⟩ ∧
  gf 1=some (.lit (.int .u64 (t:Int)))∧gf 4=some (.lit (.int .u64 ((aheadN nx t k:Nat) : Int)))∧gf 8=some nv∧gf 9=some (.lit (.int .i64 nx.length))∧gf 10=some (.lit (.int .i64 k))) (m0:=nx.length) ?_ ?_
 ·exact ⟨0,by omega,rfl,rfl,by simp,by simp [aheadN],by simp,by simp,by simp⟩
 rintro m gf H' ⟨k,hk,rfl,rfl,w1,w4,w8,w9,w10⟩ ih
 refine LX.roundP (noO_ok _ _) hG [] (by decide +kernel) ?_
 have hal:=aheadN_lt nx t k (by omega)
 by_cases hlt:k < nx.length
 ·have hltI:(k:Int) < (nx.length:Int):=by omega
  have hk63:k≤63:=by omega
  have hbk:=bitN_lt hk63
  rcases HV.out with ⟨h1,_⟩ | ⟨a2,off,ha2,hev,hrow⟩
  ·omega
  have hcell:=((hrow.mono (g':=gput g n (some (.cells [.lit (.int .i64 M.inp),.lit (.int .i64 M.out),rv,nv,.lit (.int .u64 (all:Int))] true 0))) (gput_lt ha2)).one (k:=k) (s:=1) (by rw [u64C_len]; exact hlt))
  rw [u64C_at,gput_lt ha2] at hcell
  have hxl:nx.getD k 0 < 18446744073709551616:=by
   rw [List.getD_eq_getElem?_getD,List.getElem?_eq_getElem hlt]
   exact HX.out _ (List.getElem_mem hlt)
  have HST:Hide (aheadN nx t (k+1)=if andN (nx.getD k 0) t=0 then aheadN nx t k else orN (aheadN nx t k) (bitN k)):=⟨rfl⟩
  generalize nx.getD k 0=x at *
  rcases hev with ⟨c2,rfl⟩ | ⟨c2,rfl⟩ <;> by_cases hz:andN x t=0
  all_goals
   iterate 6 all_goals try first | with_reducible refine splitI (fun h=>?_) fun h=>?_ | with_reducible refine splitBI (fun h=>?_) fun h=>?_ | simp (maxSteps:=999999) (disch:=first | assumption | omega | (simp; done) | fail) [Tryd.results77, *]
   refine ih.out (nx.length - (k+1)) _ _ (by omega) ⟨k+1,by omega,rfl,rfl,by simp [*],?_,by simp [*],by simp [*],by simp⟩
   rw [HST.out]
   simp [*]
 ·have hltI:¬(k:Int) < (nx.length:Int):=by omega
  have hk2:k=nx.length:=by omega
  iterate 6 all_goals try first | with_reducible refine splitI (fun h=>?_) fun h=>?_ | with_reducible refine splitBI (fun h=>?_) fun h=>?_ | simp (maxSteps:=999999) (disch:=first | assumption | omega | (simp; done) | fail) [Tryd.results77, *]
  exact ⟨Nat.le_succ n,fun b hb=>gput_lt hb⟩
structure GOK (g:Nat→Option Blk) (n:Nat) (M:MachM) (nx:List Nat) (all:Nat) (cs:List AV) : Prop where
 rep:RepG g n M nx all cs
 grn:GrN M.gr nx all
theorem GOK.mono {g g' : Nat→Option Blk} {n n' : Nat} {M:MachM} {nx:List Nat} {all:Nat} {cs:List AV} (h:GOK g n M nx all cs) (hn:n≤n') (hg:∀ a,a < n→g' a=g a) : GOK g' n' M nx all cs:=⟨h.rep.mono hn hg,h.grn⟩
theorem GOK.one {g:Nat→Option Blk} {n:Nat} {M:MachM} {nx:List Nat} {all:Nat} {cs:List AV} (h:GOK g n M nx all cs) : ∃ rv nv,cs=[.lit (.int .i64 M.inp),.lit (.int .i64 M.out),rv,nv,.lit (.int .u64 (all:Int))]∧oneC rv=true∧oneC nv=true:=by
 obtain ⟨⟨rv,nv,rfl,hM,hV⟩,_⟩:=h
 obtain ⟨rv',e1,h1r⟩:=hM.one
 cases e1
 exact ⟨rv,nv,rfl,h1r,hV.one⟩
theorem aheadG_w {M:MachM} {nx:List Nat} {all:Nat} (t:Nat) (ht:t < 18446744073709551616) (g:Nat→Option Blk) (n:Nat) (cs:List AV) (hr:GOK g n M nx all cs) :
  WC 6 Tryd.prog 77 [.agg cs,.lit (.int .u64 t)] ⟨.fn g,n⟩ fun r=>r=.ret (.lit (.int .u64 ((aheadN nx t M.gr.n:Nat) : Int))) ⟨.fn g,n⟩:=by
 rw [← hr.grn.len]
 exact ahead_w t ht (by rw [hr.grn.len]; exact hr.grn.n64) hr.grn.lt g n cs hr.rep
theorem ends_w {M:MachM} {nx:List Nat} {all:Nat} (g:Nat→Option Blk) (n:Nat) (cs:List AV) (hr:GOK g n M nx all cs) :
  WC 6 Tryd.prog 67 [.agg cs] ⟨.fn g,n⟩ fun r=>r=.ret (.lit (.int .u64 ((endsN nx all M.gr.n:Nat) : Int))) ⟨.fn g,n⟩:=by
 refine WC.drop1 rfl ?_
 obtain ⟨rv,nv,rfl,h1r,h1v⟩:=hr.one
 have h1a:allOne [.lit (.int .i64 M.inp),.lit (.int .i64 M.out),rv,nv,.lit (.int .u64 (all:Int))]=true:=by simp [h1r,h1v]
 have HR:=Hide.mk hr
 have hall:=hr.grn.alt
 have hal:=aheadN_lt nx all M.gr.n hr.grn.n64
 clear hr
 refine WC.enterP (noO_ok _ _) hG pl67 Tryd.func67 rfl (by decide +kernel) (Nat.le_of_ble_eq_true (by kernel_rfl)) ?_
 iterate 6 all_goals try first | with_reducible refine splitI (fun h=>?_) fun h=>?_ | with_reducible refine splitBI (fun h=>?_) fun h=>?_ | simp (maxSteps:=999999) (disch:=first | assumption | omega | (simp; done) | fail) [Tryd.results67, *]
 refine WC.mono (aheadG_w all hall _ _ _ (HR.out.mono (by omega) fun a ha=>gput_lt ha)) ?_
 rintro _ rfl
 iterate 6 all_goals try first | with_reducible refine splitI (fun h=>?_) fun h=>?_ | with_reducible refine splitBI (fun h=>?_) fun h=>?_ | simp (maxSteps:=999999) (disch:=first | assumption | omega | (simp; done) | fail) [Tryd.results67, *]
 exact ⟨_,⟨rfl,rfl⟩,Nat.le_succ n,fun b hb=>gput_lt hb⟩
theorem until_w {M:MachM} {nx:List Nat} {all:Nat} (a b:Nat) (ha:a < 18446744073709551616) (hb:b < 18446744073709551616) (g:Nat→Option Blk) (n:Nat) (cs:List AV) (hr:GOK g n M nx all cs) :
  WC 6 Tryd.prog 134 [.agg cs,.lit (.int .u64 a),.lit (.int .u64 b)] ⟨.fn g,n⟩ fun r=>∃ x:Nat,r=.ret (.lit (.int .u64 (x:Int))) ⟨.fn g,n⟩∧x < 18446744073709551616∧IsL M.gr.n (M.gr.fE (sOf a) (sOf b)) (sOf x):=by
 refine WC.mono (WC.drop (K:=fun v=>∃ x:Nat,v=.lit (.int .u64 (x:Int))∧x < 18446744073709551616∧IsL M.gr.n (M.gr.fE (sOf a) (sOf b)) (sOf x)) ?_) ?_
 rotate_left
 ·rintro r ⟨v,rfl,x,rfl,h⟩
  exact ⟨x,rfl,h⟩
 obtain ⟨rv,nv,rfl,h1r,h1v⟩:=hr.one
 have h1a:allOne [.lit (.int .i64 M.inp),.lit (.int .i64 M.out),rv,nv,.lit (.int .u64 (all:Int))]=true:=by simp [h1r,h1v]
 have HR:=Hide.mk hr
 have HN:=Hide.mk hr.grn
 clear hr
 refine WC.enterP (noO_ok _ _) hG [] Tryd.func134 rfl (by decide +kernel) (Nat.le_of_ble_eq_true (by kernel_rfl)) ?_
 iterate 6 all_goals try first | with_reducible refine splitI (fun h=>?_) fun h=>?_ | with_reducible refine splitBI (fun h=>?_) fun h=>?_ | simp (maxSteps:=999999) (disch:=first | assumption | omega | (simp; done) | fail) [Tryd.results134, *]
 refine LX.ind (fun m gf H'=>∃ (k:Nat),k < 18446744073709551616∧m=18446744073709551616 - k∧H'=⟨.fn (gput g n (some (.cells [.lit (.int .i64 M.inp),.lit (.int .i64 M.out),rv,nv,.lit (.int .u64 (all:Int))] true 0))),n+1⟩ ∧
  UInv M.gr a b k∧gf 1=some (.lit (.int .u64 (a:Int)))∧gf 2=some (.lit (.int .u64 (k:Int)))∧gf 3=some (.ptr n 0)) (m0:=18446744073709551616 - b) ?_ ?_
 ·exact ⟨b,hb,rfl,rfl,.start,by simp,by simp,by simp⟩
 rintro m gf H' ⟨k,hk,rfl,rfl,hu,w1,w2,w3⟩ ih
 have HU:=Hide.mk hu
 clear hu
 refine LX.roundP (noO_ok _ _) hG [] (by decide +kernel) ?_
 iterate 6 all_goals try first | with_reducible refine splitI (fun h=>?_) fun h=>?_ | with_reducible refine splitBI (fun h=>?_) fun h=>?_ | simp (maxSteps:=999999) (disch:=first | assumption | omega | (simp; done) | fail) [Tryd.results134, *]
 refine WC.mono (aheadG_w k hk _ _ _ (HR.out.mono (by omega) fun a ha=>gput_lt ha)) ?_
 rintro _ rfl
 have hal:=aheadN_lt nx k M.gr.n HN.out.n64
 have hST:=HU.out.step HN.out
 have hFI:=HU.out.fin HN.out
 generalize aheadN nx k M.gr.n=q at *
 have hx1:andN a q < 18446744073709551616:=andN_lt ha
 have hx2:orN k (andN a q) < 18446744073709551616:=orN_lt hk hx1
 have hge:=or_ge k (andN a q)
 have HST:=Hide.mk hST
 have HFI:=Hide.mk hFI
 clear hST hFI
 by_cases he:orN k (andN a q)=k
 ·iterate 6 all_goals try first | with_reducible refine splitI (fun h=>?_) fun h=>?_ | with_reducible refine splitBI (fun h=>?_) fun h=>?_ | simp (maxSteps:=999999) (disch:=first | assumption | omega | (simp; done) | fail) [Tryd.results134, *]
  refine ⟨_,_,⟨rfl,rfl⟩,rfl,⟨Nat.le_succ n,fun b hb=>gput_lt hb⟩,?_⟩
  exact ⟨k,rfl,hk,HFI.out he⟩
 ·have hlt:k < orN k (andN a q):=by omega
  have heI:¬((orN k (andN a q) : Nat) : Int)=(k:Int):=by omega
  iterate 6 all_goals try first | with_reducible refine splitI (fun h=>?_) fun h=>?_ | with_reducible refine splitBI (fun h=>?_) fun h=>?_ | simp (maxSteps:=999999) (disch:=first | assumption | omega | (simp; done) | fail) [Tryd.results134, *]
  refine ih.out (18446744073709551616 - orN k (andN a q)) _ _ (by omega) ⟨orN k (andN a q),hx2,rfl,rfl,HST.out,by simp [*],by simp,by simp [*]⟩
theorem always_w {M:MachM} {nx:List Nat} {all:Nat} (a:Nat) (ha:a < 18446744073709551616) (g:Nat→Option Blk) (n:Nat) (cs:List AV) (hr:GOK g n M nx all cs) :
  WC 6 Tryd.prog 136 [.agg cs,.lit (.int .u64 a)] ⟨.fn g,n⟩ fun r=>∃ x:Nat,r=.ret (.lit (.int .u64 (x:Int))) ⟨.fn g,n⟩∧x < 18446744073709551616∧IsL M.gr.n (M.gr.fA allS (notS (sOf a))) (notS (sOf x)):=by
 refine WC.mono (WC.drop (K:=fun v=>∃ x:Nat,v=.lit (.int .u64 (x:Int))∧x < 18446744073709551616∧IsL M.gr.n (M.gr.fA allS (notS (sOf a))) (notS (sOf x))) ?_) ?_
 rotate_left
 ·rintro r ⟨v,rfl,x,rfl,h⟩
  exact ⟨x,rfl,h⟩
 obtain ⟨rv,nv,rfl,h1r,h1v⟩:=hr.one
 have h1a:allOne [.lit (.int .i64 M.inp),.lit (.int .i64 M.out),rv,nv,.lit (.int .u64 (all:Int))]=true:=by simp [h1r,h1v]
 have HR:=Hide.mk hr
 have HN:=Hide.mk hr.grn
 have hen:=hr.grn.ends_lt
 clear hr
 refine WC.enterP (noO_ok _ _) hG pl136 Tryd.func136 rfl (by decide +kernel) (Nat.le_of_ble_eq_true (by kernel_rfl)) ?_
 iterate 6 all_goals try first | with_reducible refine splitI (fun h=>?_) fun h=>?_ | with_reducible refine splitBI (fun h=>?_) fun h=>?_ | simp (maxSteps:=999999) (disch:=first | assumption | omega | (simp; done) | fail) [Tryd.results136, *]
 refine LX.ind (fun m gf H'=>∃ (k:Nat),k < 18446744073709551616∧m=k∧H'=⟨.fn (gput g n (some (.cells [.lit (.int .i64 M.inp),.lit (.int .i64 M.out),rv,nv,.lit (.int .u64 (all:Int))] true 0))),n+1⟩ ∧
  AInv M.gr a k∧gf 1=some (.lit (.int .u64 (k:Int)))∧gf 2=some (.ptr n 0)) (m0:=a) ?_ ?_
 ·exact ⟨a,ha,rfl,rfl,.start,by simp,by simp⟩
 rintro m gf H' ⟨k,hk,rfl,rfl,hu,w1,w2⟩ ih
 have HU:=Hide.mk hu
 clear hu
 refine LX.roundP (noO_ok _ _) hG pl136 (by decide +kernel) ?_
 iterate 6 all_goals try first | with_reducible refine splitI (fun h=>?_) fun h=>?_ | with_reducible refine splitBI (fun h=>?_) fun h=>?_ | simp (maxSteps:=999999) (disch:=first | assumption | omega | (simp; done) | fail) [Tryd.results136, *]
 refine WC.mono (aheadG_w m hk _ _ _ (HR.out.mono (by omega) fun a ha=>gput_lt ha)) ?_
 rintro _ rfl
 iterate 6 all_goals try first | with_reducible refine splitI (fun h=>?_) fun h=>?_ | with_reducible refine splitBI (fun h=>?_) fun h=>?_ | simp (maxSteps:=999999) (disch:=first | assumption | omega | (simp; done) | fail) [Tryd.results136, *]
 refine WC.mono (ends_w _ _ _ (HR.out.mono (by omega) fun a ha=>gput_lt ha)) ?_
 rintro _ rfl
 have hal:=aheadN_lt nx m M.gr.n HN.out.n64
 have hST:=HU.out.step HN.out
 have hFI:=HU.out.fin HN.out
 generalize aheadN nx m M.gr.n=q at *
 generalize endsN nx all M.gr.n=e at *
 have hx1:orN q e < 18446744073709551616:=orN_lt hal hen
 have hx2:andN m (orN q e) < 18446744073709551616:=andN_lt hk
 have hge:=and_le m (orN q e)
 have HST:=Hide.mk hST
 have HFI:=Hide.mk hFI
 clear hST hFI
 by_cases he:andN m (orN q e)=m
 ·iterate 6 all_goals try first | with_reducible refine splitI (fun h=>?_) fun h=>?_ | with_reducible refine splitBI (fun h=>?_) fun h=>?_ | simp (maxSteps:=999999) (disch:=first | assumption | omega | (simp; done) | fail) [Tryd.results136, *]
  refine ⟨_,_,⟨rfl,rfl⟩,rfl,⟨Nat.le_succ n,fun b hb=>gput_lt hb⟩,?_⟩
  exact ⟨m,rfl,hk,HFI.out he⟩
 ·have hlt:andN m (orN q e) < m:=by omega
  have heI:¬((andN m (orN q e) : Nat) : Int)=(m:Int):=by omega
  iterate 6 all_goals try first | with_reducible refine splitI (fun h=>?_) fun h=>?_ | with_reducible refine splitBI (fun h=>?_) fun h=>?_ | simp (maxSteps:=999999) (disch:=first | assumption | omega | (simp; done) | fail) [Tryd.results136, *]
  refine ih.out (andN m (orN q e)) _ _ (by omega) ⟨andN m (orN q e),hx2,rfl,rfl,HST.out,by simp [*],by simp [*]⟩
end Go.Ai
end
section
namespace Go.Ai
open Go.Proofs
set_option maxRecDepth 10000
set_option maxHeartbeats 40000000
def edgesN (P:Nat→Bool) : Nat→Nat
 | 0=>0
 | k+1=>if P k=true then orN (edgesN P k) (bitN k) else edgesN P k
theorem edgesN_lt (P:Nat→Bool) : ∀ k,k≤64→edgesN P k < 18446744073709551616
 | 0,_=>by unfold edgesN; omega
 | k+1,h=>by
  have:=edgesN_lt P k (by omega)
  unfold edgesN
  split
  ·exact orN_lt this (bitN_lt (by omega))
  ·exact this
theorem edgesN_bit (P:Nat→Bool) (s:Nat) : ∀ k,(edgesN P k).testBit s=(decide (s < k) && P s)
 | 0=>by unfold edgesN; simp
 | k+1=>by
  have ih:=edgesN_bit P s k
  unfold edgesN
  split
  ·rename_i h
   rw [orN_bit,ih,bitN_bit]
   by_cases hs:s=k
   ·subst hs; rw [h]; simp
   ·rw [decide_eq_false (show ¬k=s by omega),show decide (s < k+1)=decide (s < k) by rw [decide_eq_decide]; omega]; simp
  ·rename_i h
   rw [ih]
   by_cases hs:s=k
   ·subst hs; rw [show P s=false by simpa using h]; simp
   ·rw [show decide (s < k+1)=decide (s < k) by rw [decide_eq_decide]; omega]
theorem edgesN_eq (P:Nat→Bool) (n:Nat) : eqS n (sOf (edgesN P n)) P:=fun s hs=>by
 show (edgesN P n).testBit s=_
 rw [edgesN_bit,decide_eq_true hs]; rfl
theorem op126 (a b:Int) (H:Mem) : WC 6 Tryd.prog 126 [.agg [.lit (.int .i64 a),.lit (.int .i64 b)]] H fun r=>r=.ret (.lit (.bool true)) H:=by
 refine WC.drop1 rfl (WC.mono (WC.ofFn (v:=.lit (.bool true)) ?_) fun r h=>⟨H,h,Nat.le_refl _,fun _ _=>rfl⟩)
 refine WC.drop1 rfl ?_
 refine WC.enterP (noO_ok _ _) hG [] Tryd.func126 rfl (by decide +kernel) (Nat.le_of_ble_eq_true (by kernel_rfl)) ?_
 have h1a:allOne [.lit (.int .i64 a),.lit (.int .i64 b)]=true:=by simp
 iterate 6 all_goals try first | with_reducible refine splitI (fun h=>?_) fun h=>?_ | with_reducible refine splitBI (fun h=>?_) fun h=>?_ | simp (maxSteps:=999999) (disch:=first | assumption | omega | (simp; done) | fail) [Tryd.results126, *]
 all_goals exact ⟨Nat.le_succ _,fun q hq=>gput_lt hq⟩
theorem edges_can {M:MachM} {nx:List Nat} {all:Nat} (hMr:∀ r∈M.rows,(r.length:Int)=M.inp) (i:Nat) (hi:(i:Int) < M.inp) (g:Nat→Option Blk) (n:Nat) (cs:List AV) (hr:GOK g n M nx all cs) :
  WC 6 Tryd.prog 125 [.agg cs,.lit (.func (.func 126) #[] #[]),.lit (.int .i64 i)] ⟨.fn g,n⟩ fun r=>r=.ret (.lit (.int .u64 ((edgesN (fun s=>!decide ((M.edge s i).1 = -1)) M.gr.n:Nat) : Int))) ⟨.fn g,n⟩:=by
 refine WC.drop1 rfl ?_
 obtain ⟨rv,nv,rfl,h1r,h1v⟩:=hr.one
 have h1a:allOne [.lit (.int .i64 M.inp),.lit (.int .i64 M.out),rv,nv,.lit (.int .u64 (all:Int))]=true:=by simp [h1r,h1v]
 have h64:=hr.grn.n64
 obtain ⟨⟨rv',nv',e1,⟨rv2,svs,e2,hrows,hrv⟩,_⟩,_⟩:=hr
 cases e1
 cases e2
 have hlen:=@lenV Tryd.prog _ _ _ _ _ hrv
 have hsl:=hrows.len
 have hgn:M.gr.n=M.rows.length:=rfl
 have HROW:=Hide.mk hrows
 have HRV:=Hide.mk hrv
 have HMR:=Hide.mk hMr
 generalize hP:(fun s=>!decide ((M.edge s i).1 = -1))=P
 rw [hgn] at h64 ⊢
 clear hrows hrv hMr hgn
 refine WC.enterP (noO_ok _ _) hG [] Tryd.func125 rfl (by decide +kernel) (Nat.le_of_ble_eq_true (by kernel_rfl)) ?_
 iterate 6 all_goals try first | with_reducible refine splitI (fun h=>?_) fun h=>?_ | with_reducible refine splitBI (fun h=>?_) fun h=>?_ | simp (maxSteps:=999999) (disch:=first | assumption | omega | (simp; done) | fail) [Tryd.results125, *]
 refine LX.ind (fun m gf H'=>∃ (k:Nat),k≤M.rows.length∧m=M.rows.length - k∧H'=⟨.fn (gput g n (some (.cells [.lit (.int .i64 M.inp),.lit (.int .i64 M.out),rv,nv,.lit (.int .u64 (all:Int))] true 0))),n+1⟩ ∧
  gf 1=some (.lit (.func (.func 126) #[] #[]))∧gf 2=some (.lit (.int .i64 i))∧gf 6=some (.lit (.int .u64 ((edgesN P k:Nat) : Int)))∧gf 11=some rv∧gf 12=some (.lit (.int .i64 M.rows.length))∧gf 13=some (.lit (.int .i64 k))) (m0:=M.rows.length) ?_ ?_
 ·exact ⟨0,by omega,rfl,rfl,by simp,by simp,by simp [edgesN],by simp,by simp,by simp⟩
 rintro m gf H' ⟨k,hk,rfl,rfl,w1,w2,w6,w11,w12,w13⟩ ih
 refine LX.roundP (noO_ok _ _) hG [] (by decide +kernel) ?_
 have hal:=edgesN_lt P k (by omega)
 by_cases hlt:k < M.rows.length
 ·have hltI:(k:Int) < (M.rows.length:Int):=by omega
  have hk63:k≤63:=by omega
  have hbk:=bitN_lt hk63
  have hR:=HROW.out.at k hlt (by omega)
  rcases HRV.out with ⟨h1,_⟩ | ⟨a2,off,ha2,hev,hrow⟩
  ·omega
  have hcell:=(hrow.mono (g':=gput g n (some (.cells [.lit (.int .i64 M.inp),.lit (.int .i64 M.out),rv,nv,.lit (.int .u64 (all:Int))] true 0))) (gput_lt ha2)).one (k:=k) (s:=1) (by omega)
  rw [gput_lt ha2] at hcell
  have hPk:P k=(!decide ((M.edge k i).1 = -1)):=by rw [← hP]
  have hil:=HMR.out _ (List.getElem_mem hlt)
  have hrk:=List.getElem?_eq_getElem hlt
  generalize svs[k]'(by omega)=sv at hR hcell
  have hilt:i < M.rows[k].length:=by omega
  generalize M.rows[k]=row at hR hil hrk hilt
  have hiltI:(i:Int) < (row.length:Int):=by omega
  rcases hR with ⟨h1,_⟩ | ⟨a3,off3,ha3,hev3,hrow3⟩
  ·omega
  have hrow3':=hrow3.mono (g':=gput g n (some (.cells [.lit (.int .i64 M.inp),.lit (.int .i64 M.out),rv,nv,.lit (.int .u64 (all:Int))] true 0))) (gput_lt ha3)
  have hto:=hrow3'.one (k:=i * 2) (s:=1) (by rw [rowC_len]; omega)
  have hagg:=hrow3'.agg (k:=i * 2) (s:=2) (by rw [rowC_len]; omega)
  have hc1:=(rowC_one row i hilt).1
  rw [List.getElem?_eq_getElem (by rw [rowC_len]; omega)] at hc1
  rw [Option.some.inj hc1,gput_lt ha3] at hto
  rw [rowC_at row i hilt,gput_lt ha3] at hagg
  have hed:=edge_at hrk (List.getElem?_eq_getElem hilt)
  generalize row[i]=e at hto hagg hed
  obtain ⟨to,out⟩:=e
  rw [hed] at hPk
  dsimp only at hto hagg hPk
  have HST:Hide (edgesN P (k+1)=if P k=true then orN (edgesN P k) (bitN k) else edgesN P k):=⟨rfl⟩
  have HPK:=Hide.mk hPk
  clear hPk hed hrk hc1 hrow3 hrow3' hrow hP hil
  by_cases ht:to = -1
  ·have hPf:P k=false:=by rw [HPK.out]; simp [ht]
   rw [if_neg (by rw [hPf]; decide)] at HST
   rcases hev with ⟨c2,rfl⟩ | ⟨c2,rfl⟩ <;> rcases hev3 with ⟨c3,rfl⟩ | ⟨c3,rfl⟩
   all_goals
    iterate 6 all_goals try first | with_reducible refine splitI (fun h=>?_) fun h=>?_ | with_reducible refine splitBI (fun h=>?_) fun h=>?_ | simp (maxSteps:=999999) (disch:=first | assumption | omega | (simp; done) | fail) [Tryd.results125, *]
    refine ih.out (M.rows.length - (k+1)) _ _ (by omega) ⟨k+1,by omega,rfl,rfl,by simp [*],by simp [*],?_,by simp [*],by simp [*],by simp⟩
    rw [HST.out]
    simp [*]
  ·have hPt:P k=true:=by rw [HPK.out]; simp [ht]
   rw [if_pos hPt] at HST
   rcases hev with ⟨c2,rfl⟩ | ⟨c2,rfl⟩ <;> rcases hev3 with ⟨c3,rfl⟩ | ⟨c3,rfl⟩
   all_goals
    iterate 6 all_goals try first | with_reducible refine splitI (fun h=>?_) fun h=>?_ | with_reducible refine splitBI (fun h=>?_) fun h=>?_ | simp (maxSteps:=999999) (disch:=first | assumption | omega | (simp; done) | fail) [Tryd.results125, *]
    refine WC.mono (op126 _ _ _) ?_
    rintro _ rfl
    iterate 6 all_goals try first | with_reducible refine splitI (fun h=>?_) fun h=>?_ | with_reducible refine splitBI (fun h=>?_) fun h=>?_ | simp (maxSteps:=999999) (disch:=first | assumption | omega | (simp; done) | fail) [Tryd.results125, *]
    refine ih.out (M.rows.length - (k+1)) _ _ (by omega) ⟨k+1,by omega,rfl,rfl,by simp [*],by simp [*],?_,by simp [*],by simp [*],by simp⟩
    rw [HST.out]
    simp [*]
 ·have hltI:¬(k:Int) < (M.rows.length:Int):=by omega
  have hk2:k=M.rows.length:=by omega
  iterate 6 all_goals try first | with_reducible refine splitI (fun h=>?_) fun h=>?_ | with_reducible refine splitBI (fun h=>?_) fun h=>?_ | simp (maxSteps:=999999) (disch:=first | assumption | omega | (simp; done) | fail) [Tryd.results125, *]
  exact ⟨Nat.le_succ n,fun b hb=>gput_lt hb⟩
theorem op128 (to out:Int) (p:Nat) (g:Nat→Option Blk) (n:Nat) (op:Nat) (a b:Int) (sv:AV) (hp:g p=some (.cells [.lit (.int .u8 op),.lit (.int .i64 a),.lit (.int .i64 b),sv] true 0)) (hpn:p < n) : WC 6 Tryd.prog 128 [.agg [.lit (.int .i64 to),.lit (.int .i64 out)],.ptr p 0] ⟨.fn g,n⟩ fun r=>r=.ret (.lit (.bool (decide (out=b)))) ⟨.fn g,n⟩:=by
 refine WC.drop1 rfl ?_
 have h1a:allOne [.lit (.int .i64 to),.lit (.int .i64 out)]=true:=by simp
 refine WC.enterP (noO_ok _ _) hG [] Tryd.func128 rfl (by decide +kernel) (Nat.le_of_ble_eq_true (by kernel_rfl)) ?_
 iterate 6 all_goals try first | with_reducible refine splitI (fun h=>?_) fun h=>?_ | with_reducible refine splitBI (fun h=>?_) fun h=>?_ | simp (maxSteps:=999999) (disch:=first | assumption | omega | (simp; done) | fail) [Tryd.results128, *]
 all_goals exact ⟨Nat.le_succ _,fun q hq=>gput_lt hq⟩
theorem edges_gives {M:MachM} {nx:List Nat} {all:Nat} (hMr:∀ r∈M.rows,(r.length:Int)=M.inp) (i:Nat) (hi:(i:Int) < M.inp) (p op:Nat) (a b:Int) (sv:AV) (g:Nat→Option Blk) (n:Nat) (cs:List AV) (hr:GOK g n M nx all cs) (hp:g p=some (.cells [.lit (.int .u8 op),.lit (.int .i64 a),.lit (.int .i64 b),sv] true 0)) (hpn:p < n) :
  WC 6 Tryd.prog 125 [.agg cs,.func (.func 128) [] [.ptr p 0],.lit (.int .i64 i)] ⟨.fn g,n⟩ fun r=>r=.ret (.lit (.int .u64 ((edgesN (fun s=>!decide ((M.edge s i).1 = -1) && decide ((M.edge s i).2=b)) M.gr.n:Nat) : Int))) ⟨.fn g,n⟩:=by
 refine WC.drop1 rfl ?_
 obtain ⟨rv,nv,rfl,h1r,h1v⟩:=hr.one
 have h1a:allOne [.lit (.int .i64 M.inp),.lit (.int .i64 M.out),rv,nv,.lit (.int .u64 (all:Int))]=true:=by simp [h1r,h1v]
 have h64:=hr.grn.n64
 obtain ⟨⟨rv',nv',e1,⟨rv2,svs,e2,hrows,hrv⟩,_⟩,_⟩:=hr
 cases e1
 cases e2
 have hlen:=@lenV Tryd.prog _ _ _ _ _ hrv
 have hsl:=hrows.len
 have hgn:M.gr.n=M.rows.length:=rfl
 have HROW:=Hide.mk hrows
 have HRV:=Hide.mk hrv
 have HMR:=Hide.mk hMr
 generalize hP:(fun s=>!decide ((M.edge s i).1 = -1) && decide ((M.edge s i).2=b))=P
 rw [hgn] at h64 ⊢
 clear hrows hrv hMr hgn
 refine WC.enterP (noO_ok _ _) hG [] Tryd.func125 rfl (by decide +kernel) (Nat.le_of_ble_eq_true (by kernel_rfl)) ?_
 iterate 6 all_goals try first | with_reducible refine splitI (fun h=>?_) fun h=>?_ | with_reducible refine splitBI (fun h=>?_) fun h=>?_ | simp (maxSteps:=999999) (disch:=first | assumption | omega | (simp; done) | fail) [Tryd.results125, *]
 refine LX.ind (fun m gf H'=>∃ (k:Nat),k≤M.rows.length∧m=M.rows.length - k∧H'=⟨.fn (gput g n (some (.cells [.lit (.int .i64 M.inp),.lit (.int .i64 M.out),rv,nv,.lit (.int .u64 (all:Int))] true 0))),n+1⟩ ∧
  gf 1=some (.func (.func 128) [] [.ptr p 0])∧gf 2=some (.lit (.int .i64 i))∧gf 6=some (.lit (.int .u64 ((edgesN P k:Nat) : Int)))∧gf 11=some rv∧gf 12=some (.lit (.int .i64 M.rows.length))∧gf 13=some (.lit (.int .i64 k))) (m0:=M.rows.length) ?_ ?_
 ·exact ⟨0,by omega,rfl,rfl,by simp,by simp,by simp [edgesN],by simp,by simp,by simp⟩
 rintro m gf H' ⟨k,hk,rfl,rfl,w1,w2,w6,w11,w12,w13⟩ ih
 refine LX.roundP (noO_ok _ _) hG [] (by decide +kernel) ?_
 have hal:=edgesN_lt P k (by omega)
 by_cases hlt:k < M.rows.length
 ·have hltI:(k:Int) < (M.rows.length:Int):=by omega
  have hk63:k≤63:=by omega
  have hbk:=bitN_lt hk63
  have hR:=HROW.out.at k hlt (by omega)
  rcases HRV.out with ⟨h1,_⟩ | ⟨a2,off,ha2,hev,hrow⟩
  ·omega
  have hcell:=(hrow.mono (g':=gput g n (some (.cells [.lit (.int .i64 M.inp),.lit (.int .i64 M.out),rv,nv,.lit (.int .u64 (all:Int))] true 0))) (gput_lt ha2)).one (k:=k) (s:=1) (by omega)
  rw [gput_lt ha2] at hcell
  have hPk:P k=(!decide ((M.edge k i).1 = -1) && decide ((M.edge k i).2=b)):=by rw [← hP]
  have hil:=HMR.out _ (List.getElem_mem hlt)
  have hrk:=List.getElem?_eq_getElem hlt
  generalize svs[k]'(by omega)=sv at hR hcell
  have hilt:i < M.rows[k].length:=by omega
  generalize M.rows[k]=row at hR hil hrk hilt
  have hiltI:(i:Int) < (row.length:Int):=by omega
  rcases hR with ⟨h1,_⟩ | ⟨a3,off3,ha3,hev3,hrow3⟩
  ·omega
  have hrow3':=hrow3.mono (g':=gput g n (some (.cells [.lit (.int .i64 M.inp),.lit (.int .i64 M.out),rv,nv,.lit (.int .u64 (all:Int))] true 0))) (gput_lt ha3)
  have hto:=hrow3'.one (k:=i * 2) (s:=1) (by rw [rowC_len]; omega)
  have hagg:=hrow3'.agg (k:=i * 2) (s:=2) (by rw [rowC_len]; omega)
  have hc1:=(rowC_one row i hilt).1
  rw [List.getElem?_eq_getElem (by rw [rowC_len]; omega)] at hc1
  rw [Option.some.inj hc1,gput_lt ha3] at hto
  rw [rowC_at row i hilt,gput_lt ha3] at hagg
  have hed:=edge_at hrk (List.getElem?_eq_getElem hilt)
  generalize row[i]=e at hto hagg hed
  obtain ⟨to,out⟩:=e
  rw [hed] at hPk
  dsimp only at hto hagg hPk
  have HST:Hide (edgesN P (k+1)=if P k=true then orN (edgesN P k) (bitN k) else edgesN P k):=⟨rfl⟩
  have HPK:=Hide.mk hPk
  clear hPk hed hrk hc1 hrow3 hrow3' hrow hP hil
  by_cases ht:to = -1
  ·have hPf:P k=false:=by rw [HPK.out]; simp [ht]
   rw [if_neg (by rw [hPf]; decide)] at HST
   rcases hev with ⟨c2,rfl⟩ | ⟨c2,rfl⟩ <;> rcases hev3 with ⟨c3,rfl⟩ | ⟨c3,rfl⟩
   all_goals
    iterate 6 all_goals try first | with_reducible refine splitI (fun h=>?_) fun h=>?_ | with_reducible refine splitBI (fun h=>?_) fun h=>?_ | simp (maxSteps:=999999) (disch:=first | assumption | omega | (simp; done) | fail) [Tryd.results125, *]
    refine ih.out (M.rows.length - (k+1)) _ _ (by omega) ⟨k+1,by omega,rfl,rfl,by simp [*],by simp [*],?_,by simp [*],by simp [*],by simp⟩
    rw [HST.out]
    simp [*]
  by_cases hob:out=b
  ·have hPt:P k=true:=by rw [HPK.out]; simp [ht,hob]
   rw [if_pos hPt] at HST
   rcases hev with ⟨c2,rfl⟩ | ⟨c2,rfl⟩ <;> rcases hev3 with ⟨c3,rfl⟩ | ⟨c3,rfl⟩
   all_goals
    iterate 6 all_goals try first | with_reducible refine splitI (fun h=>?_) fun h=>?_ | with_reducible refine splitBI (fun h=>?_) fun h=>?_ | simp (maxSteps:=999999) (disch:=first | assumption | omega | (simp; done) | fail) [Tryd.results125, *]
    refine WC.mono (op128 _ _ _ _ _ _ _ _ _ ((gput_lt hpn).trans hp) (by omega)) ?_
    rintro _ rfl
    iterate 6 all_goals try first | with_reducible refine splitI (fun h=>?_) fun h=>?_ | with_reducible refine splitBI (fun h=>?_) fun h=>?_ | simp (maxSteps:=999999) (disch:=first | assumption | omega | (simp; done) | fail) [Tryd.results125, *]
    refine ih.out (M.rows.length - (k+1)) _ _ (by omega) ⟨k+1,by omega,rfl,rfl,by simp [*],by simp [*],?_,by simp [*],by simp [*],by simp⟩
    rw [HST.out]
    simp [*]
  ·have hPt:P k=false:=by rw [HPK.out]; simp [hob]
   rw [if_neg (by rw [hPt]; decide)] at HST
   rcases hev with ⟨c2,rfl⟩ | ⟨c2,rfl⟩ <;> rcases hev3 with ⟨c3,rfl⟩ | ⟨c3,rfl⟩
   all_goals
    iterate 6 all_goals try first | with_reducible refine splitI (fun h=>?_) fun h=>?_ | with_reducible refine splitBI (fun h=>?_) fun h=>?_ | simp (maxSteps:=999999) (disch:=first | assumption | omega | (simp; done) | fail) [Tryd.results125, *]
    refine WC.mono (op128 _ _ _ _ _ _ _ _ _ ((gput_lt hpn).trans hp) (by omega)) ?_
    rintro _ rfl
    iterate 6 all_goals try first | with_reducible refine splitI (fun h=>?_) fun h=>?_ | with_reducible refine splitBI (fun h=>?_) fun h=>?_ | simp (maxSteps:=999999) (disch:=first | assumption | omega | (simp; done) | fail) [Tryd.results125, *]
    refine ih.out (M.rows.length - (k+1)) _ _ (by omega) ⟨k+1,by omega,rfl,rfl,by simp [*],by simp [*],?_,by simp [*],by simp [*],by simp⟩
    rw [HST.out]
    simp [*]
 ·have hltI:¬(k:Int) < (M.rows.length:Int):=by omega
  have hk2:k=M.rows.length:=by omega
  iterate 6 all_goals try first | with_reducible refine splitI (fun h=>?_) fun h=>?_ | with_reducible refine splitBI (fun h=>?_) fun h=>?_ | simp (maxSteps:=999999) (disch:=first | assumption | omega | (simp; done) | fail) [Tryd.results125, *]
  exact ⟨Nat.le_succ n,fun b hb=>gput_lt hb⟩
end Go.Ai
end
section
namespace Go.Ai
open Go.Proofs
set_option maxRecDepth 10000
set_option maxHeartbeats 40000000
variable {M:MachM} {nx:List Nat} {all:Nat}
theorem fE_cong {G:GraphM} (hG:G.ok) {a b a' b' L L' : SetS} (h:IsL G.n (G.fE a b) L) (ha:eqS G.n a a') (hb:eqS G.n b b') (hL:eqS G.n L L') : IsL G.n (G.fE a' b') L':=h.cong (fE_arg ha hb) (fun _ _=>fE_eq hG _ _) hL
theorem fA_cong {G:GraphM} (hG:G.ok) {a b a' b' L L' : SetS} (h:IsL G.n (G.fA a b) L) (ha:eqS G.n a a') (hb:eqS G.n b b') (hL:eqS G.n L L') : IsL G.n (G.fA a' b') L':=h.cong (fA_arg ha hb) (fun _ _=>fA_eq hG _ _) hL
theorem GrN.ndnd {G:GraphM} (h:GrN G nx all) {t:Nat} (ht:t < 18446744073709551616) : eqS G.n (notS (sOf (ndN all t))) (sOf t):=fun s hs=>by
 unfold notS
 rw [h.nd ht s hs]
 unfold notS
 simp
theorem sOf_or (a b:Nat) : sOf (orN a b)=fun s=>sOf a s || sOf b s:=by funext s; exact orN_bit a b s
theorem sOf_and (a b:Nat) : sOf (andN a b)=fun s=>sOf a s && sOf b s:=by funext s; exact andN_bit a b s
theorem sem0_w (op:Nat) (a b:Int) (sv:AV) (ta tb:Nat) (hta:ta < 18446744073709551616) (htb:tb < 18446744073709551616) (h1s:oneC sv=true) (g:Nat→Option Blk) (n:Nat) (cs:List AV) (hr:GOK g n M nx all cs) :
  WC 6 Tryd.prog 122 [.agg cs,.agg [.lit (.int .u8 op),.lit (.int .i64 a),.lit (.int .i64 b),sv],.lit (.int .u64 ta),.lit (.int .u64 tb)] ⟨.fn g,n⟩ fun r=>∃ z:Nat,r=.ret (.lit (.int .u64 (z:Int))) ⟨.fn g,n⟩∧z < 18446744073709551616∧opSem M 0 a b (sOf ta) (sOf tb) (sOf z):=by
 refine WC.mono (WC.drop (K:=fun v=>∃ z:Nat,v=.lit (.int .u64 (z:Int))∧z < 18446744073709551616∧opSem M 0 a b (sOf ta) (sOf tb) (sOf z)) ?_) ?_
 rotate_left
 ·rintro r ⟨v,rfl,z,rfl,h⟩
  exact ⟨z,rfl,h⟩
 obtain ⟨rv,nv,rfl,h1r,h1v⟩:=hr.one
 have h1a:allOne [.lit (.int .i64 M.inp),.lit (.int .i64 M.out),rv,nv,.lit (.int .u64 (all:Int))]=true:=by simp [h1r,h1v]
 have h1x:allOne [.lit (.int .u8 op),.lit (.int .i64 a),.lit (.int .i64 b),sv]=true:=by simp [h1s]
 have HR:=Hide.mk hr
 have HN:=Hide.mk hr.grn
 have HG:=Hide.mk hr.grn.ok
 have halt:=hr.grn.alt
 have hal:=fun t:Nat=>aheadN_lt nx t M.gr.n hr.grn.n64
 have HAL:=Hide.mk hal
 clear hr hal
 have hnd1:=ndN_lt (b:=ta) halt
 have hnd2:=ndN_lt (b:=tb) halt
 have hor:=orN_lt hta htb
 have hno:=ndN_lt (b:=orN ta tb) halt
 refine WC.enterP (noO_ok _ _) hG [] Tryd.func122 rfl (by decide +kernel) (Nat.le_of_ble_eq_true (by kernel_rfl)) ?_
 try simp (maxSteps:=999999) (disch:=first | assumption | omega | (simp; done) | fail) [Tryd.results122, *]
 refine ⟨_,_,⟨rfl,rfl⟩,rfl,⟨?_,fun q hq=>?_⟩,_,rfl,?_,?_⟩
 ·show n≤n+1+1
  omega
 ·show gput _ _ _ _=_
  have hq' : q < n:=hq
  rw [gput_lt (by omega),gput_lt (by omega)]
  rfl
 ·first | assumption | simp [*]
 ·exact HN.out.all_eq
theorem sem1_w (i:Nat) (hi:i < M.gr.n) (op:Nat) (b:Int) (sv:AV) (ta tb:Nat) (hta:ta < 18446744073709551616) (htb:tb < 18446744073709551616) (h1s:oneC sv=true) (g:Nat→Option Blk) (n:Nat) (cs:List AV) (hr:GOK g n M nx all cs) :
  WC 6 Tryd.prog 123 [.agg cs,.agg [.lit (.int .u8 op),.lit (.int .i64 i),.lit (.int .i64 b),sv],.lit (.int .u64 ta),.lit (.int .u64 tb)] ⟨.fn g,n⟩ fun r=>∃ z:Nat,r=.ret (.lit (.int .u64 (z:Int))) ⟨.fn g,n⟩∧z < 18446744073709551616∧opSem M 1 i b (sOf ta) (sOf tb) (sOf z):=by
 refine WC.mono (WC.drop (K:=fun v=>∃ z:Nat,v=.lit (.int .u64 (z:Int))∧z < 18446744073709551616∧opSem M 1 i b (sOf ta) (sOf tb) (sOf z)) ?_) ?_
 rotate_left
 ·rintro r ⟨v,rfl,z,rfl,h⟩
  exact ⟨z,rfl,h⟩
 obtain ⟨rv,nv,rfl,h1r,h1v⟩:=hr.one
 have h1a:allOne [.lit (.int .i64 M.inp),.lit (.int .i64 M.out),rv,nv,.lit (.int .u64 (all:Int))]=true:=by simp [h1r,h1v]
 have h1x:allOne [.lit (.int .u8 op),.lit (.int .i64 i),.lit (.int .i64 b),sv]=true:=by simp [h1s]
 have HR:=Hide.mk hr
 have HN:=Hide.mk hr.grn
 have HG:=Hide.mk hr.grn.ok
 have halt:=hr.grn.alt
 have hal:=fun t:Nat=>aheadN_lt nx t M.gr.n hr.grn.n64
 have HAL:=Hide.mk hal
 clear hr hal
 have hnd1:=ndN_lt (b:=ta) halt
 have hnd2:=ndN_lt (b:=tb) halt
 have hor:=orN_lt hta htb
 have hno:=ndN_lt (b:=orN ta tb) halt
 have hi63:i≤63:=by have:=HN.out.n64; omega
 have hbi:=bitN_lt hi63
 refine WC.enterP (noO_ok _ _) hG [] Tryd.func123 rfl (by decide +kernel) (Nat.le_of_ble_eq_true (by kernel_rfl)) ?_
 try simp (maxSteps:=999999) (disch:=first | assumption | omega | (simp; done) | fail) [Tryd.results123, *]
 refine ⟨_,_,⟨rfl,rfl⟩,rfl,⟨?_,fun q hq=>?_⟩,_,rfl,?_,?_⟩
 ·show n≤n+1+1
  omega
 ·show gput _ _ _ _=_
  have hq' : q < n:=hq
  rw [gput_lt (by omega),gput_lt (by omega)]
  rfl
 ·first | assumption | simp [*]
 ·exact fun s hs=>by show (bitN i).testBit s=decide (((s:Nat) : Int)=(i:Int)); rw [bitN_bit,decide_eq_decide]; omega
theorem sem4_w (op:Nat) (a b:Int) (sv:AV) (ta tb:Nat) (hta:ta < 18446744073709551616) (htb:tb < 18446744073709551616) (h1s:oneC sv=true) (g:Nat→Option Blk) (n:Nat) (cs:List AV) (hr:GOK g n M nx all cs) :
  WC 6 Tryd.prog 129 [.agg cs,.agg [.lit (.int .u8 op),.lit (.int .i64 a),.lit (.int .i64 b),sv],.lit (.int .u64 ta),.lit (.int .u64 tb)] ⟨.fn g,n⟩ fun r=>∃ z:Nat,r=.ret (.lit (.int .u64 (z:Int))) ⟨.fn g,n⟩∧z < 18446744073709551616∧opSem M 4 a b (sOf ta) (sOf tb) (sOf z):=by
 refine WC.mono (WC.drop (K:=fun v=>∃ z:Nat,v=.lit (.int .u64 (z:Int))∧z < 18446744073709551616∧opSem M 4 a b (sOf ta) (sOf tb) (sOf z)) ?_) ?_
 rotate_left
 ·rintro r ⟨v,rfl,z,rfl,h⟩
  exact ⟨z,rfl,h⟩
 obtain ⟨rv,nv,rfl,h1r,h1v⟩:=hr.one
 have h1a:allOne [.lit (.int .i64 M.inp),.lit (.int .i64 M.out),rv,nv,.lit (.int .u64 (all:Int))]=true:=by simp [h1r,h1v]
 have h1x:allOne [.lit (.int .u8 op),.lit (.int .i64 a),.lit (.int .i64 b),sv]=true:=by simp [h1s]
 have HR:=Hide.mk hr
 have HN:=Hide.mk hr.grn
 have HG:=Hide.mk hr.grn.ok
 have halt:=hr.grn.alt
 have hal:=fun t:Nat=>aheadN_lt nx t M.gr.n hr.grn.n64
 have HAL:=Hide.mk hal
 clear hr hal
 have hnd1:=ndN_lt (b:=ta) halt
 have hnd2:=ndN_lt (b:=tb) halt
 have hor:=orN_lt hta htb
 have hno:=ndN_lt (b:=orN ta tb) halt
 refine WC.enterP (noO_ok _ _) hG [] Tryd.func129 rfl (by decide +kernel) (Nat.le_of_ble_eq_true (by kernel_rfl)) ?_
 try simp (maxSteps:=999999) (disch:=first | assumption | omega | (simp; done) | fail) [Tryd.results129, *]
 refine ⟨_,_,⟨rfl,rfl⟩,rfl,⟨?_,fun q hq=>?_⟩,_,rfl,?_,?_⟩
 ·show n≤n+1+1
  omega
 ·show gput _ _ _ _=_
  have hq' : q < n:=hq
  rw [gput_lt (by omega),gput_lt (by omega)]
  rfl
 ·first | assumption | simp [*]
 ·exact HN.out.nd hta
theorem sem5_w (op:Nat) (a b:Int) (sv:AV) (ta tb:Nat) (hta:ta < 18446744073709551616) (htb:tb < 18446744073709551616) (h1s:oneC sv=true) (g:Nat→Option Blk) (n:Nat) (cs:List AV) (hr:GOK g n M nx all cs) :
  WC 6 Tryd.prog 130 [.agg cs,.agg [.lit (.int .u8 op),.lit (.int .i64 a),.lit (.int .i64 b),sv],.lit (.int .u64 ta),.lit (.int .u64 tb)] ⟨.fn g,n⟩ fun r=>∃ z:Nat,r=.ret (.lit (.int .u64 (z:Int))) ⟨.fn g,n⟩∧z < 18446744073709551616∧opSem M 5 a b (sOf ta) (sOf tb) (sOf z):=by
 refine WC.mono (WC.drop (K:=fun v=>∃ z:Nat,v=.lit (.int .u64 (z:Int))∧z < 18446744073709551616∧opSem M 5 a b (sOf ta) (sOf tb) (sOf z)) ?_) ?_
 rotate_left
 ·rintro r ⟨v,rfl,z,rfl,h⟩
  exact ⟨z,rfl,h⟩
 obtain ⟨rv,nv,rfl,h1r,h1v⟩:=hr.one
 have h1a:allOne [.lit (.int .i64 M.inp),.lit (.int .i64 M.out),rv,nv,.lit (.int .u64 (all:Int))]=true:=by simp [h1r,h1v]
 have h1x:allOne [.lit (.int .u8 op),.lit (.int .i64 a),.lit (.int .i64 b),sv]=true:=by simp [h1s]
 have HR:=Hide.mk hr
 have HN:=Hide.mk hr.grn
 have HG:=Hide.mk hr.grn.ok
 have halt:=hr.grn.alt
 have hal:=fun t:Nat=>aheadN_lt nx t M.gr.n hr.grn.n64
 have HAL:=Hide.mk hal
 clear hr hal
 have hnd1:=ndN_lt (b:=ta) halt
 have hnd2:=ndN_lt (b:=tb) halt
 have hor:=orN_lt hta htb
 have hno:=ndN_lt (b:=orN ta tb) halt
 refine WC.enterP (noO_ok _ _) hG [] Tryd.func130 rfl (by decide +kernel) (Nat.le_of_ble_eq_true (by kernel_rfl)) ?_
 try simp (maxSteps:=999999) (disch:=first | assumption | omega | (simp; done) | fail) [Tryd.results130, *]
 refine ⟨_,_,⟨rfl,rfl⟩,rfl,⟨?_,fun q hq=>?_⟩,_,rfl,?_,?_⟩
 ·show n≤n+1+1
  omega
 ·show gput _ _ _ _=_
  have hq' : q < n:=hq
  rw [gput_lt (by omega),gput_lt (by omega)]
  rfl
 ·first | assumption | simp [*]
 ·rw [sOf_and]; exact eqS.refl _ _
theorem sem6_w (op:Nat) (a b:Int) (sv:AV) (ta tb:Nat) (hta:ta < 18446744073709551616) (htb:tb < 18446744073709551616) (h1s:oneC sv=true) (g:Nat→Option Blk) (n:Nat) (cs:List AV) (hr:GOK g n M nx all cs) :
  WC 6 Tryd.prog 131 [.agg cs,.agg [.lit (.int .u8 op),.lit (.int .i64 a),.lit (.int .i64 b),sv],.lit (.int .u64 ta),.lit (.int .u64 tb)] ⟨.fn g,n⟩ fun r=>∃ z:Nat,r=.ret (.lit (.int .u64 (z:Int))) ⟨.fn g,n⟩∧z < 18446744073709551616∧opSem M 6 a b (sOf ta) (sOf tb) (sOf z):=by
 refine WC.mono (WC.drop (K:=fun v=>∃ z:Nat,v=.lit (.int .u64 (z:Int))∧z < 18446744073709551616∧opSem M 6 a b (sOf ta) (sOf tb) (sOf z)) ?_) ?_
 rotate_left
 ·rintro r ⟨v,rfl,z,rfl,h⟩
  exact ⟨z,rfl,h⟩
 obtain ⟨rv,nv,rfl,h1r,h1v⟩:=hr.one
 have h1a:allOne [.lit (.int .i64 M.inp),.lit (.int .i64 M.out),rv,nv,.lit (.int .u64 (all:Int))]=true:=by simp [h1r,h1v]
 have h1x:allOne [.lit (.int .u8 op),.lit (.int .i64 a),.lit (.int .i64 b),sv]=true:=by simp [h1s]
 have HR:=Hide.mk hr
 have HN:=Hide.mk hr.grn
 have HG:=Hide.mk hr.grn.ok
 have halt:=hr.grn.alt
 have hal:=fun t:Nat=>aheadN_lt nx t M.gr.n hr.grn.n64
 have HAL:=Hide.mk hal
 clear hr hal
 have hnd1:=ndN_lt (b:=ta) halt
 have hnd2:=ndN_lt (b:=tb) halt
 have hor:=orN_lt hta htb
 have hno:=ndN_lt (b:=orN ta tb) halt
 refine WC.enterP (noO_ok _ _) hG [] Tryd.func131 rfl (by decide +kernel) (Nat.le_of_ble_eq_true (by kernel_rfl)) ?_
 try simp (maxSteps:=999999) (disch:=first | assumption | omega | (simp; done) | fail) [Tryd.results131, *]
 refine ⟨_,_,⟨rfl,rfl⟩,rfl,⟨?_,fun q hq=>?_⟩,_,rfl,?_,?_⟩
 ·show n≤n+1+1
  omega
 ·show gput _ _ _ _=_
  have hq' : q < n:=hq
  rw [gput_lt (by omega),gput_lt (by omega)]
  rfl
 ·first | assumption | simp [*]
 ·rw [sOf_or]; exact eqS.refl _ _
theorem sem7_w (op:Nat) (a b:Int) (sv:AV) (ta tb:Nat) (hta:ta < 18446744073709551616) (htb:tb < 18446744073709551616) (h1s:oneC sv=true) (g:Nat→Option Blk) (n:Nat) (cs:List AV) (hr:GOK g n M nx all cs) :
  WC 6 Tryd.prog 132 [.agg cs,.agg [.lit (.int .u8 op),.lit (.int .i64 a),.lit (.int .i64 b),sv],.lit (.int .u64 ta),.lit (.int .u64 tb)] ⟨.fn g,n⟩ fun r=>∃ z:Nat,r=.ret (.lit (.int .u64 (z:Int))) ⟨.fn g,n⟩∧z < 18446744073709551616∧opSem M 7 a b (sOf ta) (sOf tb) (sOf z):=by
 refine WC.mono (WC.drop (K:=fun v=>∃ z:Nat,v=.lit (.int .u64 (z:Int))∧z < 18446744073709551616∧opSem M 7 a b (sOf ta) (sOf tb) (sOf z)) ?_) ?_
 rotate_left
 ·rintro r ⟨v,rfl,z,rfl,h⟩
  exact ⟨z,rfl,h⟩
 obtain ⟨rv,nv,rfl,h1r,h1v⟩:=hr.one
 have h1a:allOne [.lit (.int .i64 M.inp),.lit (.int .i64 M.out),rv,nv,.lit (.int .u64 (all:Int))]=true:=by simp [h1r,h1v]
 have h1x:allOne [.lit (.int .u8 op),.lit (.int .i64 a),.lit (.int .i64 b),sv]=true:=by simp [h1s]
 have HR:=Hide.mk hr
 have HN:=Hide.mk hr.grn
 have HG:=Hide.mk hr.grn.ok
 have halt:=hr.grn.alt
 have hal:=fun t:Nat=>aheadN_lt nx t M.gr.n hr.grn.n64
 have HAL:=Hide.mk hal
 clear hr hal
 have hnd1:=ndN_lt (b:=ta) halt
 have hnd2:=ndN_lt (b:=tb) halt
 have hor:=orN_lt hta htb
 have hno:=ndN_lt (b:=orN ta tb) halt
 refine WC.enterP (noO_ok _ _) hG [] Tryd.func132 rfl (by decide +kernel) (Nat.le_of_ble_eq_true (by kernel_rfl)) ?_
 try simp (maxSteps:=999999) (disch:=first | assumption | omega | (simp; done) | fail) [Tryd.results132, *]
 refine WC.mono (aheadG_w ta hta _ _ _ (HR.out.mono (by omega) fun q hq=>(by simp (disch:=omega) only [gput_lt]))) ?_
 rintro _ rfl
 try simp (maxSteps:=999999) (disch:=first | assumption | omega | (simp; done) | fail) [Tryd.results132, *]
 have hq:=HAL.out ta
 refine ⟨_,_,⟨rfl,rfl⟩,rfl,⟨?_,fun q hq=>?_⟩,_,rfl,?_,?_⟩
 ·show n≤n+1+1
  omega
 ·show gput _ _ _ _=_
  have hq' : q < n:=hq
  rw [gput_lt (by omega),gput_lt (by omega)]
  rfl
 ·first | assumption | simp [*]
 ·exact HN.out.ahead ta
theorem sem8_w (op:Nat) (a b:Int) (sv:AV) (ta tb:Nat) (hta:ta < 18446744073709551616) (htb:tb < 18446744073709551616) (h1s:oneC sv=true) (g:Nat→Option Blk) (n:Nat) (cs:List AV) (hr:GOK g n M nx all cs) :
  WC 6 Tryd.prog 133 [.agg cs,.agg [.lit (.int .u8 op),.lit (.int .i64 a),.lit (.int .i64 b),sv],.lit (.int .u64 ta),.lit (.int .u64 tb)] ⟨.fn g,n⟩ fun r=>∃ z:Nat,r=.ret (.lit (.int .u64 (z:Int))) ⟨.fn g,n⟩∧z < 18446744073709551616∧opSem M 8 a b (sOf ta) (sOf tb) (sOf z):=by
 refine WC.mono (WC.drop (K:=fun v=>∃ z:Nat,v=.lit (.int .u64 (z:Int))∧z < 18446744073709551616∧opSem M 8 a b (sOf ta) (sOf tb) (sOf z)) ?_) ?_
 rotate_left
 ·rintro r ⟨v,rfl,z,rfl,h⟩
  exact ⟨z,rfl,h⟩
 obtain ⟨rv,nv,rfl,h1r,h1v⟩:=hr.one
 have h1a:allOne [.lit (.int .i64 M.inp),.lit (.int .i64 M.out),rv,nv,.lit (.int .u64 (all:Int))]=true:=by simp [h1r,h1v]
 have h1x:allOne [.lit (.int .u8 op),.lit (.int .i64 a),.lit (.int .i64 b),sv]=true:=by simp [h1s]
 have HR:=Hide.mk hr
 have HN:=Hide.mk hr.grn
 have HG:=Hide.mk hr.grn.ok
 have halt:=hr.grn.alt
 have hal:=fun t:Nat=>aheadN_lt nx t M.gr.n hr.grn.n64
 have HAL:=Hide.mk hal
 clear hr hal
 have hnd1:=ndN_lt (b:=ta) halt
 have hnd2:=ndN_lt (b:=tb) halt
 have hor:=orN_lt hta htb
 have hno:=ndN_lt (b:=orN ta tb) halt
 refine WC.enterP (noO_ok _ _) hG [] Tryd.func133 rfl (by decide +kernel) (Nat.le_of_ble_eq_true (by kernel_rfl)) ?_
 try simp (maxSteps:=999999) (disch:=first | assumption | omega | (simp; done) | fail) [Tryd.results133, *]
 refine WC.mono (until_w all ta halt hta _ _ _ (HR.out.mono (by omega) fun q hq=>(by simp (disch:=omega) only [gput_lt]))) ?_
 rintro _ ⟨q,rfl,hq,HL⟩
 try simp (maxSteps:=999999) (disch:=first | assumption | omega | (simp; done) | fail) [Tryd.results133, *]
 refine ⟨_,_,⟨rfl,rfl⟩,rfl,⟨?_,fun q hq=>?_⟩,_,rfl,?_,?_⟩
 ·show n≤n+1+1
  omega
 ·show gput _ _ _ _=_
  have hq' : q < n:=hq
  rw [gput_lt (by omega),gput_lt (by omega)]
  rfl
 ·first | assumption | simp [*]
 ·exact fE_cong HG.out HL HN.out.all_eq (eqS.refl _ _) (eqS.refl _ _)
theorem sem9_w (op:Nat) (a b:Int) (sv:AV) (ta tb:Nat) (hta:ta < 18446744073709551616) (htb:tb < 18446744073709551616) (h1s:oneC sv=true) (g:Nat→Option Blk) (n:Nat) (cs:List AV) (hr:GOK g n M nx all cs) :
  WC 6 Tryd.prog 135 [.agg cs,.agg [.lit (.int .u8 op),.lit (.int .i64 a),.lit (.int .i64 b),sv],.lit (.int .u64 ta),.lit (.int .u64 tb)] ⟨.fn g,n⟩ fun r=>∃ z:Nat,r=.ret (.lit (.int .u64 (z:Int))) ⟨.fn g,n⟩∧z < 18446744073709551616∧opSem M 9 a b (sOf ta) (sOf tb) (sOf z):=by
 refine WC.mono (WC.drop (K:=fun v=>∃ z:Nat,v=.lit (.int .u64 (z:Int))∧z < 18446744073709551616∧opSem M 9 a b (sOf ta) (sOf tb) (sOf z)) ?_) ?_
 rotate_left
 ·rintro r ⟨v,rfl,z,rfl,h⟩
  exact ⟨z,rfl,h⟩
 obtain ⟨rv,nv,rfl,h1r,h1v⟩:=hr.one
 have h1a:allOne [.lit (.int .i64 M.inp),.lit (.int .i64 M.out),rv,nv,.lit (.int .u64 (all:Int))]=true:=by simp [h1r,h1v]
 have h1x:allOne [.lit (.int .u8 op),.lit (.int .i64 a),.lit (.int .i64 b),sv]=true:=by simp [h1s]
 have HR:=Hide.mk hr
 have HN:=Hide.mk hr.grn
 have HG:=Hide.mk hr.grn.ok
 have halt:=hr.grn.alt
 have hal:=fun t:Nat=>aheadN_lt nx t M.gr.n hr.grn.n64
 have HAL:=Hide.mk hal
 clear hr hal
 have hnd1:=ndN_lt (b:=ta) halt
 have hnd2:=ndN_lt (b:=tb) halt
 have hor:=orN_lt hta htb
 have hno:=ndN_lt (b:=orN ta tb) halt
 refine WC.enterP (noO_ok _ _) hG [] Tryd.func135 rfl (by decide +kernel) (Nat.le_of_ble_eq_true (by kernel_rfl)) ?_
 try simp (maxSteps:=999999) (disch:=first | assumption | omega | (simp; done) | fail) [Tryd.results135, *]
 refine WC.mono (always_w ta hta _ _ _ (HR.out.mono (by omega) fun q hq=>(by simp (disch:=omega) only [gput_lt]))) ?_
 rintro _ ⟨q,rfl,hq,HL⟩
 try simp (maxSteps:=999999) (disch:=first | assumption | omega | (simp; done) | fail) [Tryd.results135, *]
 refine ⟨_,_,⟨rfl,rfl⟩,rfl,⟨?_,fun q hq=>?_⟩,_,rfl,?_,?_⟩
 ·show n≤n+1+1
  omega
 ·show gput _ _ _ _=_
  have hq' : q < n:=hq
  rw [gput_lt (by omega),gput_lt (by omega)]
  rfl
 ·first | assumption | simp [*]
 ·exact HL
theorem sem10_w (op:Nat) (a b:Int) (sv:AV) (ta tb:Nat) (hta:ta < 18446744073709551616) (htb:tb < 18446744073709551616) (h1s:oneC sv=true) (g:Nat→Option Blk) (n:Nat) (cs:List AV) (hr:GOK g n M nx all cs) :
  WC 6 Tryd.prog 137 [.agg cs,.agg [.lit (.int .u8 op),.lit (.int .i64 a),.lit (.int .i64 b),sv],.lit (.int .u64 ta),.lit (.int .u64 tb)] ⟨.fn g,n⟩ fun r=>∃ z:Nat,r=.ret (.lit (.int .u64 (z:Int))) ⟨.fn g,n⟩∧z < 18446744073709551616∧opSem M 10 a b (sOf ta) (sOf tb) (sOf z):=by
 refine WC.mono (WC.drop (K:=fun v=>∃ z:Nat,v=.lit (.int .u64 (z:Int))∧z < 18446744073709551616∧opSem M 10 a b (sOf ta) (sOf tb) (sOf z)) ?_) ?_
 rotate_left
 ·rintro r ⟨v,rfl,z,rfl,h⟩
  exact ⟨z,rfl,h⟩
 obtain ⟨rv,nv,rfl,h1r,h1v⟩:=hr.one
 have h1a:allOne [.lit (.int .i64 M.inp),.lit (.int .i64 M.out),rv,nv,.lit (.int .u64 (all:Int))]=true:=by simp [h1r,h1v]
 have h1x:allOne [.lit (.int .u8 op),.lit (.int .i64 a),.lit (.int .i64 b),sv]=true:=by simp [h1s]
 have HR:=Hide.mk hr
 have HN:=Hide.mk hr.grn
 have HG:=Hide.mk hr.grn.ok
 have halt:=hr.grn.alt
 have hal:=fun t:Nat=>aheadN_lt nx t M.gr.n hr.grn.n64
 have HAL:=Hide.mk hal
 clear hr hal
 have hnd1:=ndN_lt (b:=ta) halt
 have hnd2:=ndN_lt (b:=tb) halt
 have hor:=orN_lt hta htb
 have hno:=ndN_lt (b:=orN ta tb) halt
 refine WC.enterP (noO_ok _ _) hG [] Tryd.func137 rfl (by decide +kernel) (Nat.le_of_ble_eq_true (by kernel_rfl)) ?_
 try simp (maxSteps:=999999) (disch:=first | assumption | omega | (simp; done) | fail) [Tryd.results137, *]
 refine WC.mono (until_w ta tb hta htb _ _ _ (HR.out.mono (by omega) fun q hq=>(by simp (disch:=omega) only [gput_lt]))) ?_
 rintro _ ⟨q,rfl,hq,HL⟩
 try simp (maxSteps:=999999) (disch:=first | assumption | omega | (simp; done) | fail) [Tryd.results137, *]
 refine ⟨_,_,⟨rfl,rfl⟩,rfl,⟨?_,fun q hq=>?_⟩,_,rfl,?_,?_⟩
 ·show n≤n+1+1
  omega
 ·show gput _ _ _ _=_
  have hq' : q < n:=hq
  rw [gput_lt (by omega),gput_lt (by omega)]
  rfl
 ·first | assumption | simp [*]
 ·exact HL
theorem sem11_w (op:Nat) (a b:Int) (sv:AV) (ta tb:Nat) (hta:ta < 18446744073709551616) (htb:tb < 18446744073709551616) (h1s:oneC sv=true) (g:Nat→Option Blk) (n:Nat) (cs:List AV) (hr:GOK g n M nx all cs) :
  WC 6 Tryd.prog 138 [.agg cs,.agg [.lit (.int .u8 op),.lit (.int .i64 a),.lit (.int .i64 b),sv],.lit (.int .u64 ta),.lit (.int .u64 tb)] ⟨.fn g,n⟩ fun r=>∃ z:Nat,r=.ret (.lit (.int .u64 (z:Int))) ⟨.fn g,n⟩∧z < 18446744073709551616∧opSem M 11 a b (sOf ta) (sOf tb) (sOf z):=by
 refine WC.mono (WC.drop (K:=fun v=>∃ z:Nat,v=.lit (.int .u64 (z:Int))∧z < 18446744073709551616∧opSem M 11 a b (sOf ta) (sOf tb) (sOf z)) ?_) ?_
 rotate_left
 ·rintro r ⟨v,rfl,z,rfl,h⟩
  exact ⟨z,rfl,h⟩
 obtain ⟨rv,nv,rfl,h1r,h1v⟩:=hr.one
 have h1a:allOne [.lit (.int .i64 M.inp),.lit (.int .i64 M.out),rv,nv,.lit (.int .u64 (all:Int))]=true:=by simp [h1r,h1v]
 have h1x:allOne [.lit (.int .u8 op),.lit (.int .i64 a),.lit (.int .i64 b),sv]=true:=by simp [h1s]
 have HR:=Hide.mk hr
 have HN:=Hide.mk hr.grn
 have HG:=Hide.mk hr.grn.ok
 have halt:=hr.grn.alt
 have hal:=fun t:Nat=>aheadN_lt nx t M.gr.n hr.grn.n64
 have HAL:=Hide.mk hal
 clear hr hal
 have hnd1:=ndN_lt (b:=ta) halt
 have hnd2:=ndN_lt (b:=tb) halt
 have hor:=orN_lt hta htb
 have hno:=ndN_lt (b:=orN ta tb) halt
 refine WC.enterP (noO_ok _ _) hG pl138 Tryd.func138 rfl (by decide +kernel) (Nat.le_of_ble_eq_true (by kernel_rfl)) ?_
 try simp (maxSteps:=999999) (disch:=first | assumption | omega | (simp; done) | fail) [Tryd.results138, *]
 have hnd:=ndN_lt (b:=ta) halt
 refine WC.mono (aheadG_w (ndN all ta) hnd _ _ _ (HR.out.mono (by omega) fun q hq=>(by simp (disch:=omega) only [gput_lt]))) ?_
 rintro _ rfl
 have hq:=HAL.out (ndN all ta)
 have hz:=ndN_lt (b:=aheadN nx (ndN all ta) M.gr.n) halt
 try simp (maxSteps:=999999) (disch:=first | assumption | omega | (simp; done) | fail) [Tryd.results138, *]
 refine ⟨_,_,⟨rfl,rfl⟩,rfl,⟨?_,fun q hq=>?_⟩,_,rfl,?_,?_⟩
 ·show n≤n+1+1
  omega
 ·show gput _ _ _ _=_
  have hq' : q < n:=hq
  rw [gput_lt (by omega),gput_lt (by omega)]
  rfl
 ·first | assumption | simp [*]
 ·intro s hs
  rw [HN.out.nd hq s hs]
  unfold notS
  rw [HN.out.ahead (ndN all ta) s hs,pre_eq HG.out (HN.out.nd hta) s hs,not_pre]
  simp
theorem sem12_w (op:Nat) (a b:Int) (sv:AV) (ta tb:Nat) (hta:ta < 18446744073709551616) (htb:tb < 18446744073709551616) (h1s:oneC sv=true) (g:Nat→Option Blk) (n:Nat) (cs:List AV) (hr:GOK g n M nx all cs) :
  WC 6 Tryd.prog 139 [.agg cs,.agg [.lit (.int .u8 op),.lit (.int .i64 a),.lit (.int .i64 b),sv],.lit (.int .u64 ta),.lit (.int .u64 tb)] ⟨.fn g,n⟩ fun r=>∃ z:Nat,r=.ret (.lit (.int .u64 (z:Int))) ⟨.fn g,n⟩∧z < 18446744073709551616∧opSem M 12 a b (sOf ta) (sOf tb) (sOf z):=by
 refine WC.mono (WC.drop (K:=fun v=>∃ z:Nat,v=.lit (.int .u64 (z:Int))∧z < 18446744073709551616∧opSem M 12 a b (sOf ta) (sOf tb) (sOf z)) ?_) ?_
 rotate_left
 ·rintro r ⟨v,rfl,z,rfl,h⟩
  exact ⟨z,rfl,h⟩
 obtain ⟨rv,nv,rfl,h1r,h1v⟩:=hr.one
 have h1a:allOne [.lit (.int .i64 M.inp),.lit (.int .i64 M.out),rv,nv,.lit (.int .u64 (all:Int))]=true:=by simp [h1r,h1v]
 have h1x:allOne [.lit (.int .u8 op),.lit (.int .i64 a),.lit (.int .i64 b),sv]=true:=by simp [h1s]
 have HR:=Hide.mk hr
 have HN:=Hide.mk hr.grn
 have HG:=Hide.mk hr.grn.ok
 have halt:=hr.grn.alt
 have hal:=fun t:Nat=>aheadN_lt nx t M.gr.n hr.grn.n64
 have HAL:=Hide.mk hal
 clear hr hal
 have hnd1:=ndN_lt (b:=ta) halt
 have hnd2:=ndN_lt (b:=tb) halt
 have hor:=orN_lt hta htb
 have hno:=ndN_lt (b:=orN ta tb) halt
 refine WC.enterP (noO_ok _ _) hG pl139 Tryd.func139 rfl (by decide +kernel) (Nat.le_of_ble_eq_true (by kernel_rfl)) ?_
 try simp (maxSteps:=999999) (disch:=first | assumption | omega | (simp; done) | fail) [Tryd.results139, *]
 have hnd:=ndN_lt (b:=ta) halt
 refine WC.mono (always_w (ndN all ta) hnd _ _ _ (HR.out.mono (by omega) fun q hq=>(by simp (disch:=omega) only [gput_lt]))) ?_
 rintro _ ⟨q,rfl,hq,HL⟩
 have hz:=ndN_lt (b:=q) halt
 try simp (maxSteps:=999999) (disch:=first | assumption | omega | (simp; done) | fail) [Tryd.results139, *]
 refine ⟨_,_,⟨rfl,rfl⟩,rfl,⟨?_,fun q hq=>?_⟩,_,rfl,?_,?_⟩
 ·show n≤n+1+1
  omega
 ·show gput _ _ _ _=_
  have hq' : q < n:=hq
  rw [gput_lt (by omega),gput_lt (by omega)]
  rfl
 ·first | assumption | simp [*]
 ·exact fA_cong HG.out HL (eqS.refl _ _) (HN.out.ndnd hta) (HN.out.nd hq).symm
theorem sem13_w (op:Nat) (a b:Int) (sv:AV) (ta tb:Nat) (hta:ta < 18446744073709551616) (htb:tb < 18446744073709551616) (h1s:oneC sv=true) (g:Nat→Option Blk) (n:Nat) (cs:List AV) (hr:GOK g n M nx all cs) :
  WC 6 Tryd.prog 140 [.agg cs,.agg [.lit (.int .u8 op),.lit (.int .i64 a),.lit (.int .i64 b),sv],.lit (.int .u64 ta),.lit (.int .u64 tb)] ⟨.fn g,n⟩ fun r=>∃ z:Nat,r=.ret (.lit (.int .u64 (z:Int))) ⟨.fn g,n⟩∧z < 18446744073709551616∧opSem M 13 a b (sOf ta) (sOf tb) (sOf z):=by
 refine WC.mono (WC.drop (K:=fun v=>∃ z:Nat,v=.lit (.int .u64 (z:Int))∧z < 18446744073709551616∧opSem M 13 a b (sOf ta) (sOf tb) (sOf z)) ?_) ?_
 rotate_left
 ·rintro r ⟨v,rfl,z,rfl,h⟩
  exact ⟨z,rfl,h⟩
 obtain ⟨rv,nv,rfl,h1r,h1v⟩:=hr.one
 have h1a:allOne [.lit (.int .i64 M.inp),.lit (.int .i64 M.out),rv,nv,.lit (.int .u64 (all:Int))]=true:=by simp [h1r,h1v]
 have h1x:allOne [.lit (.int .u8 op),.lit (.int .i64 a),.lit (.int .i64 b),sv]=true:=by simp [h1s]
 have HR:=Hide.mk hr
 have HN:=Hide.mk hr.grn
 have HG:=Hide.mk hr.grn.ok
 have halt:=hr.grn.alt
 have hal:=fun t:Nat=>aheadN_lt nx t M.gr.n hr.grn.n64
 have HAL:=Hide.mk hal
 clear hr hal
 have hnd1:=ndN_lt (b:=ta) halt
 have hnd2:=ndN_lt (b:=tb) halt
 have hor:=orN_lt hta htb
 have hno:=ndN_lt (b:=orN ta tb) halt
 refine WC.enterP (noO_ok _ _) hG pl140 Tryd.func140 rfl (by decide +kernel) (Nat.le_of_ble_eq_true (by kernel_rfl)) ?_
 try simp (maxSteps:=999999) (disch:=first | assumption | omega | (simp; done) | fail) [Tryd.results140, *]
 have hnd:=ndN_lt (b:=ta) halt
 refine WC.mono (until_w all (ndN all ta) halt hnd _ _ _ (HR.out.mono (by omega) fun q hq=>(by simp (disch:=omega) only [gput_lt]))) ?_
 rintro _ ⟨q,rfl,hq,HL⟩
 have hz:=ndN_lt (b:=q) halt
 try simp (maxSteps:=999999) (disch:=first | assumption | omega | (simp; done) | fail) [Tryd.results140, *]
 refine ⟨_,_,⟨rfl,rfl⟩,rfl,⟨?_,fun q hq=>?_⟩,_,rfl,?_,?_⟩
 ·show n≤n+1+1
  omega
 ·show gput _ _ _ _=_
  have hq' : q < n:=hq
  rw [gput_lt (by omega),gput_lt (by omega)]
  rfl
 ·first | assumption | simp [*]
 ·exact fE_cong HG.out HL HN.out.all_eq (HN.out.nd hta) (HN.out.ndnd hq).symm
theorem sem14_w (op:Nat) (a b:Int) (sv:AV) (ta tb:Nat) (hta:ta < 18446744073709551616) (htb:tb < 18446744073709551616) (h1s:oneC sv=true) (g:Nat→Option Blk) (n:Nat) (cs:List AV) (hr:GOK g n M nx all cs) :
  WC 6 Tryd.prog 141 [.agg cs,.agg [.lit (.int .u8 op),.lit (.int .i64 a),.lit (.int .i64 b),sv],.lit (.int .u64 ta),.lit (.int .u64 tb)] ⟨.fn g,n⟩ fun r=>∃ z:Nat,r=.ret (.lit (.int .u64 (z:Int))) ⟨.fn g,n⟩∧z < 18446744073709551616∧opSem M 14 a b (sOf ta) (sOf tb) (sOf z):=by
 refine WC.mono (WC.drop (K:=fun v=>∃ z:Nat,v=.lit (.int .u64 (z:Int))∧z < 18446744073709551616∧opSem M 14 a b (sOf ta) (sOf tb) (sOf z)) ?_) ?_
 rotate_left
 ·rintro r ⟨v,rfl,z,rfl,h⟩
  exact ⟨z,rfl,h⟩
 obtain ⟨rv,nv,rfl,h1r,h1v⟩:=hr.one
 have h1a:allOne [.lit (.int .i64 M.inp),.lit (.int .i64 M.out),rv,nv,.lit (.int .u64 (all:Int))]=true:=by simp [h1r,h1v]
 have h1x:allOne [.lit (.int .u8 op),.lit (.int .i64 a),.lit (.int .i64 b),sv]=true:=by simp [h1s]
 have HR:=Hide.mk hr
 have HN:=Hide.mk hr.grn
 have HG:=Hide.mk hr.grn.ok
 have halt:=hr.grn.alt
 have hal:=fun t:Nat=>aheadN_lt nx t M.gr.n hr.grn.n64
 have HAL:=Hide.mk hal
 clear hr hal
 have hnd1:=ndN_lt (b:=ta) halt
 have hnd2:=ndN_lt (b:=tb) halt
 have hor:=orN_lt hta htb
 have hno:=ndN_lt (b:=orN ta tb) halt
 refine WC.enterP (noO_ok _ _) hG pl141 Tryd.func141 rfl (by decide +kernel) (Nat.le_of_ble_eq_true (by kernel_rfl)) ?_
 try simp (maxSteps:=999999) (disch:=first | assumption | omega | (simp; done) | fail) [Tryd.results141, *]
 have hnd:=ndN_lt (b:=tb) halt
 have hor:=orN_lt hta htb
 have hno:=ndN_lt (b:=orN ta tb) halt
 refine WC.mono (always_w (ndN all tb) hnd _ _ _ (HR.out.mono (by omega) fun q hq=>(by simp (disch:=omega) only [gput_lt]))) ?_
 rintro _ ⟨p,rfl,hp,ha0⟩
 have HA:=Hide.mk ha0
 clear ha0
 try simp (maxSteps:=999999) (disch:=first | assumption | omega | (simp; done) | fail) [Tryd.results141, *]
 refine WC.mono (until_w (ndN all tb) (ndN all (orN ta tb)) hnd hno _ _ _ (HR.out.mono (by omega) fun q hq=>(by simp (disch:=omega) only [gput_lt]))) ?_
 rintro _ ⟨q,rfl,hq,he0⟩
 have HE:=Hide.mk he0
 clear he0
 have hpq:=orN_lt hp hq
 have hz:=ndN_lt (b:=orN p q) halt
 try simp (maxSteps:=999999) (disch:=first | assumption | omega | (simp; done) | fail) [Tryd.results141, *]
 refine ⟨_,_,⟨rfl,rfl⟩,rfl,⟨?_,fun q hq=>?_⟩,_,rfl,?_,?_⟩
 ·show n≤n+1+1
  omega
 ·show gput _ _ _ _=_
  have hq' : q < n:=hq
  rw [gput_lt (by omega),gput_lt (by omega)]
  rfl
 ·first | assumption | simp [*]
 ·have hL:=iter_lfp (n:=M.gr.n) (F:=M.gr.fA (sOf ta) (sOf tb)) (fun X Y=>M.gr.fA_mono HG.out _ _)
  have hA:=fA_cong HG.out HA.out (eqS.refl _ _) (HN.out.ndnd htb) (eqS.refl _ _)
  have hE:=fE_cong HG.out HE.out (HN.out.nd htb) (HN.out.nd hor) (eqS.refl _ _)
  rw [sOf_or] at hE
  have h1:=until_all HG.out hL hA hE
  refine fA_cong HG.out hL (eqS.refl _ _) (eqS.refl _ _) fun s hs=>?_
  rw [h1 s hs,HN.out.nd hpq s hs,sOf_or]
  show (!sOf p s && !sOf q s) = !(sOf p s || sOf q s)
  cases sOf p s <;> cases sOf q s <;> rfl
theorem sem2_w (hMr:∀ r∈M.rows,(r.length:Int)=M.inp) (hMe:∀ s i:Nat,s < M.gr.n→(i:Int) < M.inp → -1≤(M.edge s i).1) (i:Nat) (hi:(i:Int) < M.inp) (op:Nat) (b:Int) (sv:AV) (ta tb:Nat) (hta:ta < 18446744073709551616) (htb:tb < 18446744073709551616) (h1s:oneC sv=true) (g:Nat→Option Blk) (n:Nat) (cs:List AV) (hr:GOK g n M nx all cs) :
  WC 6 Tryd.prog 124 [.agg cs,.agg [.lit (.int .u8 op),.lit (.int .i64 i),.lit (.int .i64 b),sv],.lit (.int .u64 ta),.lit (.int .u64 tb)] ⟨.fn g,n⟩ fun r=>∃ z:Nat,r=.ret (.lit (.int .u64 (z:Int))) ⟨.fn g,n⟩∧z < 18446744073709551616∧opSem M 2 i b (sOf ta) (sOf tb) (sOf z):=by
 refine WC.mono (WC.drop (K:=fun v=>∃ z:Nat,v=.lit (.int .u64 (z:Int))∧z < 18446744073709551616∧opSem M 2 i b (sOf ta) (sOf tb) (sOf z)) ?_) ?_
 rotate_left
 ·rintro r ⟨v,rfl,z,rfl,h⟩
  exact ⟨z,rfl,h⟩
 obtain ⟨rv,nv,rfl,h1r,h1v⟩:=hr.one
 have h1a:allOne [.lit (.int .i64 M.inp),.lit (.int .i64 M.out),rv,nv,.lit (.int .u64 (all:Int))]=true:=by simp [h1r,h1v]
 have h1x:allOne [.lit (.int .u8 op),.lit (.int .i64 i),.lit (.int .i64 b),sv]=true:=by simp [h1s]
 have HR:=Hide.mk hr
 have HN:=Hide.mk hr.grn
 have HG:=Hide.mk hr.grn.ok
 have halt:=hr.grn.alt
 have hal:=fun t:Nat=>aheadN_lt nx t M.gr.n hr.grn.n64
 have HAL:=Hide.mk hal
 clear hr hal
 have hnd1:=ndN_lt (b:=ta) halt
 have hnd2:=ndN_lt (b:=tb) halt
 have hor:=orN_lt hta htb
 have hno:=ndN_lt (b:=orN ta tb) halt
 refine WC.enterP (noO_ok _ _) hG [] Tryd.func124 rfl (by decide +kernel) (Nat.le_of_ble_eq_true (by kernel_rfl)) ?_
 try simp (maxSteps:=999999) (disch:=first | assumption | omega | (simp; done) | fail) [Tryd.results124, *]
 refine WC.mono (edges_can hMr i hi _ _ _ (HR.out.mono (by omega) fun q hq=>(by simp (disch:=omega) only [gput_lt]))) ?_
 rintro _ rfl
 have hq:=edgesN_lt (fun s=>!decide ((M.edge s i).1 = -1)) M.gr.n HN.out.n64
 try simp (maxSteps:=999999) (disch:=first | assumption | omega | (simp; done) | fail) [Tryd.results124, *]
 refine ⟨_,_,⟨rfl,rfl⟩,rfl,⟨?_,fun q hq=>?_⟩,_,rfl,?_,?_⟩
 ·show n≤n+1+1
  omega
 ·show gput _ _ _ _=_
  have hq' : q < n:=hq
  rw [gput_lt (by omega),gput_lt (by omega)]
  rfl
 ·first | assumption | simp [*]
 ·intro s hs
  rw [edgesN_eq _ _ s hs]
  have h1:=hMe s i hs hi
  show (!decide ((M.edge s i).1 = -1))=decide (0≤(M.edge s ((i:Nat) : Int).toNat).1)
  rw [Int.toNat_natCast]
  by_cases h2:(M.edge s i).1 = -1
  ·rw [h2]; decide
  ·rw [decide_eq_false h2,decide_eq_true (by omega)]; rfl
theorem sem3_w (hMr:∀ r∈M.rows,(r.length:Int)=M.inp) (hMe:∀ s i:Nat,s < M.gr.n→(i:Int) < M.inp → -1≤(M.edge s i).1) (i:Nat) (hi:(i:Int) < M.inp) (op:Nat) (b:Int) (sv:AV) (ta tb:Nat) (hta:ta < 18446744073709551616) (htb:tb < 18446744073709551616) (h1s:oneC sv=true) (g:Nat→Option Blk) (n:Nat) (cs:List AV) (hr:GOK g n M nx all cs) :
  WC 6 Tryd.prog 127 [.agg cs,.agg [.lit (.int .u8 op),.lit (.int .i64 i),.lit (.int .i64 b),sv],.lit (.int .u64 ta),.lit (.int .u64 tb)] ⟨.fn g,n⟩ fun r=>∃ z:Nat,r=.ret (.lit (.int .u64 (z:Int))) ⟨.fn g,n⟩∧z < 18446744073709551616∧opSem M 3 i b (sOf ta) (sOf tb) (sOf z):=by
 refine WC.mono (WC.drop (K:=fun v=>∃ z:Nat,v=.lit (.int .u64 (z:Int))∧z < 18446744073709551616∧opSem M 3 i b (sOf ta) (sOf tb) (sOf z)) ?_) ?_
 rotate_left
 ·rintro r ⟨v,rfl,z,rfl,h⟩
  exact ⟨z,rfl,h⟩
 obtain ⟨rv,nv,rfl,h1r,h1v⟩:=hr.one
 have h1a:allOne [.lit (.int .i64 M.inp),.lit (.int .i64 M.out),rv,nv,.lit (.int .u64 (all:Int))]=true:=by simp [h1r,h1v]
 have h1x:allOne [.lit (.int .u8 op),.lit (.int .i64 i),.lit (.int .i64 b),sv]=true:=by simp [h1s]
 have HR:=Hide.mk hr
 have HN:=Hide.mk hr.grn
 have HG:=Hide.mk hr.grn.ok
 have halt:=hr.grn.alt
 have hal:=fun t:Nat=>aheadN_lt nx t M.gr.n hr.grn.n64
 have HAL:=Hide.mk hal
 clear hr hal
 have hnd1:=ndN_lt (b:=ta) halt
 have hnd2:=ndN_lt (b:=tb) halt
 have hor:=orN_lt hta htb
 have hno:=ndN_lt (b:=orN ta tb) halt
 refine WC.enterP (noO_ok _ _) hG [] Tryd.func127 rfl (by decide +kernel) (Nat.le_of_ble_eq_true (by kernel_rfl)) ?_
 try simp (maxSteps:=999999) (disch:=first | assumption | omega | (simp; done) | fail) [Tryd.results127, *]
 refine WC.mono (edges_gives hMr i hi (n+1) op i b sv _ _ _ (HR.out.mono (by omega) fun q hq=>(by simp (disch:=omega) only [gput_lt])) (by simp) (by omega)) ?_
 rintro _ rfl
 have hq:=edgesN_lt (fun s=>!decide ((M.edge s i).1 = -1) && decide ((M.edge s i).2=b)) M.gr.n HN.out.n64
 try simp (maxSteps:=999999) (disch:=first | assumption | omega | (simp; done) | fail) [Tryd.results127, *]
 refine ⟨_,_,⟨rfl,rfl⟩,rfl,⟨?_,fun q hq=>?_⟩,_,rfl,?_,?_⟩
 ·show n≤n+1+1
  omega
 ·show gput _ _ _ _=_
  have hq' : q < n:=hq
  rw [gput_lt (by omega),gput_lt (by omega)]
  rfl
 ·first | assumption | simp [*]
 ·intro s hs
  rw [edgesN_eq _ _ s hs]
  have h1:=hMe s i hs hi
  show (!decide ((M.edge s i).1 = -1) && decide ((M.edge s i).2=b))=(decide (0≤(M.edge s ((i:Nat) : Int).toNat).1) && decide ((M.edge s ((i:Nat) : Int).toNat).2=b))
  rw [Int.toNat_natCast]
  by_cases h2:(M.edge s i).1 = -1
  ·rw [h2]; rfl
  ·rw [decide_eq_false h2,decide_eq_true (show 0≤(M.edge s i).1 by omega)]; rfl
end Go.Ai
end
section
namespace Go.Ai
open Go.Proofs
set_option maxRecDepth 10000
set_option maxHeartbeats 40000000
def SatW (M:MachM) (nx:List Nat) (all:Nat) (m:Nat) : Prop:=∀ (x:NodeM),sizeN x≤m→validM M.rows.length M.inp M.out x=true→∀ (g:Nat→Option Blk) (n:Nat) (cs xs:List AV),g 0=some opsB→0 < n→GOK g n M nx all cs→repN g n x xs →
 WC 6 Tryd.prog 31 [.agg cs,.agg xs] ⟨.fn g,n⟩ fun r=>∃ z:Nat,r=.ret (.lit (.int .u64 (z:Int))) ⟨.fn g,n⟩∧z < 18446744073709551616∧semN M x (sOf z)
theorem ops_fn0:loadB (some (false,1)) (some opsB) 3=some (.lit (.func (.func 122) #[] #[])):=rfl
theorem ops_fn1:loadB (some (false,1)) (some opsB) 7=some (.lit (.func (.func 123) #[] #[])):=rfl
theorem ops_fn2:loadB (some (false,1)) (some opsB) 11=some (.lit (.func (.func 124) #[] #[])):=rfl
theorem ops_fn3:loadB (some (false,1)) (some opsB) 15=some (.lit (.func (.func 127) #[] #[])):=rfl
theorem ops_fn4:loadB (some (false,1)) (some opsB) 19=some (.lit (.func (.func 129) #[] #[])):=rfl
theorem ops_fn5:loadB (some (false,1)) (some opsB) 23=some (.lit (.func (.func 130) #[] #[])):=rfl
theorem ops_fn6:loadB (some (false,1)) (some opsB) 27=some (.lit (.func (.func 131) #[] #[])):=rfl
theorem ops_fn7:loadB (some (false,1)) (some opsB) 31=some (.lit (.func (.func 132) #[] #[])):=rfl
theorem ops_fn8:loadB (some (false,1)) (some opsB) 35=some (.lit (.func (.func 133) #[] #[])):=rfl
theorem ops_fn9:loadB (some (false,1)) (some opsB) 39=some (.lit (.func (.func 135) #[] #[])):=rfl
theorem ops_fn10:loadB (some (false,1)) (some opsB) 43=some (.lit (.func (.func 137) #[] #[])):=rfl
theorem ops_fn11:loadB (some (false,1)) (some opsB) 47=some (.lit (.func (.func 138) #[] #[])):=rfl
theorem ops_fn12:loadB (some (false,1)) (some opsB) 51=some (.lit (.func (.func 139) #[] #[])):=rfl
theorem ops_fn13:loadB (some (false,1)) (some opsB) 55=some (.lit (.func (.func 140) #[] #[])):=rfl
theorem ops_fn14:loadB (some (false,1)) (some opsB) 59=some (.lit (.func (.func 141) #[] #[])):=rfl
theorem sat_w {M:MachM} (hM:M.ok) {nx:List Nat} {all:Nat} : ∀ (m:Nat),SatW M nx all m:=by
 intro m
 induction m with
 | zero=>intro x hx; cases x; unfold sizeN at hx; omega
 | succ m ihm =>
  intro x hx hv g n cs xs hops hn hr hx0
  refine WC.mono (WC.drop (K:=fun v=>∃ z:Nat,v=.lit (.int .u64 (z:Int))∧z < 18446744073709551616∧semN M x (sOf z)) ?_) ?_
  rotate_left
  ·rintro r ⟨v,rfl,z,rfl,h⟩
   exact ⟨z,rfl,h⟩
  have IH:=Hide.mk ihm
  clear ihm
  have HMR:=Hide.mk (ok_row hM)
  have HME:=Hide.mk (ok_edge1 hM)
  obtain ⟨rv,nv,rfl,h1r,h1v⟩:=hr.one
  have h1a:allOne [.lit (.int .i64 M.inp),.lit (.int .i64 M.out),rv,nv,.lit (.int .u64 (all:Int))]=true:=by simp [h1r,h1v]
  cases x with
  | mk op a b subs =>
  have hrep:=hx0
  obtain ⟨hop,sv,rfl,hsv⟩:=hx0
  have h1s:oneC sv=true:=by
   obtain ⟨_,_,_,e1,e2,_⟩:=repN_one hrep
   cases e1; exact e2
  have h1x:allOne [.lit (.int .u8 op),.lit (.int .i64 a),.lit (.int .i64 b),sv]=true:=by simp [h1s]
  unfold validM at hv
  simp only [Bool.and_eq_true,decide_eq_true_eq] at hv
  obtain ⟨v1,v2,v3,v4,v5,v6,v7⟩:=hv
  have hsz:sizeL subs≤m:=by unfold sizeN at hx; omega
  have hsub2:subs.length≤2:=by rw [v2]; unfold subsM; split <;> (try split) <;> omega
  have HV7:=Hide.mk v7
  have HV2:=Hide.mk v2
  have HV5:=Hide.mk v5
  have HSV:Hide ((subs=[]∧(sv=.lit (.slice none 0 0)∨sv=.es))∨∃ a off r,a < n∧((∃ c,sv=.sl a off subs.length c)∨(∃ c,sv=.slq a off subs.length c))∧Row g a off r∧repL g n subs r):=⟨hsv⟩
  have hlen:∀ {H:Mem} {e' : Ev} {o:Oper} {c' : Call} {e:TypeId},lenS Tryd.prog H e' o c' (some (.slice e)) (some [sv])=.val (.lit (.int .i64 subs.length)) H:=by
   intro H e' o c' e
   rcases HSV.out with ⟨h1,rfl | rfl⟩ | ⟨a2,off,r,_,⟨c2,rfl⟩ | ⟨c2,rfl⟩,_⟩
   ·rw [h1]; rfl
   ·rw [h1]; rfl
   ·rfl
   ·rfl
  have HR:=Hide.mk hr
  clear hr hsv hrep v2 v5 v7 hx
  refine WC.enterP (noO_ok _ _) hG pl31 Tryd.func31 rfl (by decide +kernel) (Nat.le_of_ble_eq_true (by kernel_rfl)) ?_
  try simp (maxSteps:=999999) (disch:=first | assumption | omega | (simp; done) | fail) [Tryd.results31, *]
  refine LX.ind (fun m' gf H'=>∃ (k n' : Nat) (g' : Nat→Option Blk) (t0 t1:Nat),k≤subs.length∧m'=subs.length - k∧H'=⟨.fn g',n'⟩∧n+1+1+1≤n'∧(∀ q,q < n→g' q=g q) ∧
   g' n=some (.cells [.lit (.int .i64 M.inp),.lit (.int .i64 M.out),rv,nv,.lit (.int .u64 (all:Int))] true 0)∧g' (n+1)=some (.cells [.lit (.int .u8 op),.lit (.int .i64 a),.lit (.int .i64 b),sv] true 0) ∧
   g' (n+1+1)=some (.cells [.lit (.int .u64 (t0:Int)),.lit (.int .u64 (t1:Int))] true 0)∧t0 < 18446744073709551616∧t1 < 18446744073709551616 ∧
   (k=0→t0=0)∧(k≤1→t1=0)∧(∀ y,subs[0]?=some y→0 < k→semN M y (sOf t0))∧(∀ y,subs[1]?=some y→1 < k→semN M y (sOf t1)) ∧
   gf 2=some (.ptr n 0)∧gf 3=some (.ptr (n+1) 0)∧gf 5=some (.ptr (n+1+1) 0)∧gf 9=some sv∧gf 10=some (.lit (.int .i64 subs.length))∧gf 11=some (.lit (.int .i64 k))) (m0:=subs.length) ?_ ?_
  ·refine ⟨0,_,_,0,0,Nat.zero_le _,rfl,rfl,Nat.le_refl _,fun q hq=>?_,?_,?_,?_,by omega,by omega,fun _=>rfl,fun _=>rfl,fun _ _ h=>absurd h (by omega),fun _ _ h=>absurd h (by omega),by simp,by simp,by simp,by simp,by simp,by simp⟩
   ·simp (disch:=omega) only [gput_lt]
   ·simp (disch:=omega) only [gput_lt,gput_eq]
   ·simp (disch:=omega) only [gput_lt,gput_eq]
   ·simp (disch:=omega) only [gput_eq]
    try rfl
  rintro m' gf H' ⟨k,n',g',t0,t1,hk,rfl,rfl,hn',hg',e0,e1,e2,ht0,ht1,hz0,hz1,hs0,hs1,w2,w3,w5,w9,w10,w11⟩ ih
  have HG:=Hide.mk hg'
  have HZ:=Hide.mk (And.intro hz0 (And.intro hz1 (And.intro hs0 hs1)))
  clear hg' hz0 hz1 hs0 hs1
  refine LX.roundP (noO_ok _ _) hG pl31 (by decide +kernel) ?_
  by_cases hlt:k < subs.length
  ·have hltI:(k:Int) < (subs.length:Int):=by omega
   rcases HSV.out with ⟨h1,_⟩ | ⟨a2,off,r,ha2,hev,hrow,hrl⟩
   ·rw [h1] at hlt; simp at hlt
   have hy0:=repL_at hrl k hlt
   have hll:=repL_len hrl
   have hcell:=(hrow.mono (HG.out a2 ha2)).agg (k:=k * 4) (s:=4) (by omega)
   have hys:subs[k]?=some subs[k]:=List.getElem?_eq_getElem hlt
   have hyv:=validL_mem HV7.out _ (List.getElem_mem hlt)
   have hyz:sizeN subs[k]≤m:=Nat.le_trans (size_mem (List.getElem_mem hlt)) hsz
   generalize subs[k]=y at hy0 hys hyv hyz
   obtain ⟨k2,k3,sv2,hcy,h1c,hop2⟩:=repN_one hy0
   rw [hcy] at hcell hy0
   have h1y:allOne [.lit (.int .u8 y.op),.lit (.int .i64 k2),.lit (.int .i64 k3),sv2]=true:=by simp [h1c]
   have HY:=Hide.mk hy0
   have HYS:=Hide.mk (And.intro hys hyv)
   clear hy0 hys hyv hcy hrl hrow hll
   have hk2:k=0∨k=1:=by omega
   rcases hk2 with rfl | rfl
   ·rcases hev with ⟨c2,rfl⟩ | ⟨c2,rfl⟩
    all_goals
     have w11' : gf 11=some (.lit (.int .i64 0)):=w11
     have hltI' : (0:Int) < (subs.length:Int):=hltI
     have hcell' : loadB (some (true,4)) (g' a2) off=some (.agg [.lit (.int .u8 y.op),.lit (.int .i64 k2),.lit (.int .i64 k3),sv2]):=by simpa using hcell
     clear w11 hltI hcell
     try simp (maxSteps:=999999) (disch:=first | assumption | omega | (simp; done) | fail) [Tryd.results31, *]
     refine WC.mono (IH.out y hyz HYS.out.2 _ _ _ _ (by simp (disch:=omega) only [gput_lt]; rw [HG.out 0 hn]; exact hops) (by omega) (HR.out.mono (by omega) fun q hq=>by simp (disch:=omega) only [gput_lt]; exact HG.out q hq) (repN_mono (by omega) (fun q hq=>by simp (disch:=omega) only [gput_lt]; exact HG.out q hq) HY.out)) ?_
     rintro _ ⟨z,rfl,hz,hsem⟩
     have HSEM:=Hide.mk hsem
     clear hsem
     try simp (maxSteps:=999999) (disch:=first | assumption | omega | (simp; done) | fail) [Tryd.results31, *]
     refine ih.out (subs.length - (0+1)) _ _ (by omega) ⟨0+1,n'+1,_,z,t1,by omega,rfl,rfl,by omega,fun q hq=>?_,?_,?_,?_,hz,ht1,fun h=>absurd h (by omega),fun _=>HZ.out.2.1 (by omega),fun u hu _=>?_,fun u hu h=>absurd h (by omega),by simp [*],by simp [*],by simp [*],by simp [*],by simp [*],by simp⟩
     ·simp (disch:=omega) only [gput_lt,gput_ne]
      exact HG.out q hq
     ·simp (disch:=omega) only [gput_lt,gput_ne]
      exact e0
     ·simp (disch:=omega) only [gput_lt,gput_ne]
      exact e1
     ·simp (disch:=omega) only [gput_ne,gput_eq]
      try rfl
     ·rw [HYS.out.1] at hu
      cases hu
      exact HSEM.out
   ·rcases hev with ⟨c2,rfl⟩ | ⟨c2,rfl⟩
    all_goals
     have w11' : gf 11=some (.lit (.int .i64 1)):=w11
     have hltI' : (1:Int) < (subs.length:Int):=hltI
     have hcell' : loadB (some (true,4)) (g' a2) (off+4)=some (.agg [.lit (.int .u8 y.op),.lit (.int .i64 k2),.lit (.int .i64 k3),sv2]):=by simpa using hcell
     clear w11 hltI hcell
     try simp (maxSteps:=999999) (disch:=first | assumption | omega | (simp; done) | fail) [Tryd.results31, *]
     refine WC.mono (IH.out y hyz HYS.out.2 _ _ _ _ (by simp (disch:=omega) only [gput_lt]; rw [HG.out 0 hn]; exact hops) (by omega) (HR.out.mono (by omega) fun q hq=>by simp (disch:=omega) only [gput_lt]; exact HG.out q hq) (repN_mono (by omega) (fun q hq=>by simp (disch:=omega) only [gput_lt]; exact HG.out q hq) HY.out)) ?_
     rintro _ ⟨z,rfl,hz,hsem⟩
     have HSEM:=Hide.mk hsem
     clear hsem
     try simp (maxSteps:=999999) (disch:=first | assumption | omega | (simp; done) | fail) [Tryd.results31, *]
     refine ih.out (subs.length - (1+1)) _ _ (by omega) ⟨1+1,n'+1,_,t0,z,by omega,rfl,rfl,by omega,fun q hq=>?_,?_,?_,?_,ht0,hz,fun h=>absurd h (by omega),fun h=>absurd h (by omega),fun u hu _=>HZ.out.2.2.1 u hu (by omega),fun u hu _=>?_,by simp [*],by simp [*],by simp [*],by simp [*],by simp [*],by simp⟩
     ·simp (disch:=omega) only [gput_lt,gput_ne]
      exact HG.out q hq
     ·simp (disch:=omega) only [gput_lt,gput_ne]
      exact e0
     ·simp (disch:=omega) only [gput_lt,gput_ne]
      exact e1
     ·simp (disch:=omega) only [gput_ne,gput_eq]
      try rfl
     ·rw [HYS.out.1] at hu
      cases hu
      exact HSEM.out
  ·have hltI:¬(k:Int) < (subs.length:Int):=by omega
   have hSL:Hide (semL M subs (sOf t0) (sOf t1)):=⟨by
    obtain ⟨z1,z2,z3,z4⟩:=HZ.out
    have hno:sOf 0=noneS:=by funext s; exact Nat.zero_testBit s
    match subs,hk,hltI,hsub2,z1,z2,z3,z4 with
    | [],hk,hltI,_,z1,z2,z3,z4 =>
     simp at hk
     rw [z1 hk,z2 (by omega),hno]
     exact ⟨eqS.refl _ _,eqS.refl _ _⟩
    | [x],hk,hltI,_,z1,z2,z3,z4 =>
     simp at hltI
     have h1:k=1:=by simp at hk; omega
     rw [z2 (by omega),hno]
     exact ⟨z3 x rfl (by omega),eqS.refl _ _⟩
    | x :: y :: l,hk,hltI,hs,z1,z2,z3,z4 =>
     simp at hltI hk hs
     exact ⟨z3 x rfl (by omega),z4 y rfl (by omega)⟩⟩
   have hops':=(HG.out 0 hn).trans hops
   have hge:Hide (Ge ⟨.fn g,n⟩ ⟨.fn g',n'⟩):=⟨⟨by show n≤n'; omega,fun q hq=>HG.out q hq⟩⟩
   have HRG:Hide (GOK g' n' M nx all [.lit (.int .i64 M.inp),.lit (.int .i64 M.out),rv,nv,.lit (.int .u64 (all:Int))]):=⟨HR.out.mono (by omega) fun q hq=>HG.out q hq⟩
   have hin:1≤M.inp:=hM.1
   clear hlen HSV IH HZ
   have hop15:=op_cases v1
   rcases hop15 with rfl | rfl | rfl | rfl | rfl | rfl | rfl | rfl | rfl | rfl | rfl | rfl | rfl | rfl | rfl
   ·have hfn:=ops_fn0
    try simp (maxSteps:=999999) (disch:=first | assumption | omega | (simp; done) | fail) [Tryd.results31, *]
    refine WC.mono (sem0_w 0 a b sv t0 t1 ht0 ht1 h1s _ _ _ HRG.out) ?_
    rintro _ ⟨z,rfl,hz,hsem⟩
    have HSEM:=Hide.mk hsem
    clear hsem
    try simp (maxSteps:=999999) (disch:=first | assumption | omega | (simp; done) | fail) [Tryd.results31, *]
    exact ⟨_,_,⟨rfl,rfl⟩,rfl,hge.out,z,rfl,hz,_,_,hSL.out,HSEM.out⟩
   ·have hfn:=ops_fn1
    have hv5:a < (M.rows.length:Int):=HV5.out
    obtain ⟨i,rfl⟩ : ∃ i:Nat,a=i:=⟨a.toNat,by omega⟩
    try simp (maxSteps:=999999) (disch:=first | assumption | omega | (simp; done) | fail) [Tryd.results31, *]
    refine WC.mono (sem1_w i (by show i < M.rows.length; omega) 1 b sv t0 t1 ht0 ht1 h1s _ _ _ HRG.out) ?_
    rintro _ ⟨z,rfl,hz,hsem⟩
    have HSEM:=Hide.mk hsem
    clear hsem
    try simp (maxSteps:=999999) (disch:=first | assumption | omega | (simp; done) | fail) [Tryd.results31, *]
    exact ⟨_,_,⟨rfl,rfl⟩,rfl,hge.out,z,rfl,hz,_,_,hSL.out,HSEM.out⟩
   ·have hfn:=ops_fn2
    have hv5:a < M.inp:=HV5.out
    obtain ⟨i,rfl⟩ : ∃ i:Nat,a=i:=⟨a.toNat,by omega⟩
    try simp (maxSteps:=999999) (disch:=first | assumption | omega | (simp; done) | fail) [Tryd.results31, *]
    refine WC.mono (sem2_w HMR.out HME.out i hv5 2 b sv t0 t1 ht0 ht1 h1s _ _ _ HRG.out) ?_
    rintro _ ⟨z,rfl,hz,hsem⟩
    have HSEM:=Hide.mk hsem
    clear hsem
    try simp (maxSteps:=999999) (disch:=first | assumption | omega | (simp; done) | fail) [Tryd.results31, *]
    exact ⟨_,_,⟨rfl,rfl⟩,rfl,hge.out,z,rfl,hz,_,_,hSL.out,HSEM.out⟩
   ·have hfn:=ops_fn3
    have hv5:a < M.inp:=HV5.out
    obtain ⟨i,rfl⟩ : ∃ i:Nat,a=i:=⟨a.toNat,by omega⟩
    try simp (maxSteps:=999999) (disch:=first | assumption | omega | (simp; done) | fail) [Tryd.results31, *]
    refine WC.mono (sem3_w HMR.out HME.out i hv5 3 b sv t0 t1 ht0 ht1 h1s _ _ _ HRG.out) ?_
    rintro _ ⟨z,rfl,hz,hsem⟩
    have HSEM:=Hide.mk hsem
    clear hsem
    try simp (maxSteps:=999999) (disch:=first | assumption | omega | (simp; done) | fail) [Tryd.results31, *]
    exact ⟨_,_,⟨rfl,rfl⟩,rfl,hge.out,z,rfl,hz,_,_,hSL.out,HSEM.out⟩
   ·have hfn:=ops_fn4
    try simp (maxSteps:=999999) (disch:=first | assumption | omega | (simp; done) | fail) [Tryd.results31, *]
    refine WC.mono (sem4_w 4 a b sv t0 t1 ht0 ht1 h1s _ _ _ HRG.out) ?_
    rintro _ ⟨z,rfl,hz,hsem⟩
    have HSEM:=Hide.mk hsem
    clear hsem
    try simp (maxSteps:=999999) (disch:=first | assumption | omega | (simp; done) | fail) [Tryd.results31, *]
    exact ⟨_,_,⟨rfl,rfl⟩,rfl,hge.out,z,rfl,hz,_,_,hSL.out,HSEM.out⟩
   ·have hfn:=ops_fn5
    try simp (maxSteps:=999999) (disch:=first | assumption | omega | (simp; done) | fail) [Tryd.results31, *]
    refine WC.mono (sem5_w 5 a b sv t0 t1 ht0 ht1 h1s _ _ _ HRG.out) ?_
    rintro _ ⟨z,rfl,hz,hsem⟩
    have HSEM:=Hide.mk hsem
    clear hsem
    try simp (maxSteps:=999999) (disch:=first | assumption | omega | (simp; done) | fail) [Tryd.results31, *]
    exact ⟨_,_,⟨rfl,rfl⟩,rfl,hge.out,z,rfl,hz,_,_,hSL.out,HSEM.out⟩
   ·have hfn:=ops_fn6
    try simp (maxSteps:=999999) (disch:=first | assumption | omega | (simp; done) | fail) [Tryd.results31, *]
    refine WC.mono (sem6_w 6 a b sv t0 t1 ht0 ht1 h1s _ _ _ HRG.out) ?_
    rintro _ ⟨z,rfl,hz,hsem⟩
    have HSEM:=Hide.mk hsem
    clear hsem
    try simp (maxSteps:=999999) (disch:=first | assumption | omega | (simp; done) | fail) [Tryd.results31, *]
    exact ⟨_,_,⟨rfl,rfl⟩,rfl,hge.out,z,rfl,hz,_,_,hSL.out,HSEM.out⟩
   ·have hfn:=ops_fn7
    try simp (maxSteps:=999999) (disch:=first | assumption | omega | (simp; done) | fail) [Tryd.results31, *]
    refine WC.mono (sem7_w 7 a b sv t0 t1 ht0 ht1 h1s _ _ _ HRG.out) ?_
    rintro _ ⟨z,rfl,hz,hsem⟩
    have HSEM:=Hide.mk hsem
    clear hsem
    try simp (maxSteps:=999999) (disch:=first | assumption | omega | (simp; done) | fail) [Tryd.results31, *]
    exact ⟨_,_,⟨rfl,rfl⟩,rfl,hge.out,z,rfl,hz,_,_,hSL.out,HSEM.out⟩
   ·have hfn:=ops_fn8
    try simp (maxSteps:=999999) (disch:=first | assumption | omega | (simp; done) | fail) [Tryd.results31, *]
    refine WC.mono (sem8_w 8 a b sv t0 t1 ht0 ht1 h1s _ _ _ HRG.out) ?_
    rintro _ ⟨z,rfl,hz,hsem⟩
    have HSEM:=Hide.mk hsem
    clear hsem
    try simp (maxSteps:=999999) (disch:=first | assumption | omega | (simp; done) | fail) [Tryd.results31, *]
    exact ⟨_,_,⟨rfl,rfl⟩,rfl,hge.out,z,rfl,hz,_,_,hSL.out,HSEM.out⟩
   ·have hfn:=ops_fn9
    try simp (maxSteps:=999999) (disch:=first | assumption | omega | (simp; done) | fail) [Tryd.results31, *]
    refine WC.mono (sem9_w 9 a b sv t0 t1 ht0 ht1 h1s _ _ _ HRG.out) ?_
    rintro _ ⟨z,rfl,hz,hsem⟩
    have HSEM:=Hide.mk hsem
    clear hsem
    try simp (maxSteps:=999999) (disch:=first | assumption | omega | (simp; done) | fail) [Tryd.results31, *]
    exact ⟨_,_,⟨rfl,rfl⟩,rfl,hge.out,z,rfl,hz,_,_,hSL.out,HSEM.out⟩
   ·have hfn:=ops_fn10
    try simp (maxSteps:=999999) (disch:=first | assumption | omega | (simp; done) | fail) [Tryd.results31, *]
    refine WC.mono (sem10_w 10 a b sv t0 t1 ht0 ht1 h1s _ _ _ HRG.out) ?_
    rintro _ ⟨z,rfl,hz,hsem⟩
    have HSEM:=Hide.mk hsem
    clear hsem
    try simp (maxSteps:=999999) (disch:=first | assumption | omega | (simp; done) | fail) [Tryd.results31, *]
    exact ⟨_,_,⟨rfl,rfl⟩,rfl,hge.out,z,rfl,hz,_,_,hSL.out,HSEM.out⟩
   ·have hfn:=ops_fn11
    try simp (maxSteps:=999999) (disch:=first | assumption | omega | (simp; done) | fail) [Tryd.results31, *]
    refine WC.mono (sem11_w 11 a b sv t0 t1 ht0 ht1 h1s _ _ _ HRG.out) ?_
    rintro _ ⟨z,rfl,hz,hsem⟩
    have HSEM:=Hide.mk hsem
    clear hsem
    try simp (maxSteps:=999999) (disch:=first | assumption | omega | (simp; done) | fail) [Tryd.results31, *]
    exact ⟨_,_,⟨rfl,rfl⟩,rfl,hge.out,z,rfl,hz,_,_,hSL.out,HSEM.out⟩
   ·have hfn:=ops_fn12
    try simp (maxSteps:=999999) (disch:=first | assumption | omega | (simp; done) | fail) [Tryd.results31, *]
    refine WC.mono (sem12_w 12 a b sv t0 t1 ht0 ht1 h1s _ _ _ HRG.out) ?_
    rintro _ ⟨z,rfl,hz,hsem⟩
    have HSEM:=Hide.mk hsem
    clear hsem
    try simp (maxSteps:=999999) (disch:=first | assumption | omega | (simp; done) | fail) [Tryd.results31, *]
    exact ⟨_,_,⟨rfl,rfl⟩,rfl,hge.out,z,rfl,hz,_,_,hSL.out,HSEM.out⟩
   ·have hfn:=ops_fn13
    try simp (maxSteps:=999999) (disch:=first | assumption | omega | (simp; done) | fail) [Tryd.results31, *]
    refine WC.mono (sem13_w 13 a b sv t0 t1 ht0 ht1 h1s _ _ _ HRG.out) ?_
    rintro _ ⟨z,rfl,hz,hsem⟩
    have HSEM:=Hide.mk hsem
    clear hsem
    try simp (maxSteps:=999999) (disch:=first | assumption | omega | (simp; done) | fail) [Tryd.results31, *]
    exact ⟨_,_,⟨rfl,rfl⟩,rfl,hge.out,z,rfl,hz,_,_,hSL.out,HSEM.out⟩
   ·have hfn:=ops_fn14
    try simp (maxSteps:=999999) (disch:=first | assumption | omega | (simp; done) | fail) [Tryd.results31, *]
    refine WC.mono (sem14_w 14 a b sv t0 t1 ht0 ht1 h1s _ _ _ HRG.out) ?_
    rintro _ ⟨z,rfl,hz,hsem⟩
    have HSEM:=Hide.mk hsem
    clear hsem
    try simp (maxSteps:=999999) (disch:=first | assumption | omega | (simp; done) | fail) [Tryd.results31, *]
    exact ⟨_,_,⟨rfl,rfl⟩,rfl,hge.out,z,rfl,hz,_,_,hSL.out,HSEM.out⟩
end Go.Ai
end
