/-
  Part of the proof of DefBlanks.
-/
import Derived.Test.YtamikhobdffnfaaGreatDoorBl09
import Derived.Test.YtamikhobdffnfaaGreatDoorProg
import Derived.KernelRfl
import Derived.Lib.Builder
set_option linter.all false
set_option maxRecDepth 1000000
set_option maxHeartbeats 40000000
section
namespace Go.AV
open Go Go.Proofs
def ti1:TI:=⟨.other,1,8,[.nilf]⟩
def ti2:TI:=⟨.int .i64,1,8,[.int .i64 0]⟩
def ti3:TI:=⟨.int .i64,1,8,[.int .i64 0]⟩
def ti4:TI:=⟨.bool,1,1,[.bool false]⟩
def ti5:TI:=⟨.int .u8,1,1,[.int .u8 0]⟩
def ti6:TI:=⟨.int .u8,1,1,[.int .u8 0]⟩
def ti7:TI:=⟨.struct [(0,1,false),(1,1,false),(2,1,false),(3,1,false)],4,24,[.int .i64 0,.int .i64 0,.bool false,.int .u8 0]⟩
def ti8:TI:=⟨.struct [(0,1,false),(1,1,false),(2,1,false),(3,1,false)],4,24,[.int .i64 0,.int .i64 0,.bool false,.int .u8 0]⟩
def ti9:TI:=⟨.string,1,16,[.str []]⟩
def ti10:TI:=⟨.string,1,16,[.str []]⟩
def ti11:TI:=⟨.string,1,16,[.str []]⟩
def ti12:TI:=⟨.int .u64,1,8,[.int .u64 0]⟩
def ti13:TI:=⟨.struct [(0,1,false),(1,1,false)],2,24,[.str [],.int .u64 0]⟩
def ti14:TI:=⟨.struct [(0,1,false),(1,1,false)],2,24,[.str [],.int .u64 0]⟩
def ti15:TI:=⟨.other,1,8,[.nilp]⟩
def ti16:TI:=⟨.other,1,8,[.nilp]⟩
def ti17:TI:=⟨.other,1,8,[.nilp]⟩
def ti18:TI:=⟨.struct [(0,1,false)],1,8,[.nilp]⟩
def ti19:TI:=⟨.struct [(0,1,false)],1,8,[.nilp]⟩
def ti20:TI:=⟨.iface,1,16,[.nili]⟩
def ti21:TI:=⟨.int .i32,1,4,[.int .i32 0]⟩
def ti22:TI:=⟨.other,1,8,[.nilf]⟩
def ti23:TI:=⟨.other,1,8,[.nilf]⟩
def ti24:TI:=⟨.slice 9,1,24,[.nils]⟩
def ti25:TI:=⟨.slice 104,1,24,[.nils]⟩
def ti26:TI:=⟨.slice 73,1,24,[.nils]⟩
def ti27:TI:=⟨.struct [(0,1,false),(1,1,false),(2,1,false),(3,1,false),(4,1,false)],5,120,[.nils,.nils,.nils,.nils,.nils]⟩
def ti28:TI:=⟨.struct [(0,1,false),(1,1,false),(2,1,false),(3,1,false),(4,1,false)],5,120,[.nils,.nils,.nils,.nils,.nils]⟩
def ti29:TI:=⟨.slice 80,1,24,[.nils]⟩
def ti30:TI:=⟨.slice 68,1,24,[.nils]⟩
def ti31:TI:=⟨.slice 84,1,24,[.nils]⟩
def ti32:TI:=⟨.struct [(0,1,false),(1,5,true),(6,1,false),(7,1,false),(8,1,false),(9,1,false),(10,1,false),(11,1,false),(12,1,false)],13,280,[.str [],.nils,.nils,.nils,.nils,.nils,.nils,.nils,.str [],.nils,.nils,.str [],.str []]⟩
def ti33:TI:=⟨.struct [(0,1,false),(1,5,true),(6,1,false),(7,1,false),(8,1,false),(9,1,false),(10,1,false),(11,1,false),(12,1,false)],13,280,[.str [],.nils,.nils,.nils,.nils,.nils,.nils,.nils,.str [],.nils,.nils,.str [],.str []]⟩
def ti34:TI:=⟨.int .i64,1,8,[.int .i64 0]⟩
def ti35:TI:=⟨.struct [(0,1,false),(1,1,false),(2,1,false),(3,1,false)],4,40,[.int .i64 0,.str [],.int .i64 0,.int .i64 0]⟩
def ti36:TI:=⟨.struct [(0,1,false),(1,1,false),(2,1,false),(3,1,false)],4,40,[.int .i64 0,.str [],.int .i64 0,.int .i64 0]⟩
def ti38:TI:=⟨.other,1,8,[.nilf]⟩
def ti39:TI:=⟨.other,1,8,[.nilf]⟩
def ti40:TI:=⟨.int .i64,1,8,[.int .i64 0]⟩
def ti41:TI:=⟨.slice 43,1,24,[.nils]⟩
def ti42:TI:=⟨.struct [(0,1,false),(1,1,false),(2,1,false),(3,1,false),(4,1,false),(5,1,false)],6,96,[.int .i64 0,.int .i64 0,.str [],.str [],.nils,.nils]⟩
def ti43:TI:=⟨.struct [(0,1,false),(1,1,false),(2,1,false),(3,1,false),(4,1,false),(5,1,false)],6,96,[.int .i64 0,.int .i64 0,.str [],.str [],.nils,.nils]⟩
def ti45:TI:=⟨.other,1,8,[.nilf]⟩
def ti46:TI:=⟨.other,1,8,[.nilf]⟩
def ti47:TI:=⟨.other,1,8,[.nilf]⟩
def ti48:TI:=⟨.other,1,8,[.nilf]⟩
def ti50:TI:=⟨.other,1,8,[.nilf]⟩
def ti52:TI:=⟨.other,1,8,[.nilf]⟩
def ti53:TI:=⟨.other,1,8,[.nilf]⟩
def ti54:TI:=⟨.other,1,8,[.nilf]⟩
def ti55:TI:=⟨.slice 60,1,24,[.nils]⟩
def ti57:TI:=⟨.other,1,8,[.nilf]⟩
def ti58:TI:=⟨.int .i64,1,8,[.int .i64 0]⟩
def ti59:TI:=⟨.struct [(0,1,false),(1,1,false),(2,1,false),(3,1,false),(4,1,false)],5,48,[.int .i64 0,.str [],.int .i64 0,.int .i64 0,.int .i64 0]⟩
def ti60:TI:=⟨.struct [(0,1,false),(1,1,false),(2,1,false),(3,1,false),(4,1,false)],5,48,[.int .i64 0,.str [],.int .i64 0,.int .i64 0,.int .i64 0]⟩
def ti61:TI:=⟨.other,1,8,[.nilf]⟩
def ti62:TI:=⟨.other,1,8,[.nilf]⟩
def ti63:TI:=⟨.other,1,8,[.nilf]⟩
def ti64:TI:=⟨.other,1,8,[.nilf]⟩
def ti65:TI:=⟨.other,1,8,[.nilf]⟩
def ti66:TI:=⟨.other,1,8,[.nilf]⟩
def ti67:TI:=⟨.struct [(0,1,false),(1,1,false),(2,6,true),(8,1,false),(9,1,false)],10,144,[.str [],.str [],.int .i64 0,.int .i64 0,.str [],.str [],.nils,.nils,.int .i64 0,.int .i64 0]⟩
def ti68:TI:=⟨.struct [(0,1,false),(1,1,false),(2,6,true),(8,1,false),(9,1,false)],10,144,[.str [],.str [],.int .i64 0,.int .i64 0,.str [],.str [],.nils,.nils,.int .i64 0,.int .i64 0]⟩
def ti69:TI:=⟨.slice 143,1,24,[.nils]⟩
def ti70:TI:=⟨.int .i64,1,8,[.int .i64 0]⟩
def ti71:TI:=⟨.slice 3,1,24,[.nils]⟩
def ti72:TI:=⟨.struct [(0,1,false),(1,1,false),(2,1,false),(3,1,false),(4,1,false),(5,1,false),(6,1,false)],7,120,[.str [],.nils,.str [],.nils,.int .i64 0,.int .i64 0,.nils]⟩
def ti73:TI:=⟨.struct [(0,1,false),(1,1,false),(2,1,false),(3,1,false),(4,1,false),(5,1,false),(6,1,false)],7,120,[.str [],.nils,.str [],.nils,.int .i64 0,.int .i64 0,.nils]⟩
def ti74:TI:=⟨.other,1,8,[.nilp]⟩
def ti76:TI:=⟨.other,1,8,[.nilf]⟩
def ti77:TI:=⟨.other,1,8,[.nilf]⟩
def ti78:TI:=⟨.other,1,8,[.nilf]⟩
def ti79:TI:=⟨.struct [(0,6,true),(6,6,true),(12,1,false),(13,1,false),(14,1,false)],15,232,[.int .i64 0,.int .i64 0,.str [],.str [],.nils,.nils,.int .i64 0,.int .i64 0,.str [],.str [],.nils,.nils,.nils,.int .i64 0,.int .i64 0]⟩
def ti80:TI:=⟨.struct [(0,6,true),(6,6,true),(12,1,false),(13,1,false),(14,1,false)],15,232,[.int .i64 0,.int .i64 0,.str [],.str [],.nils,.nils,.int .i64 0,.int .i64 0,.str [],.str [],.nils,.nils,.nils,.int .i64 0,.int .i64 0]⟩
def ti81:TI:=⟨.slice 86,1,24,[.nils]⟩
def ti82:TI:=⟨.slice 141,1,24,[.nils]⟩
def ti83:TI:=⟨.struct [(0,1,false),(1,1,false),(2,1,false),(3,1,false),(4,1,false),(5,1,false),(6,1,false)],7,128,[.str [],.nils,.nils,.nils,.nils,.int .i64 0,.int .i64 0]⟩
def ti84:TI:=⟨.struct [(0,1,false),(1,1,false),(2,1,false),(3,1,false),(4,1,false),(5,1,false),(6,1,false)],7,128,[.str [],.nils,.nils,.nils,.nils,.int .i64 0,.int .i64 0]⟩
def ti85:TI:=⟨.struct [(0,1,false),(1,1,false),(2,6,true),(8,1,false),(9,1,false),(10,1,false)],11,168,[.str [],.str [],.int .i64 0,.int .i64 0,.str [],.str [],.nils,.nils,.nils,.int .i64 0,.int .i64 0]⟩
def ti86:TI:=⟨.struct [(0,1,false),(1,1,false),(2,6,true),(8,1,false),(9,1,false),(10,1,false)],11,168,[.str [],.str [],.int .i64 0,.int .i64 0,.str [],.str [],.nils,.nils,.nils,.int .i64 0,.int .i64 0]⟩
def ti87:TI:=⟨.other,1,8,[.nilf]⟩
def ti88:TI:=⟨.other,1,8,[.nilp]⟩
def ti89:TI:=⟨.other,1,8,[.nilf]⟩
def ti90:TI:=⟨.struct [(0,1,false),(1,1,false),(2,4,true),(6,13,true),(19,5,true),(24,1,false),(25,1,false)],26,416,[.nils,.int .i64 0,.int .i64 0,.str [],.int .i64 0,.int .i64 0,.str [],.nils,.nils,.nils,.nils,.nils,.nils,.nils,.str [],.nils,.nils,.str [],.str [],.int .i64 0,.str [],.int .i64 0,.int .i64 0,.int .i64 0,.int .i64 0,.bool false]⟩
def ti91:TI:=⟨.struct [(0,1,false),(1,1,false),(2,4,true),(6,13,true),(19,5,true),(24,1,false),(25,1,false)],26,416,[.nils,.int .i64 0,.int .i64 0,.str [],.int .i64 0,.int .i64 0,.str [],.nils,.nils,.nils,.nils,.nils,.nils,.nils,.str [],.nils,.nils,.str [],.str [],.int .i64 0,.str [],.int .i64 0,.int .i64 0,.int .i64 0,.int .i64 0,.bool false]⟩
def ti92:TI:=⟨.other,1,8,[.nilf]⟩
def ti93:TI:=⟨.other,1,8,[.nilp]⟩
def ti94:TI:=⟨.struct [(0,1,false),(1,1,false),(2,1,false),(3,1,false),(4,4,true),(8,1,false),(9,1,false),(10,1,false),(11,13,true)],24,392,[.nils,.int .i64 0,.int .i64 0,.int .i64 0,.int .i64 0,.str [],.int .i64 0,.int .i64 0,.int .i64 0,.int .i64 0,.bool false,.str [],.nils,.nils,.nils,.nils,.nils,.nils,.nils,.str [],.nils,.nils,.str [],.str []]⟩
def ti95:TI:=⟨.struct [(0,1,false),(1,1,false),(2,1,false),(3,1,false),(4,4,true),(8,1,false),(9,1,false),(10,1,false),(11,13,true)],24,392,[.nils,.int .i64 0,.int .i64 0,.int .i64 0,.int .i64 0,.str [],.int .i64 0,.int .i64 0,.int .i64 0,.int .i64 0,.bool false,.str [],.nils,.nils,.nils,.nils,.nils,.nils,.nils,.str [],.nils,.nils,.str [],.str []]⟩
def ti97:TI:=⟨.other,1,8,[.nilf]⟩
def ti98:TI:=⟨.other,1,8,[.nilf]⟩
def ti99:TI:=⟨.other,1,8,[.nilf]⟩
def ti100:TI:=⟨.other,1,8,[.nilf]⟩
def ti101:TI:=⟨.other,1,8,[.nilf]⟩
def ti102:TI:=⟨.other,1,8,[.nilf]⟩
def ti103:TI:=⟨.struct [(0,1,false),(1,1,false)],2,32,[.str [],.str []]⟩
def ti104:TI:=⟨.struct [(0,1,false),(1,1,false)],2,32,[.str [],.str []]⟩
def ti105:TI:=⟨.other,1,8,[.nilf]⟩
def ti106:TI:=⟨.other,1,8,[.nilf]⟩
def ti107:TI:=⟨.other,1,8,[.nilf]⟩
def ti108:TI:=⟨.other,1,8,[.nilf]⟩
def ti109:TI:=⟨.other,1,8,[.nilf]⟩
def ti110:TI:=⟨.other,1,8,[.nilp]⟩
def ti112:TI:=⟨.other,1,8,[.nilf]⟩
def ti113:TI:=⟨.other,1,8,[.nilf]⟩
def ti114:TI:=⟨.other,1,8,[.nilf]⟩
def ti115:TI:=⟨.other,1,8,[.nilf]⟩
def ti116:TI:=⟨.other,1,8,[.nilf]⟩
def ti117:TI:=⟨.other,1,8,[.nilf]⟩
def ti118:TI:=⟨.other,1,8,[.nilf]⟩
def ti119:TI:=⟨.other,1,8,[.nilf]⟩
def ti120:TI:=⟨.other,1,8,[.nilf]⟩
def ti121:TI:=⟨.other,1,8,[.nilf]⟩
def ti122:TI:=⟨.other,1,8,[.nilf]⟩
def ti123:TI:=⟨.other,1,8,[.nilf]⟩
def ti124:TI:=⟨.other,1,8,[.nilf]⟩
def ti125:TI:=⟨.other,1,8,[.nilf]⟩
def ti126:TI:=⟨.other,1,8,[.nilf]⟩
def ti127:TI:=⟨.other,1,8,[.nilf]⟩
def ti128:TI:=⟨.other,1,8,[.nilf]⟩
def ti129:TI:=⟨.other,1,8,[.nilf]⟩
def ti130:TI:=⟨.other,1,8,[.nilf]⟩
def ti131:TI:=⟨.other,1,8,[.nilf]⟩
def ti132:TI:=⟨.other,1,8,[.nilf]⟩
def ti133:TI:=⟨.other,1,8,[.nilf]⟩
def ti134:TI:=⟨.other,1,8,[.nilf]⟩
def ti135:TI:=⟨.other,1,8,[.nilf]⟩
def ti136:TI:=⟨.other,1,8,[.nilp]⟩
def ti137:TI:=⟨.struct [(0,1,false),(1,1,false),(2,1,false),(3,1,false),(4,1,false),(5,1,false),(6,4,true)],10,128,[.str [],.int .i64 0,.int .i64 0,.int .i64 0,.nils,.nils,.int .i64 0,.str [],.int .i64 0,.int .i64 0]⟩
def ti138:TI:=⟨.struct [(0,1,false),(1,1,false),(2,1,false),(3,1,false),(4,1,false),(5,1,false),(6,4,true)],10,128,[.str [],.int .i64 0,.int .i64 0,.int .i64 0,.nils,.nils,.int .i64 0,.str [],.int .i64 0,.int .i64 0]⟩
def ti139:TI:=⟨.other,1,8,[.nilf]⟩
def ti140:TI:=⟨.struct [(0,1,false)],1,24,[.nils]⟩
def ti141:TI:=⟨.struct [(0,1,false)],1,24,[.nils]⟩
def ti142:TI:=⟨.struct [(0,1,false),(1,1,false)],2,32,[.str [],.str []]⟩
def ti143:TI:=⟨.struct [(0,1,false),(1,1,false)],2,32,[.str [],.str []]⟩
def ti144:TI:=⟨.other,1,8,[.nilf]⟩
def ti145:TI:=⟨.other,1,8,[.nilf]⟩
def ti146:TI:=⟨.slice 147,1,24,[.nils]⟩
def ti147:TI:=⟨.slice 156,1,24,[.nils]⟩
def ti148:TI:=⟨.struct [(0,1,false),(1,1,false)],2,48,[.nils,.nils]⟩
def ti149:TI:=⟨.struct [(0,1,false),(1,1,false)],2,48,[.nils,.nils]⟩
def ti150:TI:=⟨.other,1,8,[.nilf]⟩
def ti151:TI:=⟨.other,1,8,[.nilp]⟩
def ti152:TI:=⟨.slice 5,1,24,[.nils]⟩
def ti153:TI:=⟨.struct [(0,1,false),(1,1,false)],2,32,[.nilp,.nils]⟩
def ti154:TI:=⟨.struct [(0,1,false),(1,1,false)],2,32,[.nilp,.nils]⟩
def ti155:TI:=⟨.struct [(0,1,false),(1,1,false)],2,24,[.str [],.bool false]⟩
def ti156:TI:=⟨.struct [(0,1,false),(1,1,false)],2,24,[.str [],.bool false]⟩
def ti157:TI:=⟨.iface,1,16,[.nili]⟩
def ti158:TI:=⟨.iface,1,16,[.nili]⟩
def ti160:TI:=⟨.other,1,8,[.nilf]⟩
def ti161:TI:=⟨.other,1,8,[.nilf]⟩
def ti162:TI:=⟨.other,1,8,[.nilf]⟩
def ti164:TI:=⟨.other,1,8,[.nilf]⟩
def ti165:TI:=⟨.other,1,8,[.nilf]⟩
def ti166:TI:=⟨.other,1,8,[.nilf]⟩
def ti167:TI:=⟨.other,1,8,[.nilf]⟩
def ti168:TI:=⟨.other,1,8,[.nilf]⟩
def ti169:TI:=⟨.other,1,8,[.nilf]⟩
def ti170:TI:=⟨.struct [(0,1,false),(1,1,false)],2,32,[.str [],.str []]⟩
def ti171:TI:=⟨.struct [(0,1,false),(1,1,false)],2,32,[.str [],.str []]⟩
def ti172:TI:=⟨.other,1,8,[.nilf]⟩
def ti173:TI:=⟨.other,1,8,[.nilf]⟩
def ti174:TI:=⟨.other,1,8,[.nilf]⟩
def ti175:TI:=⟨.other,1,8,[.nilf]⟩
def ti176:TI:=⟨.other,1,8,[.nilf]⟩
def ti177:TI:=⟨.other,1,8,[.nilf]⟩
def ti178:TI:=⟨.other,1,8,[.nilf]⟩
def ti179:TI:=⟨.other,1,8,[.nilf]⟩
def ti180:TI:=⟨.other,1,8,[.nilf]⟩
def ti181:TI:=⟨.other,1,8,[.nilf]⟩
def ti182:TI:=⟨.other,1,8,[.nilf]⟩
def ti183:TI:=⟨.struct [(0,1,false),(1,1,false)],2,16,[.int .i64 0,.bool false]⟩
def ti184:TI:=⟨.struct [(0,1,false),(1,1,false)],2,16,[.int .i64 0,.bool false]⟩
def ti185:TI:=⟨.other,1,8,[.nilf]⟩
def ti186:TI:=⟨.struct [(0,2,true)],2,32,[.nilp,.nils]⟩
def ti187:TI:=⟨.struct [(0,2,true)],2,32,[.nilp,.nils]⟩
def ti188:TI:=⟨.other,1,8,[.nilf]⟩
def ti189:TI:=⟨.other,1,8,[.nilf]⟩
def ti190:TI:=⟨.other,1,8,[.nilf]⟩
def ti191:TI:=⟨.other,1,8,[.nilp]⟩
def ti192:TI:=⟨.slice 4,1,24,[.nils]⟩
def ti193:TI:=⟨.other,1,8,[.nilf]⟩
def ti194:TI:=⟨.other,1,8,[.nilf]⟩
def ti195:TI:=⟨.other,1,8,[.nilf]⟩
def ti196:TI:=⟨.other,1,8,[.nilf]⟩
def ti197:TI:=⟨.other,1,8,[.nilf]⟩
def ti198:TI:=⟨.other,1,8,[.nilf]⟩
def ti199:TI:=⟨.other,1,8,[.nilf]⟩
def ti200:TI:=⟨.other,1,8,[.nilf]⟩
def ti201:TI:=⟨.other,1,8,[.nilf]⟩
def ti202:TI:=⟨.other,1,8,[.nilf]⟩
def ti203:TI:=⟨.other,1,8,[.nilf]⟩
def ti204:TI:=⟨.other,1,8,[.nilf]⟩
def ti205:TI:=⟨.other,1,8,[.nilf]⟩
def ti206:TI:=⟨.other,1,8,[.nilf]⟩
def ti207:TI:=⟨.other,1,8,[.nilf]⟩
def ti208:TI:=⟨.other,1,8,[.nilf]⟩
def ti209:TI:=⟨.other,1,8,[.nilf]⟩
def ti210:TI:=⟨.other,1,8,[.nilp]⟩
def ti211:TI:=⟨.other,1,8,[.nilf]⟩
def ti212:TI:=⟨.other,1,8,[.nilf]⟩
def ti213:TI:=⟨.other,1,8,[.nilf]⟩
def ti214:TI:=⟨.other,1,8,[.nilf]⟩
def ti215:TI:=⟨.other,1,8,[.nilf]⟩
def ti216:TI:=⟨.other,1,8,[.nilf]⟩
def ti217:TI:=⟨.other,1,8,[.nilf]⟩
def ti218:TI:=⟨.other,1,8,[.nilf]⟩
def ti219:TI:=⟨.other,1,8,[.nilf]⟩
def ti220:TI:=⟨.other,1,8,[.nilf]⟩
def ti221:TI:=⟨.other,1,8,[.nilp]⟩
def ti222:TI:=⟨.other,1,8,[.nilp]⟩
def ti223:TI:=⟨.other,1,8,[.nilf]⟩
def ti224:TI:=⟨.other,1,8,[.nilp]⟩
def ti225:TI:=⟨.struct [(0,1,false),(1,1,false),(2,1,false),(3,1,false),(4,1,false),(5,1,false)],6,72,[.str [],.int .i64 0,.int .i64 0,.int .i64 0,.nils,.bool false]⟩
def ti226:TI:=⟨.struct [(0,1,false),(1,1,false),(2,1,false),(3,1,false),(4,1,false),(5,1,false)],6,72,[.str [],.int .i64 0,.int .i64 0,.int .i64 0,.nils,.bool false]⟩
def ti227:TI:=⟨.other,1,8,[.nilf]⟩
def ti228:TI:=⟨.other,1,8,[.nilf]⟩
def ti229:TI:=⟨.other,1,8,[.nilf]⟩
def ti230:TI:=⟨.other,1,8,[.nilp]⟩
def ti231:TI:=⟨.other,1,8,[.nilf]⟩
def ti232:TI:=⟨.other,1,8,[.nilf]⟩
def ti233:TI:=⟨.other,1,8,[.nilp]⟩
def ti234:TI:=⟨.other,1,8,[.nilf]⟩
def ti235:TI:=⟨.other,1,8,[.nilf]⟩
def ti236:TI:=⟨.other,1,8,[.nilf]⟩
def ti237:TI:=⟨.other,1,8,[.nilf]⟩
def ti238:TI:=⟨.other,1,8,[.nilf]⟩
def ti239:TI:=⟨.other,1,8,[.nilf]⟩
def ti240:TI:=⟨.other,1,8,[.nilf]⟩
def ti241:TI:=⟨.other,1,8,[.nilf]⟩
def ti242:TI:=⟨.other,1,8,[.nilf]⟩
def ti243:TI:=⟨.other,1,8,[.nilf]⟩
def ti244:TI:=⟨.other,1,8,[.nilf]⟩
def ti245:TI:=⟨.other,1,8,[.nilf]⟩
def ti246:TI:=⟨.other,1,8,[.nilf]⟩
def ti247:TI:=⟨.other,1,8,[.nilf]⟩
def ti248:TI:=⟨.slice 41,1,24,[.nils]⟩
def ti249:TI:=⟨.other,1,8,[.nilf]⟩
def ti250:TI:=⟨.other,1,8,[.nilf]⟩
def ti251:TI:=⟨.other,1,8,[.nilf]⟩
def ti252:TI:=⟨.other,1,8,[.nilf]⟩
def ti253:TI:=⟨.other,1,8,[.nilp]⟩
def ti254:TI:=⟨.other,1,8,[.nilf]⟩
def ti255:TI:=⟨.array 256 5,256,256,List.replicate 256 (.int .u8 0)⟩
def ti256:TI:=⟨.other,1,8,[.nilf]⟩
def ti257:TI:=⟨.other,1,8,[.nilf]⟩
def ti258:TI:=⟨.other,1,8,[.nilf]⟩
def ti259:TI:=⟨.other,1,8,[.nilf]⟩
def ti260:TI:=⟨.other,1,8,[.nilf]⟩
def ti261:TI:=⟨.other,1,8,[.nilf]⟩
def ti262:TI:=⟨.other,1,8,[.nilf]⟩
def ti264:TI:=⟨.other,1,8,[.nilf]⟩
def ti265:TI:=⟨.other,1,8,[.nilf]⟩
def ti266:TI:=⟨.other,1,8,[.nilf]⟩
def ti267:TI:=⟨.other,1,8,[.nilf]⟩
def ti268:TI:=⟨.slice 30,1,24,[.nils]⟩
def ti269:TI:=⟨.other,1,8,[.nilf]⟩
def ti270:TI:=⟨.other,1,8,[.nilf]⟩
def ti271:TI:=⟨.other,1,8,[.nilf]⟩
def ti272:TI:=⟨.other,1,8,[.nilf]⟩
def ti273:TI:=⟨.other,1,8,[.nilf]⟩
def ti274:TI:=⟨.slice 276,1,24,[.nils]⟩
def ti275:TI:=⟨.struct [(0,1,false),(1,1,false)],2,16,[.int .i64 0,.int .i64 0]⟩
def ti276:TI:=⟨.struct [(0,1,false),(1,1,false)],2,16,[.int .i64 0,.int .i64 0]⟩
def ti277:TI:=⟨.int .u32,1,4,[.int .u32 0]⟩
def ti278:TI:=⟨.other,1,8,[.nilf]⟩
def ti279:TI:=⟨.other,1,8,[.nilp]⟩
def ti280:TI:=⟨.other,1,8,[.nilf]⟩
def ti281:TI:=⟨.other,1,8,[.nilf]⟩
def ti282:TI:=⟨.int .u64,1,8,[.int .u64 0]⟩
def ti283:TI:=⟨.array 24 5,24,24,[.int .u8 0,.int .u8 0,.int .u8 0,.int .u8 0,.int .u8 0,.int .u8 0,.int .u8 0,.int .u8 0,.int .u8 0,.int .u8 0,.int .u8 0,.int .u8 0,.int .u8 0,.int .u8 0,.int .u8 0,.int .u8 0,.int .u8 0,.int .u8 0,.int .u8 0,.int .u8 0,.int .u8 0,.int .u8 0,.int .u8 0,.int .u8 0]⟩
def ti284:TI:=⟨.int .u64,1,8,[.int .u64 0]⟩
def ti285:TI:=⟨.other,1,8,[.nilf]⟩
def ti286:TI:=⟨.other,1,8,[.nilf]⟩
def ti288:TI:=⟨.other,1,8,[.nilf]⟩
def ti289:TI:=⟨.slice 295,1,24,[.nils]⟩
def ti290:TI:=⟨.slice 298,1,24,[.nils]⟩
def ti291:TI:=⟨.struct [(0,1,false),(1,1,false),(2,1,false)],3,56,[.nils,.nils,.int .i64 0]⟩
def ti292:TI:=⟨.struct [(0,1,false),(1,1,false),(2,1,false)],3,56,[.nils,.nils,.int .i64 0]⟩
def ti293:TI:=⟨.int .u16,1,2,[.int .u16 0]⟩
def ti294:TI:=⟨.struct [(0,1,false),(1,1,false),(2,1,false)],3,6,[.int .u16 0,.int .u16 0,.int .u16 0]⟩
def ti295:TI:=⟨.struct [(0,1,false),(1,1,false),(2,1,false)],3,6,[.int .u16 0,.int .u16 0,.int .u16 0]⟩
def ti296:TI:=⟨.other,1,8,[.nilf]⟩
def ti297:TI:=⟨.struct [(0,1,false),(1,1,false),(2,1,false)],3,12,[.int .u32 0,.int .u32 0,.int .u32 0]⟩
def ti298:TI:=⟨.struct [(0,1,false),(1,1,false),(2,1,false)],3,12,[.int .u32 0,.int .u32 0,.int .u32 0]⟩
def ti299:TI:=⟨.other,1,8,[.nilf]⟩
def ti301:TI:=⟨.other,1,8,[.nilf]⟩
def ti302:TI:=⟨.other,1,8,[.nilf]⟩
def ti303:TI:=⟨.array 20 284,20,160,[.int .u64 0,.int .u64 0,.int .u64 0,.int .u64 0,.int .u64 0,.int .u64 0,.int .u64 0,.int .u64 0,.int .u64 0,.int .u64 0,.int .u64 0,.int .u64 0,.int .u64 0,.int .u64 0,.int .u64 0,.int .u64 0,.int .u64 0,.int .u64 0,.int .u64 0,.int .u64 0]⟩
def ti305:TI:=⟨.other,1,8,[.nilf]⟩
def ti306:TI:=⟨.other,1,8,[.nilp]⟩
def ti307:TI:=⟨.other,1,8,[.nilp]⟩
def ti308:TI:=⟨.other,1,8,[.nilf]⟩
def ti312:TI:=⟨.other,1,8,[.nilf]⟩
def ti313:TI:=⟨.other,1,8,[.nilf]⟩
def ti314:TI:=⟨.other,1,8,[.nilp]⟩
def ti315:TI:=⟨.other,1,8,[.nilf]⟩
def ti316:TI:=⟨.other,1,8,[.nilf]⟩
def ti318:TI:=⟨.other,1,8,[.nilf]⟩
def ti319:TI:=⟨.other,1,8,[.nilf]⟩
def ti320:TI:=⟨.int .i64,1,8,[.int .i64 0]⟩
def ti322:TI:=⟨.other,1,8,[.nilf]⟩
def ti323:TI:=⟨.other,1,8,[.nilp]⟩
def ti324:TI:=⟨.other,1,8,[.nilf]⟩
def ti325:TI:=⟨.other,1,8,[.nilf]⟩
def ti326:TI:=⟨.array 32 5,32,32,[.int .u8 0,.int .u8 0,.int .u8 0,.int .u8 0,.int .u8 0,.int .u8 0,.int .u8 0,.int .u8 0,.int .u8 0,.int .u8 0,.int .u8 0,.int .u8 0,.int .u8 0,.int .u8 0,.int .u8 0,.int .u8 0,.int .u8 0,.int .u8 0,.int .u8 0,.int .u8 0,.int .u8 0,.int .u8 0,.int .u8 0,.int .u8 0,.int .u8 0,.int .u8 0,.int .u8 0,.int .u8 0,.int .u8 0,.int .u8 0,.int .u8 0,.int .u8 0]⟩
def ti328:TI:=⟨.other,1,8,[.nilf]⟩
def ti330:TI:=⟨.other,1,8,[.nilf]⟩
def ti331:TI:=⟨.struct [(0,1,false),(1,1,false),(2,1,false)],3,48,[.str [],.str [],.nili]⟩
def ti332:TI:=⟨.struct [(0,1,false),(1,1,false),(2,1,false)],3,48,[.str [],.str [],.nili]⟩
def ti333:TI:=⟨.other,1,8,[.nilf]⟩
def ti334:TI:=⟨.struct [(0,1,false),(1,1,false)],2,2,[.int .u8 0,.int .u8 0]⟩
def ti335:TI:=⟨.struct [(0,1,false),(1,1,false)],2,2,[.int .u8 0,.int .u8 0]⟩
def ti336:TI:=⟨.array 16 335,32,32,[.int .u8 0,.int .u8 0,.int .u8 0,.int .u8 0,.int .u8 0,.int .u8 0,.int .u8 0,.int .u8 0,.int .u8 0,.int .u8 0,.int .u8 0,.int .u8 0,.int .u8 0,.int .u8 0,.int .u8 0,.int .u8 0,.int .u8 0,.int .u8 0,.int .u8 0,.int .u8 0,.int .u8 0,.int .u8 0,.int .u8 0,.int .u8 0,.int .u8 0,.int .u8 0,.int .u8 0,.int .u8 0,.int .u8 0,.int .u8 0,.int .u8 0,.int .u8 0]⟩
def ti337:TI:=⟨.other,1,8,[.nilf]⟩
def ti338:TI:=⟨.other,1,8,[.nilp]⟩
def ti339:TI:=⟨.struct [(0,1,false)],1,16,[.str []]⟩
def ti340:TI:=⟨.struct [(0,1,false)],1,16,[.str []]⟩
def ti341:TI:=⟨.struct [(0,1,false),(1,1,false),(2,1,false),(3,1,false)],4,40,[.nilp,.nilp,.nilp,.str []]⟩
def ti342:TI:=⟨.struct [(0,1,false),(1,1,false),(2,1,false),(3,1,false)],4,40,[.nilp,.nilp,.nilp,.str []]⟩
def ti343:TI:=⟨.array 0 16,0,0,[]⟩
def ti346:TI:=⟨.int .u8,1,1,[.int .u8 0]⟩
def ti347:TI:=⟨.int .u8,1,1,[.int .u8 0]⟩
def ti348:TI:=⟨.other,1,8,[.nilf]⟩
def ti349:TI:=⟨.int .i32,1,4,[.int .i32 0]⟩
def ti350:TI:=⟨.int .i32,1,4,[.int .i32 0]⟩
def ti351:TI:=⟨.struct [(0,1,false),(1,1,false),(2,1,false),(3,1,false),(4,1,false),(5,1,false),(6,1,false),(7,1,false),(8,1,false),(9,1,false),(10,1,false)],11,48,[.int .u64 0,.int .u64 0,.int .u32 0,.int .u8 0,.int .u8 0,.int .u8 0,.int .u8 0,.nilf,.nilp,.int .i32 0,.int .i32 0]⟩
def ti352:TI:=⟨.struct [(0,1,false),(1,1,false),(2,1,false),(3,1,false),(4,1,false),(5,1,false),(6,1,false),(7,1,false),(8,1,false),(9,1,false),(10,1,false)],11,48,[.int .u64 0,.int .u64 0,.int .u32 0,.int .u8 0,.int .u8 0,.int .u8 0,.int .u8 0,.nilf,.nilp,.int .i32 0,.int .i32 0]⟩
set_option maxRecDepth 100000 in
def ttT:Tr TI:=(.nd (.nd (.nd (.nd (.nd (.nd (.nd (.nd (.nd .lf (some ti255) .lf) (some ti127) .lf) (some ti63) (.nd (.nd .lf (some ti319) .lf) (some ti191) .lf)) (some ti31) (.nd .lf (some ti95) (.nd (.nd .lf (some ti351) .lf) (some ti223) .lf))) (some ti15) (.nd (.nd (.nd (.nd .lf (some ti271) .lf) (some ti143) .lf) (some ti79) (.nd (.nd .lf (some ti335) .lf) (some ti207) .lf)) (some ti47) (.nd (.nd (.nd .lf (some ti303) .lf) (some ti175) .lf) none (.nd .lf (some ti239) .lf)))) (some ti7) (.nd (.nd (.nd (.nd .lf (some ti135) .lf) (some ti71) (.nd .lf (some ti199) .lf)) (some ti39) (.nd (.nd (.nd .lf (some ti295) .lf) (some ti167) .lf) (some ti103) (.nd .lf (some ti231) .lf))) (some ti23) (.nd (.nd (.nd (.nd .lf (some ti279) .lf) (some ti151) .lf) (some ti87) (.nd (.nd .lf (some ti343) .lf) (some ti215) .lf)) (some ti55) (.nd (.nd .lf (some ti183) .lf) (some ti119) (.nd .lf (some ti247) .lf))))) (some ti3) (.nd (.nd (.nd (.nd (.nd (.nd .lf (some ti259) .lf) (some ti131) .lf) (some ti67) (.nd (.nd .lf (some ti323) .lf) (some ti195) .lf)) (some ti35) (.nd (.nd (.nd .lf (some ti291) .lf) none .lf) (some ti99) (.nd .lf (some ti227) .lf))) (some ti19) (.nd (.nd (.nd (.nd .lf (some ti275) .lf) (some ti147) .lf) (some ti83) (.nd (.nd .lf (some ti339) .lf) (some ti211) .lf)) none (.nd (.nd (.nd .lf (some ti307) .lf) (some ti179) .lf) (some ti115) (.nd .lf (some ti243) .lf)))) (some ti11) (.nd (.nd (.nd (.nd (.nd .lf (some ti267) .lf) (some ti139) .lf) none (.nd (.nd .lf (some ti331) .lf) (some ti203) .lf)) (some ti43) (.nd (.nd (.nd .lf (some ti299) .lf) (some ti171) .lf) (some ti107) (.nd .lf (some ti235) .lf))) (some ti27) (.nd (.nd (.nd (.nd .lf (some ti283) .lf) (some ti155) .lf) (some ti91) (.nd (.nd .lf (some ti347) .lf) (some ti219) .lf)) (some ti59) (.nd (.nd (.nd .lf (some ti315) .lf) (some ti187) .lf) (some ti123) (.nd .lf (some ti251) .lf)))))) (some ti1) (.nd (.nd (.nd (.nd (.nd (.nd (.nd .lf (some ti257) .lf) (some ti129) .lf) (some ti65) (.nd .lf (some ti193) .lf)) (some ti33) (.nd (.nd (.nd .lf (some ti289) .lf) (some ti161) .lf) (some ti97) (.nd .lf (some ti225) .lf))) (some ti17) (.nd (.nd (.nd (.nd .lf (some ti273) .lf) (some ti145) .lf) (some ti81) (.nd (.nd .lf (some ti337) .lf) (some ti209) .lf)) none (.nd (.nd (.nd .lf (some ti305) .lf) (some ti177) .lf) (some ti113) (.nd .lf (some ti241) .lf)))) (some ti9) (.nd (.nd (.nd (.nd (.nd .lf (some ti265) .lf) (some ti137) .lf) (some ti73) (.nd .lf (some ti201) .lf)) (some ti41) (.nd (.nd (.nd .lf (some ti297) .lf) (some ti169) .lf) (some ti105) (.nd .lf (some ti233) .lf))) (some ti25) (.nd (.nd (.nd (.nd .lf (some ti281) .lf) (some ti153) .lf) (some ti89) (.nd .lf (some ti217) .lf)) (some ti57) (.nd (.nd (.nd .lf (some ti313) .lf) (some ti185) .lf) (some ti121) (.nd .lf (some ti249) .lf))))) (some ti5) (.nd (.nd (.nd (.nd (.nd (.nd .lf (some ti261) .lf) (some ti133) .lf) (some ti69) (.nd (.nd .lf (some ti325) .lf) (some ti197) .lf)) none (.nd (.nd (.nd .lf (some ti293) .lf) (some ti165) .lf) (some ti101) (.nd .lf (some ti229) .lf))) (some ti21) (.nd (.nd (.nd (.nd .lf (some ti277) .lf) (some ti149) .lf) (some ti85) (.nd (.nd .lf (some ti341) .lf) (some ti213) .lf)) (some ti53) (.nd (.nd .lf (some ti181) .lf) (some ti117) (.nd .lf (some ti245) .lf)))) (some ti13) (.nd (.nd (.nd (.nd (.nd .lf (some ti269) .lf) (some ti141) .lf) (some ti77) (.nd (.nd .lf (some ti333) .lf) (some ti205) .lf)) (some ti45) (.nd (.nd (.nd .lf (some ti301) .lf) (some ti173) .lf) (some ti109) (.nd .lf (some ti237) .lf))) (some ti29) (.nd (.nd (.nd (.nd .lf (some ti285) .lf) (some ti157) .lf) (some ti93) (.nd (.nd .lf (some ti349) .lf) (some ti221) .lf)) (some ti61) (.nd (.nd .lf (some ti189) .lf) (some ti125) (.nd .lf (some ti253) .lf))))))) none (.nd (.nd (.nd (.nd (.nd (.nd (.nd (.nd .lf (some ti256) .lf) (some ti128) .lf) (some ti64) (.nd (.nd .lf (some ti320) .lf) (some ti192) .lf)) (some ti32) (.nd (.nd (.nd .lf (some ti288) .lf) (some ti160) .lf) none (.nd (.nd .lf (some ti352) .lf) (some ti224) .lf))) (some ti16) (.nd (.nd (.nd (.nd .lf (some ti272) .lf) (some ti144) .lf) (some ti80) (.nd (.nd .lf (some ti336) .lf) (some ti208) .lf)) (some ti48) (.nd (.nd .lf (some ti176) .lf) (some ti112) (.nd .lf (some ti240) .lf)))) (some ti8) (.nd (.nd (.nd (.nd (.nd .lf (some ti264) .lf) (some ti136) .lf) (some ti72) (.nd (.nd .lf (some ti328) .lf) (some ti200) .lf)) (some ti40) (.nd (.nd (.nd .lf (some ti296) .lf) (some ti168) .lf) (some ti104) (.nd .lf (some ti232) .lf))) (some ti24) (.nd (.nd (.nd (.nd .lf (some ti280) .lf) (some ti152) .lf) (some ti88) (.nd .lf (some ti216) .lf)) none (.nd (.nd (.nd .lf (some ti312) .lf) (some ti184) .lf) (some ti120) (.nd .lf (some ti248) .lf))))) (some ti4) (.nd (.nd (.nd (.nd (.nd (.nd .lf (some ti260) .lf) (some ti132) .lf) (some ti68) (.nd (.nd .lf (some ti324) .lf) (some ti196) .lf)) (some ti36) (.nd (.nd (.nd .lf (some ti292) .lf) (some ti164) .lf) (some ti100) (.nd .lf (some ti228) .lf))) (some ti20) (.nd (.nd (.nd (.nd .lf (some ti276) .lf) (some ti148) .lf) (some ti84) (.nd (.nd .lf (some ti340) .lf) (some ti212) .lf)) (some ti52) (.nd (.nd (.nd .lf (some ti308) .lf) (some ti180) .lf) (some ti116) (.nd .lf (some ti244) .lf)))) (some ti12) (.nd (.nd (.nd (.nd (.nd .lf (some ti268) .lf) (some ti140) .lf) (some ti76) (.nd (.nd .lf (some ti332) .lf) (some ti204) .lf)) none (.nd (.nd .lf (some ti172) .lf) (some ti108) (.nd .lf (some ti236) .lf))) (some ti28) (.nd (.nd (.nd (.nd .lf (some ti284) .lf) (some ti156) .lf) (some ti92) (.nd (.nd .lf (some ti348) .lf) (some ti220) .lf)) (some ti60) (.nd (.nd (.nd .lf (some ti316) .lf) (some ti188) .lf) (some ti124) (.nd .lf (some ti252) .lf)))))) (some ti2) (.nd (.nd (.nd (.nd (.nd (.nd (.nd .lf (some ti258) .lf) (some ti130) .lf) (some ti66) (.nd (.nd .lf (some ti322) .lf) (some ti194) .lf)) (some ti34) (.nd (.nd (.nd .lf (some ti290) .lf) (some ti162) .lf) (some ti98) (.nd .lf (some ti226) .lf))) (some ti18) (.nd (.nd (.nd (.nd .lf (some ti274) .lf) (some ti146) .lf) (some ti82) (.nd (.nd .lf (some ti338) .lf) (some ti210) .lf)) (some ti50) (.nd (.nd (.nd .lf (some ti306) .lf) (some ti178) .lf) (some ti114) (.nd .lf (some ti242) .lf)))) (some ti10) (.nd (.nd (.nd (.nd (.nd .lf (some ti266) .lf) (some ti138) .lf) (some ti74) (.nd (.nd .lf (some ti330) .lf) (some ti202) .lf)) (some ti42) (.nd (.nd (.nd .lf (some ti298) .lf) (some ti170) .lf) (some ti106) (.nd .lf (some ti234) .lf))) (some ti26) (.nd (.nd (.nd (.nd .lf (some ti282) .lf) (some ti154) .lf) (some ti90) (.nd (.nd .lf (some ti346) .lf) (some ti218) .lf)) (some ti58) (.nd (.nd (.nd .lf (some ti314) .lf) (some ti186) .lf) (some ti122) (.nd .lf (some ti250) .lf))))) (some ti6) (.nd (.nd (.nd (.nd (.nd (.nd .lf (some ti262) .lf) (some ti134) .lf) (some ti70) (.nd (.nd .lf (some ti326) .lf) (some ti198) .lf)) (some ti38) (.nd (.nd (.nd .lf (some ti294) .lf) (some ti166) .lf) (some ti102) (.nd .lf (some ti230) .lf))) (some ti22) (.nd (.nd (.nd (.nd .lf (some ti278) .lf) (some ti150) .lf) (some ti86) (.nd (.nd .lf (some ti342) .lf) (some ti214) .lf)) (some ti54) (.nd (.nd .lf (some ti182) .lf) (some ti118) (.nd .lf (some ti246) .lf)))) (some ti14) (.nd (.nd (.nd (.nd (.nd .lf (some ti270) .lf) (some ti142) .lf) (some ti78) (.nd (.nd .lf (some ti334) .lf) (some ti206) .lf)) (some ti46) (.nd (.nd (.nd .lf (some ti302) .lf) (some ti174) .lf) (some ti110) (.nd .lf (some ti238) .lf))) (some ti30) (.nd (.nd (.nd (.nd .lf (some ti286) .lf) (some ti158) .lf) (some ti94) (.nd (.nd .lf (some ti350) .lf) (some ti222) .lf)) (some ti62) (.nd (.nd (.nd .lf (some ti318) .lf) (some ti190) .lf) (some ti126) (.nd .lf (some ti254) .lf))))))))
def TT (t:TypeId):Option TI:=ttT.get t
def TTall (P:Program) (n:Nat):Bool:=(List.range n).all fun t=>match TT t with|some ti=>tiOk P t ti|none=>true
set_option maxRecDepth 100000 in
theorem TT_all:TTall Tryz.prog 353=true:=by decide +kernel
def TTc (t:TypeId):Option TI:=match Nat.blt t 353 with
 | true=>TT t
 | false=>none
theorem TT_ok (t:TypeId) (ti:TI) (h:TTc t=some ti):ti.ok Tryz.prog t:=by
 unfold TTc at h;split at h
 ·rename_i ht;rw[Nat.blt_eq] at ht;have:=List.all_eq_true.1 TT_all t (List.mem_range.2 ht);rw[h] at this;exact tiOk_ok this
 ·cases h
theorem EQ_ok:eqOk Tryz.prog [4] [(36,[0,2,0,0]),(104,[2,2]),(143,[2,2])] [24,69,71] [151]=true:=by decide +kernel
theorem liesAt_self {P:Program} {e:TypeId} (hc:P.cellsOf e≠0) (count:Nat) (h:1≤count):liesAt P P.depth e count 0 e 1=true:=by
 have hd:P.depth=(2 * (P.types.size+Made.depth)+1)+1:=rfl;rw[hd];simp only[liesAt,Bool.or_eq_true];left;rw[hd];simp[rowAt,hc,h,sameLayout]
theorem cv_facts:Tryz.prog.underlying 151=some (.pointer 154)∧Tryz.prog.underlying 253=some .unsafePointer∧(Tryz.prog.info? 154).map (·.size)=some 2∧Tryz.prog.cellsOf 154=2∧Tryz.prog.underlying 210=some (.pointer 5)∧Tryz.prog.cellsOf 5=1:=by
 refine ⟨?_,?_,?_,?_,?_,?_⟩<;>kernel_rfl
def cvS (a b:TypeId):Option TypeId:=match Nat.beq a 151&&Nat.beq b 253 with
 | true=>some 154
 | false=>match Nat.beq a 253&&Nat.beq b 151 with
  | true=>some 154
  | false=>none
def usS (a:TypeId):Option TypeId:=match Nat.beq a 210 with
 | true=>some 5
 | false=>none
theorem cvS_ok (a b e:TypeId) (h:cvS a b=some e) (w:World) (k:Nat) (vs:Array Value) (hh:w.heap[k]?=some (.cells vs e)) (hs:Tryz.prog.cellsOf e≤vs.size) :
  (convert a b (.pointer (some ⟨k,0,none⟩))).run Tryz.prog w=.ok (.pointer (some ⟨k,0,none⟩)) w:=by
 obtain ⟨h1,h2,h3,h4,_⟩:=cv_facts;obtain ⟨j,hj,hj2⟩:=Option.map_eq_some_iff.1 h3;unfold cvS at h;split at h
 ·rename_i hc;simp only[gD5] at hc;obtain rfl:=gC7 hc.1;obtain rfl:=gC7 hc.2;cases h;rw[h4] at hs;exact Lib.run_to_unsafe w ⟨k,0,none⟩ h1 h2 hj (by omega) (cells:=vs.size) (e:=154) (by simp[World.shape?,hh]) (by show 0<vs.size;omega)
 ·split at h
  ·rename_i hc;simp only[gD5] at hc;obtain rfl:=gC7 hc.1;obtain rfl:=gC7 hc.2;cases h;rw[h4] at hs;exact Lib.run_from_unsafe w ⟨k,0,none⟩ h2 h1 hj (cells:=vs.size) (e:=154) (by simp[World.shape?,hh]) (liesAt_self (by rw[h4];decide) _ (by rw[h4];omega))
  ·cases h
def ascS:List A:=[.int .u8 0,.int .u8 0,.int .u8 0,.int .u8 0,.int .u8 0,.int .u8 0,.int .u8 0,.int .u8 0,.int .u8 0,.int .u8 1,.int .u8 1,.int .u8 1,.int .u8 1,.int .u8 1,.int .u8 0,.int .u8 0,.int .u8 0,.int .u8 0,.int .u8 0,.int .u8 0,.int .u8 0,.int .u8 0,.int .u8 0,.int .u8 0,.int .u8 0,.int .u8 0,.int .u8 0,.int .u8 0,.int .u8 0,.int .u8 0,.int .u8 0,.int .u8 0,.int .u8 1,.int .u8 0,.int .u8 0,.int .u8 0,.int .u8 0,.int .u8 0,.int .u8 0,.int .u8 0,.int .u8 0,.int .u8 0,.int .u8 0,.int .u8 0,.int .u8 0,.int .u8 0,.int .u8 0,.int .u8 0,.int .u8 0,.int .u8 0,.int .u8 0,.int .u8 0,.int .u8 0,.int .u8 0,.int .u8 0,.int .u8 0,.int .u8 0,.int .u8 0,.int .u8 0,.int .u8 0,.int .u8 0,.int .u8 0,.int .u8 0,.int .u8 0,.int .u8 0,.int .u8 0,.int .u8 0,.int .u8 0,.int .u8 0,.int .u8 0,.int .u8 0,.int .u8 0,.int .u8 0,.int .u8 0,.int .u8 0,.int .u8 0,.int .u8 0,.int .u8 0,.int .u8 0,.int .u8 0,.int .u8 0,.int .u8 0,.int .u8 0,.int .u8 0,.int .u8 0,.int .u8 0,.int .u8 0,.int .u8 0,.int .u8 0,.int .u8 0,.int .u8 0,.int .u8 0,.int .u8 0,.int .u8 0,.int .u8 0,.int .u8 0,.int .u8 0,.int .u8 0,.int .u8 0,.int .u8 0,.int .u8 0,.int .u8 0,.int .u8 0,.int .u8 0,.int .u8 0,.int .u8 0,.int .u8 0,.int .u8 0,.int .u8 0,.int .u8 0,.int .u8 0,.int .u8 0,.int .u8 0,.int .u8 0,.int .u8 0,.int .u8 0,.int .u8 0,.int .u8 0,.int .u8 0,.int .u8 0,.int .u8 0,.int .u8 0,.int .u8 0,.int .u8 0,.int .u8 0,.int .u8 0,.int .u8 0,.int .u8 0,.int .u8 0,.int .u8 0,.int .u8 0,.int .u8 0,.int .u8 0,.int .u8 0,.int .u8 0,.int .u8 0,.int .u8 0,.int .u8 0,.int .u8 0,.int .u8 0,.int .u8 0,.int .u8 0,.int .u8 0,.int .u8 0,.int .u8 0,.int .u8 0,.int .u8 0,.int .u8 0,.int .u8 0,.int .u8 0,.int .u8 0,.int .u8 0,.int .u8 0,.int .u8 0,.int .u8 0,.int .u8 0,.int .u8 0,.int .u8 0,.int .u8 0,.int .u8 0,.int .u8 0,.int .u8 0,.int .u8 0,.int .u8 0,.int .u8 0,.int .u8 0,.int .u8 0,.int .u8 0,.int .u8 0,.int .u8 0,.int .u8 0,.int .u8 0,.int .u8 0,.int .u8 0,.int .u8 0,.int .u8 0,.int .u8 0,.int .u8 0,.int .u8 0,.int .u8 0,.int .u8 0,.int .u8 0,.int .u8 0,.int .u8 0,.int .u8 0,.int .u8 0,.int .u8 0,.int .u8 0,.int .u8 0,.int .u8 0,.int .u8 0,.int .u8 0,.int .u8 0,.int .u8 0,.int .u8 0,.int .u8 0,.int .u8 0,.int .u8 0,.int .u8 0,.int .u8 0,.int .u8 0,.int .u8 0,.int .u8 0,.int .u8 0,.int .u8 0,.int .u8 0,.int .u8 0,.int .u8 0,.int .u8 0,.int .u8 0,.int .u8 0,.int .u8 0,.int .u8 0,.int .u8 0,.int .u8 0,.int .u8 0,.int .u8 0,.int .u8 0,.int .u8 0,.int .u8 0,.int .u8 0,.int .u8 0,.int .u8 0,.int .u8 0,.int .u8 0,.int .u8 0,.int .u8 0,.int .u8 0,.int .u8 0,.int .u8 0,.int .u8 0,.int .u8 0,.int .u8 0,.int .u8 0,.int .u8 0,.int .u8 0,.int .u8 0,.int .u8 0,.int .u8 0,.int .u8 0,.int .u8 0,.int .u8 0,.int .u8 0,.int .u8 0,.int .u8 0,.int .u8 0,.int .u8 0,.int .u8 0,.int .u8 0,.int .u8 0,.int .u8 0,.int .u8 0,.int .u8 0,.int .u8 0,.int .u8 0,.int .u8 0]
def powS:List A:=[.int .u64 1,.int .u64 10,.int .u64 100,.int .u64 1000,.int .u64 10000,.int .u64 100000,.int .u64 1000000,.int .u64 10000000,.int .u64 100000000,.int .u64 1000000000,.int .u64 10000000000,.int .u64 100000000000,.int .u64 1000000000000,.int .u64 10000000000000,.int .u64 100000000000000,.int .u64 1000000000000000,.int .u64 10000000000000000,.int .u64 100000000000000000,.int .u64 1000000000000000000,.int .u64 10000000000000000000]
def glS:Nat→Option (List A)
 | 0=>some ascS
 | 3=>some powS
 | _=>none
theorem cvS_cs (a b e:TypeId) (h:cvS a b=some e):(TTc e).map (·.sz)=some (Tryz.prog.cellsOf e):=by
 have h4:=cv_facts.2.2.2.1;unfold cvS at h;split at h
 ·cases h;rw[h4];rfl
 ·split at h
  ·cases h;rw[h4];rfl
  ·cases h
theorem usS_ok (t e:TypeId) (h:usS t=some e):Tryz.prog.underlying t=some (.pointer e)∧Tryz.prog.cellsOf e=1:=by
 unfold usS at h;split at h
 ·rename_i hc;obtain rfl:=gC7 hc;cases h;exact cv_facts.2.2.2.2
 ·cases h
noncomputable def cx:Cx:={ P:=Tryz.prog,det:=false,gl:=glS,tt:=TTc,htt:=TT_ok,cv:=cvS,hcv:=cvS_ok,hcs:=cvS_cs,us:=usS,hus:=usS_ok,eq:=eqT [4] [(36,[0,2,0,0]),(104,[2,2]),(143,[2,2])] [24,69,71] [151],heq:=eqT_ok EQ_ok,nl:=fun t=>[24,69,71].elem t,hnl:=fun t ht a n cap w op x y hop=>⟨a.isNone,nil_sl (by have h:=EQ_ok;simp only[eqOk,gD5,List.all_eq_true] at h;exact h.2.1 t (by simpa using ht)) a n cap hop x y⟩ }
@[go_sem] theorem cx_nl (t:TypeId):cx.nl t=[24,69,71].elem t:=rfl
@[go_sem] theorem cx_eq (t:TypeId) (a b:A):cx.eq t a b=eqT [4] [(36,[0,2,0,0]),(104,[2,2]),(143,[2,2])] [24,69,71] [151] t a b:=rfl
@[go_sem] theorem cx_newL (s:St) (n:Nat) (e:TypeId) (sz:Nat) (ys:List A) (KV:St→A→Prop):newL cx s n e sz ys KV=newT cx s n e ys KV:=rfl
noncomputable def cxm:Cx:={ cx with mu:=1 }
@[go_sem] theorem cxm_newL (s:St) (n:Nat) (e:TypeId) (sz:Nat) (ys:List A) (KV:St→A→Prop):newL cxm s n e sz ys KV=(0<n∧newM s n e sz (flat ys) KV):=rfl
@[go_sem] theorem cxm_tt:cxm.tt=cx.tt:=rfl
@[go_sem] theorem cxm_eq:cxm.eq=cx.eq:=rfl
@[go_sem] theorem cxm_cv:cxm.cv=cx.cv:=rfl
@[go_sem] theorem cxm_us:cxm.us=cx.us:=rfl
@[go_sem] theorem cxm_det:cxm.det=false:=rfl
@[go_sem] theorem cxm_to:cxm.toCtx=cx.toCtx:=rfl
@[go_sem] theorem cx_own:ownB cx=false:=rfl
@[go_sem] theorem cxm_own:ownB cxm=false:=rfl
noncomputable def cxo:Cx:={ cx with mu:=2 }
@[go_sem] theorem cxo_newL (s:St) (n:Nat) (e:TypeId) (sz:Nat) (ys:List A) (KV:St→A→Prop):newL cxo s n e sz ys KV=newT cxo s n e ys KV:=rfl
@[go_sem] theorem cxo_own:ownB cxo=true:=rfl
@[go_sem] theorem cxo_tt:cxo.tt=cx.tt:=rfl
@[go_sem] theorem cxo_eq:cxo.eq=cx.eq:=rfl
@[go_sem] theorem cxo_cv:cxo.cv=cx.cv:=rfl
@[go_sem] theorem cxo_us:cxo.us=cx.us:=rfl
@[go_sem] theorem cxo_det:cxo.det=false:=rfl
@[go_sem] theorem cxo_to:cxo.toCtx=cx.toCtx:=rfl
attribute [go_sem] ownK
set_option maxRecDepth 100000 in
theorem den_cxo {f:FuncId} {l:List A} {KV Kp:St→A→Prop} {s:St} (h:Den cxo f l KV Kp s):Den cx f l KV Kp s:=by assumption
set_option maxRecDepth 100000 in
theorem mixed_cx:cx.P.follows .mixedOrders=true:=by decide +kernel
section
@[go_sem] theorem tt1:cx.tt 1=some ⟨.other,1,8,[.nilf]⟩:=rfl
@[go_sem] theorem tt2:cx.tt 2=some ⟨.int .i64,1,8,[.int .i64 0]⟩:=rfl
@[go_sem] theorem tt3:cx.tt 3=some ⟨.int .i64,1,8,[.int .i64 0]⟩:=rfl
@[go_sem] theorem tt4:cx.tt 4=some ⟨.bool,1,1,[.bool false]⟩:=rfl
@[go_sem] theorem tt5:cx.tt 5=some ⟨.int .u8,1,1,[.int .u8 0]⟩:=rfl
@[go_sem] theorem tt6:cx.tt 6=some ⟨.int .u8,1,1,[.int .u8 0]⟩:=rfl
@[go_sem] theorem tt7:cx.tt 7=some ⟨.struct [(0,1,false),(1,1,false),(2,1,false),(3,1,false)],4,24,[.int .i64 0,.int .i64 0,.bool false,.int .u8 0]⟩:=rfl
@[go_sem] theorem tt8:cx.tt 8=some ⟨.struct [(0,1,false),(1,1,false),(2,1,false),(3,1,false)],4,24,[.int .i64 0,.int .i64 0,.bool false,.int .u8 0]⟩:=rfl
@[go_sem] theorem tt9:cx.tt 9=some ⟨.string,1,16,[.str []]⟩:=rfl
@[go_sem] theorem tt10:cx.tt 10=some ⟨.string,1,16,[.str []]⟩:=rfl
@[go_sem] theorem tt11:cx.tt 11=some ⟨.string,1,16,[.str []]⟩:=rfl
@[go_sem] theorem tt12:cx.tt 12=some ⟨.int .u64,1,8,[.int .u64 0]⟩:=rfl
@[go_sem] theorem tt13:cx.tt 13=some ⟨.struct [(0,1,false),(1,1,false)],2,24,[.str [],.int .u64 0]⟩:=rfl
@[go_sem] theorem tt14:cx.tt 14=some ⟨.struct [(0,1,false),(1,1,false)],2,24,[.str [],.int .u64 0]⟩:=rfl
@[go_sem] theorem tt15:cx.tt 15=some ⟨.other,1,8,[.nilp]⟩:=rfl
@[go_sem] theorem tt16:cx.tt 16=some ⟨.other,1,8,[.nilp]⟩:=rfl
@[go_sem] theorem tt17:cx.tt 17=some ⟨.other,1,8,[.nilp]⟩:=rfl
@[go_sem] theorem tt18:cx.tt 18=some ⟨.struct [(0,1,false)],1,8,[.nilp]⟩:=rfl
@[go_sem] theorem tt19:cx.tt 19=some ⟨.struct [(0,1,false)],1,8,[.nilp]⟩:=rfl
@[go_sem] theorem tt20:cx.tt 20=some ⟨.iface,1,16,[.nili]⟩:=rfl
@[go_sem] theorem tt21:cx.tt 21=some ⟨.int .i32,1,4,[.int .i32 0]⟩:=rfl
@[go_sem] theorem tt22:cx.tt 22=some ⟨.other,1,8,[.nilf]⟩:=rfl
@[go_sem] theorem tt23:cx.tt 23=some ⟨.other,1,8,[.nilf]⟩:=rfl
@[go_sem] theorem tt24:cx.tt 24=some ⟨.slice 9,1,24,[.nils]⟩:=rfl
@[go_sem] theorem tt25:cx.tt 25=some ⟨.slice 104,1,24,[.nils]⟩:=rfl
@[go_sem] theorem tt26:cx.tt 26=some ⟨.slice 73,1,24,[.nils]⟩:=rfl
@[go_sem] theorem tt27:cx.tt 27=some ⟨.struct [(0,1,false),(1,1,false),(2,1,false),(3,1,false),(4,1,false)],5,120,[.nils,.nils,.nils,.nils,.nils]⟩:=rfl
@[go_sem] theorem tt28:cx.tt 28=some ⟨.struct [(0,1,false),(1,1,false),(2,1,false),(3,1,false),(4,1,false)],5,120,[.nils,.nils,.nils,.nils,.nils]⟩:=rfl
@[go_sem] theorem tt29:cx.tt 29=some ⟨.slice 80,1,24,[.nils]⟩:=rfl
@[go_sem] theorem tt30:cx.tt 30=some ⟨.slice 68,1,24,[.nils]⟩:=rfl
@[go_sem] theorem tt31:cx.tt 31=some ⟨.slice 84,1,24,[.nils]⟩:=rfl
@[go_sem] theorem tt32:cx.tt 32=some ⟨.struct [(0,1,false),(1,5,true),(6,1,false),(7,1,false),(8,1,false),(9,1,false),(10,1,false),(11,1,false),(12,1,false)],13,280,[.str [],.nils,.nils,.nils,.nils,.nils,.nils,.nils,.str [],.nils,.nils,.str [],.str []]⟩:=rfl
@[go_sem] theorem tt33:cx.tt 33=some ⟨.struct [(0,1,false),(1,5,true),(6,1,false),(7,1,false),(8,1,false),(9,1,false),(10,1,false),(11,1,false),(12,1,false)],13,280,[.str [],.nils,.nils,.nils,.nils,.nils,.nils,.nils,.str [],.nils,.nils,.str [],.str []]⟩:=rfl
@[go_sem] theorem tt34:cx.tt 34=some ⟨.int .i64,1,8,[.int .i64 0]⟩:=rfl
@[go_sem] theorem tt35:cx.tt 35=some ⟨.struct [(0,1,false),(1,1,false),(2,1,false),(3,1,false)],4,40,[.int .i64 0,.str [],.int .i64 0,.int .i64 0]⟩:=rfl
@[go_sem] theorem tt36:cx.tt 36=some ⟨.struct [(0,1,false),(1,1,false),(2,1,false),(3,1,false)],4,40,[.int .i64 0,.str [],.int .i64 0,.int .i64 0]⟩:=rfl
@[go_sem] theorem tt38:cx.tt 38=some ⟨.other,1,8,[.nilf]⟩:=rfl
@[go_sem] theorem tt39:cx.tt 39=some ⟨.other,1,8,[.nilf]⟩:=rfl
@[go_sem] theorem tt40:cx.tt 40=some ⟨.int .i64,1,8,[.int .i64 0]⟩:=rfl
@[go_sem] theorem tt41:cx.tt 41=some ⟨.slice 43,1,24,[.nils]⟩:=rfl
@[go_sem] theorem tt42:cx.tt 42=some ⟨.struct [(0,1,false),(1,1,false),(2,1,false),(3,1,false),(4,1,false),(5,1,false)],6,96,[.int .i64 0,.int .i64 0,.str [],.str [],.nils,.nils]⟩:=rfl
@[go_sem] theorem tt43:cx.tt 43=some ⟨.struct [(0,1,false),(1,1,false),(2,1,false),(3,1,false),(4,1,false),(5,1,false)],6,96,[.int .i64 0,.int .i64 0,.str [],.str [],.nils,.nils]⟩:=rfl
@[go_sem] theorem tt45:cx.tt 45=some ⟨.other,1,8,[.nilf]⟩:=rfl
@[go_sem] theorem tt46:cx.tt 46=some ⟨.other,1,8,[.nilf]⟩:=rfl
@[go_sem] theorem tt47:cx.tt 47=some ⟨.other,1,8,[.nilf]⟩:=rfl
@[go_sem] theorem tt48:cx.tt 48=some ⟨.other,1,8,[.nilf]⟩:=rfl
@[go_sem] theorem tt50:cx.tt 50=some ⟨.other,1,8,[.nilf]⟩:=rfl
@[go_sem] theorem tt52:cx.tt 52=some ⟨.other,1,8,[.nilf]⟩:=rfl
@[go_sem] theorem tt53:cx.tt 53=some ⟨.other,1,8,[.nilf]⟩:=rfl
@[go_sem] theorem tt54:cx.tt 54=some ⟨.other,1,8,[.nilf]⟩:=rfl
@[go_sem] theorem tt55:cx.tt 55=some ⟨.slice 60,1,24,[.nils]⟩:=rfl
@[go_sem] theorem tt57:cx.tt 57=some ⟨.other,1,8,[.nilf]⟩:=rfl
@[go_sem] theorem tt58:cx.tt 58=some ⟨.int .i64,1,8,[.int .i64 0]⟩:=rfl
@[go_sem] theorem tt59:cx.tt 59=some ⟨.struct [(0,1,false),(1,1,false),(2,1,false),(3,1,false),(4,1,false)],5,48,[.int .i64 0,.str [],.int .i64 0,.int .i64 0,.int .i64 0]⟩:=rfl
@[go_sem] theorem tt60:cx.tt 60=some ⟨.struct [(0,1,false),(1,1,false),(2,1,false),(3,1,false),(4,1,false)],5,48,[.int .i64 0,.str [],.int .i64 0,.int .i64 0,.int .i64 0]⟩:=rfl
@[go_sem] theorem tt61:cx.tt 61=some ⟨.other,1,8,[.nilf]⟩:=rfl
@[go_sem] theorem tt62:cx.tt 62=some ⟨.other,1,8,[.nilf]⟩:=rfl
@[go_sem] theorem tt63:cx.tt 63=some ⟨.other,1,8,[.nilf]⟩:=rfl
@[go_sem] theorem tt64:cx.tt 64=some ⟨.other,1,8,[.nilf]⟩:=rfl
@[go_sem] theorem tt65:cx.tt 65=some ⟨.other,1,8,[.nilf]⟩:=rfl
@[go_sem] theorem tt66:cx.tt 66=some ⟨.other,1,8,[.nilf]⟩:=rfl
@[go_sem] theorem tt67:cx.tt 67=some ⟨.struct [(0,1,false),(1,1,false),(2,6,true),(8,1,false),(9,1,false)],10,144,[.str [],.str [],.int .i64 0,.int .i64 0,.str [],.str [],.nils,.nils,.int .i64 0,.int .i64 0]⟩:=rfl
@[go_sem] theorem tt68:cx.tt 68=some ⟨.struct [(0,1,false),(1,1,false),(2,6,true),(8,1,false),(9,1,false)],10,144,[.str [],.str [],.int .i64 0,.int .i64 0,.str [],.str [],.nils,.nils,.int .i64 0,.int .i64 0]⟩:=rfl
@[go_sem] theorem tt69:cx.tt 69=some ⟨.slice 143,1,24,[.nils]⟩:=rfl
@[go_sem] theorem tt70:cx.tt 70=some ⟨.int .i64,1,8,[.int .i64 0]⟩:=rfl
@[go_sem] theorem tt71:cx.tt 71=some ⟨.slice 3,1,24,[.nils]⟩:=rfl
@[go_sem] theorem tt72:cx.tt 72=some ⟨.struct [(0,1,false),(1,1,false),(2,1,false),(3,1,false),(4,1,false),(5,1,false),(6,1,false)],7,120,[.str [],.nils,.str [],.nils,.int .i64 0,.int .i64 0,.nils]⟩:=rfl
@[go_sem] theorem tt73:cx.tt 73=some ⟨.struct [(0,1,false),(1,1,false),(2,1,false),(3,1,false),(4,1,false),(5,1,false),(6,1,false)],7,120,[.str [],.nils,.str [],.nils,.int .i64 0,.int .i64 0,.nils]⟩:=rfl
@[go_sem] theorem tt74:cx.tt 74=some ⟨.other,1,8,[.nilp]⟩:=rfl
@[go_sem] theorem tt76:cx.tt 76=some ⟨.other,1,8,[.nilf]⟩:=rfl
@[go_sem] theorem tt77:cx.tt 77=some ⟨.other,1,8,[.nilf]⟩:=rfl
@[go_sem] theorem tt78:cx.tt 78=some ⟨.other,1,8,[.nilf]⟩:=rfl
@[go_sem] theorem tt79:cx.tt 79=some ⟨.struct [(0,6,true),(6,6,true),(12,1,false),(13,1,false),(14,1,false)],15,232,[.int .i64 0,.int .i64 0,.str [],.str [],.nils,.nils,.int .i64 0,.int .i64 0,.str [],.str [],.nils,.nils,.nils,.int .i64 0,.int .i64 0]⟩:=rfl
@[go_sem] theorem tt80:cx.tt 80=some ⟨.struct [(0,6,true),(6,6,true),(12,1,false),(13,1,false),(14,1,false)],15,232,[.int .i64 0,.int .i64 0,.str [],.str [],.nils,.nils,.int .i64 0,.int .i64 0,.str [],.str [],.nils,.nils,.nils,.int .i64 0,.int .i64 0]⟩:=rfl
@[go_sem] theorem tt81:cx.tt 81=some ⟨.slice 86,1,24,[.nils]⟩:=rfl
@[go_sem] theorem tt82:cx.tt 82=some ⟨.slice 141,1,24,[.nils]⟩:=rfl
@[go_sem] theorem tt83:cx.tt 83=some ⟨.struct [(0,1,false),(1,1,false),(2,1,false),(3,1,false),(4,1,false),(5,1,false),(6,1,false)],7,128,[.str [],.nils,.nils,.nils,.nils,.int .i64 0,.int .i64 0]⟩:=rfl
@[go_sem] theorem tt84:cx.tt 84=some ⟨.struct [(0,1,false),(1,1,false),(2,1,false),(3,1,false),(4,1,false),(5,1,false),(6,1,false)],7,128,[.str [],.nils,.nils,.nils,.nils,.int .i64 0,.int .i64 0]⟩:=rfl
@[go_sem] theorem tt85:cx.tt 85=some ⟨.struct [(0,1,false),(1,1,false),(2,6,true),(8,1,false),(9,1,false),(10,1,false)],11,168,[.str [],.str [],.int .i64 0,.int .i64 0,.str [],.str [],.nils,.nils,.nils,.int .i64 0,.int .i64 0]⟩:=rfl
@[go_sem] theorem tt86:cx.tt 86=some ⟨.struct [(0,1,false),(1,1,false),(2,6,true),(8,1,false),(9,1,false),(10,1,false)],11,168,[.str [],.str [],.int .i64 0,.int .i64 0,.str [],.str [],.nils,.nils,.nils,.int .i64 0,.int .i64 0]⟩:=rfl
@[go_sem] theorem tt87:cx.tt 87=some ⟨.other,1,8,[.nilf]⟩:=rfl
@[go_sem] theorem tt88:cx.tt 88=some ⟨.other,1,8,[.nilp]⟩:=rfl
@[go_sem] theorem tt89:cx.tt 89=some ⟨.other,1,8,[.nilf]⟩:=rfl
@[go_sem] theorem tt90:cx.tt 90=some ⟨.struct [(0,1,false),(1,1,false),(2,4,true),(6,13,true),(19,5,true),(24,1,false),(25,1,false)],26,416,[.nils,.int .i64 0,.int .i64 0,.str [],.int .i64 0,.int .i64 0,.str [],.nils,.nils,.nils,.nils,.nils,.nils,.nils,.str [],.nils,.nils,.str [],.str [],.int .i64 0,.str [],.int .i64 0,.int .i64 0,.int .i64 0,.int .i64 0,.bool false]⟩:=rfl
@[go_sem] theorem tt91:cx.tt 91=some ⟨.struct [(0,1,false),(1,1,false),(2,4,true),(6,13,true),(19,5,true),(24,1,false),(25,1,false)],26,416,[.nils,.int .i64 0,.int .i64 0,.str [],.int .i64 0,.int .i64 0,.str [],.nils,.nils,.nils,.nils,.nils,.nils,.nils,.str [],.nils,.nils,.str [],.str [],.int .i64 0,.str [],.int .i64 0,.int .i64 0,.int .i64 0,.int .i64 0,.bool false]⟩:=rfl
@[go_sem] theorem tt92:cx.tt 92=some ⟨.other,1,8,[.nilf]⟩:=rfl
@[go_sem] theorem tt93:cx.tt 93=some ⟨.other,1,8,[.nilp]⟩:=rfl
@[go_sem] theorem tt94:cx.tt 94=some ⟨.struct [(0,1,false),(1,1,false),(2,1,false),(3,1,false),(4,4,true),(8,1,false),(9,1,false),(10,1,false),(11,13,true)],24,392,[.nils,.int .i64 0,.int .i64 0,.int .i64 0,.int .i64 0,.str [],.int .i64 0,.int .i64 0,.int .i64 0,.int .i64 0,.bool false,.str [],.nils,.nils,.nils,.nils,.nils,.nils,.nils,.str [],.nils,.nils,.str [],.str []]⟩:=rfl
@[go_sem] theorem tt95:cx.tt 95=some ⟨.struct [(0,1,false),(1,1,false),(2,1,false),(3,1,false),(4,4,true),(8,1,false),(9,1,false),(10,1,false),(11,13,true)],24,392,[.nils,.int .i64 0,.int .i64 0,.int .i64 0,.int .i64 0,.str [],.int .i64 0,.int .i64 0,.int .i64 0,.int .i64 0,.bool false,.str [],.nils,.nils,.nils,.nils,.nils,.nils,.nils,.str [],.nils,.nils,.str [],.str []]⟩:=rfl
@[go_sem] theorem tt97:cx.tt 97=some ⟨.other,1,8,[.nilf]⟩:=rfl
@[go_sem] theorem tt98:cx.tt 98=some ⟨.other,1,8,[.nilf]⟩:=rfl
@[go_sem] theorem tt99:cx.tt 99=some ⟨.other,1,8,[.nilf]⟩:=rfl
@[go_sem] theorem tt100:cx.tt 100=some ⟨.other,1,8,[.nilf]⟩:=rfl
@[go_sem] theorem tt101:cx.tt 101=some ⟨.other,1,8,[.nilf]⟩:=rfl
@[go_sem] theorem tt102:cx.tt 102=some ⟨.other,1,8,[.nilf]⟩:=rfl
@[go_sem] theorem tt103:cx.tt 103=some ⟨.struct [(0,1,false),(1,1,false)],2,32,[.str [],.str []]⟩:=rfl
@[go_sem] theorem tt104:cx.tt 104=some ⟨.struct [(0,1,false),(1,1,false)],2,32,[.str [],.str []]⟩:=rfl
@[go_sem] theorem tt105:cx.tt 105=some ⟨.other,1,8,[.nilf]⟩:=rfl
@[go_sem] theorem tt106:cx.tt 106=some ⟨.other,1,8,[.nilf]⟩:=rfl
@[go_sem] theorem tt107:cx.tt 107=some ⟨.other,1,8,[.nilf]⟩:=rfl
@[go_sem] theorem tt108:cx.tt 108=some ⟨.other,1,8,[.nilf]⟩:=rfl
@[go_sem] theorem tt109:cx.tt 109=some ⟨.other,1,8,[.nilf]⟩:=rfl
@[go_sem] theorem tt110:cx.tt 110=some ⟨.other,1,8,[.nilp]⟩:=rfl
@[go_sem] theorem tt112:cx.tt 112=some ⟨.other,1,8,[.nilf]⟩:=rfl
@[go_sem] theorem tt113:cx.tt 113=some ⟨.other,1,8,[.nilf]⟩:=rfl
@[go_sem] theorem tt114:cx.tt 114=some ⟨.other,1,8,[.nilf]⟩:=rfl
@[go_sem] theorem tt115:cx.tt 115=some ⟨.other,1,8,[.nilf]⟩:=rfl
@[go_sem] theorem tt116:cx.tt 116=some ⟨.other,1,8,[.nilf]⟩:=rfl
@[go_sem] theorem tt117:cx.tt 117=some ⟨.other,1,8,[.nilf]⟩:=rfl
@[go_sem] theorem tt118:cx.tt 118=some ⟨.other,1,8,[.nilf]⟩:=rfl
@[go_sem] theorem tt119:cx.tt 119=some ⟨.other,1,8,[.nilf]⟩:=rfl
@[go_sem] theorem tt120:cx.tt 120=some ⟨.other,1,8,[.nilf]⟩:=rfl
@[go_sem] theorem tt121:cx.tt 121=some ⟨.other,1,8,[.nilf]⟩:=rfl
@[go_sem] theorem tt122:cx.tt 122=some ⟨.other,1,8,[.nilf]⟩:=rfl
@[go_sem] theorem tt123:cx.tt 123=some ⟨.other,1,8,[.nilf]⟩:=rfl
@[go_sem] theorem tt124:cx.tt 124=some ⟨.other,1,8,[.nilf]⟩:=rfl
@[go_sem] theorem tt125:cx.tt 125=some ⟨.other,1,8,[.nilf]⟩:=rfl
@[go_sem] theorem tt126:cx.tt 126=some ⟨.other,1,8,[.nilf]⟩:=rfl
@[go_sem] theorem tt127:cx.tt 127=some ⟨.other,1,8,[.nilf]⟩:=rfl
@[go_sem] theorem tt128:cx.tt 128=some ⟨.other,1,8,[.nilf]⟩:=rfl
@[go_sem] theorem tt129:cx.tt 129=some ⟨.other,1,8,[.nilf]⟩:=rfl
@[go_sem] theorem tt130:cx.tt 130=some ⟨.other,1,8,[.nilf]⟩:=rfl
@[go_sem] theorem tt131:cx.tt 131=some ⟨.other,1,8,[.nilf]⟩:=rfl
@[go_sem] theorem tt132:cx.tt 132=some ⟨.other,1,8,[.nilf]⟩:=rfl
@[go_sem] theorem tt133:cx.tt 133=some ⟨.other,1,8,[.nilf]⟩:=rfl
@[go_sem] theorem tt134:cx.tt 134=some ⟨.other,1,8,[.nilf]⟩:=rfl
@[go_sem] theorem tt135:cx.tt 135=some ⟨.other,1,8,[.nilf]⟩:=rfl
@[go_sem] theorem tt136:cx.tt 136=some ⟨.other,1,8,[.nilp]⟩:=rfl
@[go_sem] theorem tt137:cx.tt 137=some ⟨.struct [(0,1,false),(1,1,false),(2,1,false),(3,1,false),(4,1,false),(5,1,false),(6,4,true)],10,128,[.str [],.int .i64 0,.int .i64 0,.int .i64 0,.nils,.nils,.int .i64 0,.str [],.int .i64 0,.int .i64 0]⟩:=rfl
@[go_sem] theorem tt138:cx.tt 138=some ⟨.struct [(0,1,false),(1,1,false),(2,1,false),(3,1,false),(4,1,false),(5,1,false),(6,4,true)],10,128,[.str [],.int .i64 0,.int .i64 0,.int .i64 0,.nils,.nils,.int .i64 0,.str [],.int .i64 0,.int .i64 0]⟩:=rfl
@[go_sem] theorem tt139:cx.tt 139=some ⟨.other,1,8,[.nilf]⟩:=rfl
@[go_sem] theorem tt140:cx.tt 140=some ⟨.struct [(0,1,false)],1,24,[.nils]⟩:=rfl
@[go_sem] theorem tt141:cx.tt 141=some ⟨.struct [(0,1,false)],1,24,[.nils]⟩:=rfl
@[go_sem] theorem tt142:cx.tt 142=some ⟨.struct [(0,1,false),(1,1,false)],2,32,[.str [],.str []]⟩:=rfl
@[go_sem] theorem tt143:cx.tt 143=some ⟨.struct [(0,1,false),(1,1,false)],2,32,[.str [],.str []]⟩:=rfl
@[go_sem] theorem tt144:cx.tt 144=some ⟨.other,1,8,[.nilf]⟩:=rfl
@[go_sem] theorem tt145:cx.tt 145=some ⟨.other,1,8,[.nilf]⟩:=rfl
@[go_sem] theorem tt146:cx.tt 146=some ⟨.slice 147,1,24,[.nils]⟩:=rfl
@[go_sem] theorem tt147:cx.tt 147=some ⟨.slice 156,1,24,[.nils]⟩:=rfl
@[go_sem] theorem tt148:cx.tt 148=some ⟨.struct [(0,1,false),(1,1,false)],2,48,[.nils,.nils]⟩:=rfl
@[go_sem] theorem tt149:cx.tt 149=some ⟨.struct [(0,1,false),(1,1,false)],2,48,[.nils,.nils]⟩:=rfl
@[go_sem] theorem tt150:cx.tt 150=some ⟨.other,1,8,[.nilf]⟩:=rfl
@[go_sem] theorem tt151:cx.tt 151=some ⟨.other,1,8,[.nilp]⟩:=rfl
@[go_sem] theorem tt152:cx.tt 152=some ⟨.slice 5,1,24,[.nils]⟩:=rfl
@[go_sem] theorem tt153:cx.tt 153=some ⟨.struct [(0,1,false),(1,1,false)],2,32,[.nilp,.nils]⟩:=rfl
@[go_sem] theorem tt154:cx.tt 154=some ⟨.struct [(0,1,false),(1,1,false)],2,32,[.nilp,.nils]⟩:=rfl
@[go_sem] theorem tt155:cx.tt 155=some ⟨.struct [(0,1,false),(1,1,false)],2,24,[.str [],.bool false]⟩:=rfl
@[go_sem] theorem tt156:cx.tt 156=some ⟨.struct [(0,1,false),(1,1,false)],2,24,[.str [],.bool false]⟩:=rfl
@[go_sem] theorem tt157:cx.tt 157=some ⟨.iface,1,16,[.nili]⟩:=rfl
@[go_sem] theorem tt158:cx.tt 158=some ⟨.iface,1,16,[.nili]⟩:=rfl
@[go_sem] theorem tt160:cx.tt 160=some ⟨.other,1,8,[.nilf]⟩:=rfl
@[go_sem] theorem tt161:cx.tt 161=some ⟨.other,1,8,[.nilf]⟩:=rfl
@[go_sem] theorem tt162:cx.tt 162=some ⟨.other,1,8,[.nilf]⟩:=rfl
@[go_sem] theorem tt164:cx.tt 164=some ⟨.other,1,8,[.nilf]⟩:=rfl
@[go_sem] theorem tt165:cx.tt 165=some ⟨.other,1,8,[.nilf]⟩:=rfl
@[go_sem] theorem tt166:cx.tt 166=some ⟨.other,1,8,[.nilf]⟩:=rfl
@[go_sem] theorem tt167:cx.tt 167=some ⟨.other,1,8,[.nilf]⟩:=rfl
@[go_sem] theorem tt168:cx.tt 168=some ⟨.other,1,8,[.nilf]⟩:=rfl
@[go_sem] theorem tt169:cx.tt 169=some ⟨.other,1,8,[.nilf]⟩:=rfl
@[go_sem] theorem tt170:cx.tt 170=some ⟨.struct [(0,1,false),(1,1,false)],2,32,[.str [],.str []]⟩:=rfl
@[go_sem] theorem tt171:cx.tt 171=some ⟨.struct [(0,1,false),(1,1,false)],2,32,[.str [],.str []]⟩:=rfl
@[go_sem] theorem tt172:cx.tt 172=some ⟨.other,1,8,[.nilf]⟩:=rfl
@[go_sem] theorem tt173:cx.tt 173=some ⟨.other,1,8,[.nilf]⟩:=rfl
@[go_sem] theorem tt174:cx.tt 174=some ⟨.other,1,8,[.nilf]⟩:=rfl
@[go_sem] theorem tt175:cx.tt 175=some ⟨.other,1,8,[.nilf]⟩:=rfl
@[go_sem] theorem tt176:cx.tt 176=some ⟨.other,1,8,[.nilf]⟩:=rfl
@[go_sem] theorem tt177:cx.tt 177=some ⟨.other,1,8,[.nilf]⟩:=rfl
@[go_sem] theorem tt178:cx.tt 178=some ⟨.other,1,8,[.nilf]⟩:=rfl
@[go_sem] theorem tt179:cx.tt 179=some ⟨.other,1,8,[.nilf]⟩:=rfl
@[go_sem] theorem tt180:cx.tt 180=some ⟨.other,1,8,[.nilf]⟩:=rfl
@[go_sem] theorem tt181:cx.tt 181=some ⟨.other,1,8,[.nilf]⟩:=rfl
@[go_sem] theorem tt182:cx.tt 182=some ⟨.other,1,8,[.nilf]⟩:=rfl
@[go_sem] theorem tt183:cx.tt 183=some ⟨.struct [(0,1,false),(1,1,false)],2,16,[.int .i64 0,.bool false]⟩:=rfl
@[go_sem] theorem tt184:cx.tt 184=some ⟨.struct [(0,1,false),(1,1,false)],2,16,[.int .i64 0,.bool false]⟩:=rfl
@[go_sem] theorem tt185:cx.tt 185=some ⟨.other,1,8,[.nilf]⟩:=rfl
@[go_sem] theorem tt186:cx.tt 186=some ⟨.struct [(0,2,true)],2,32,[.nilp,.nils]⟩:=rfl
@[go_sem] theorem tt187:cx.tt 187=some ⟨.struct [(0,2,true)],2,32,[.nilp,.nils]⟩:=rfl
@[go_sem] theorem tt188:cx.tt 188=some ⟨.other,1,8,[.nilf]⟩:=rfl
@[go_sem] theorem tt189:cx.tt 189=some ⟨.other,1,8,[.nilf]⟩:=rfl
@[go_sem] theorem tt190:cx.tt 190=some ⟨.other,1,8,[.nilf]⟩:=rfl
@[go_sem] theorem tt191:cx.tt 191=some ⟨.other,1,8,[.nilp]⟩:=rfl
@[go_sem] theorem tt192:cx.tt 192=some ⟨.slice 4,1,24,[.nils]⟩:=rfl
@[go_sem] theorem tt193:cx.tt 193=some ⟨.other,1,8,[.nilf]⟩:=rfl
@[go_sem] theorem tt194:cx.tt 194=some ⟨.other,1,8,[.nilf]⟩:=rfl
@[go_sem] theorem tt195:cx.tt 195=some ⟨.other,1,8,[.nilf]⟩:=rfl
@[go_sem] theorem tt196:cx.tt 196=some ⟨.other,1,8,[.nilf]⟩:=rfl
@[go_sem] theorem tt197:cx.tt 197=some ⟨.other,1,8,[.nilf]⟩:=rfl
@[go_sem] theorem tt198:cx.tt 198=some ⟨.other,1,8,[.nilf]⟩:=rfl
@[go_sem] theorem tt199:cx.tt 199=some ⟨.other,1,8,[.nilf]⟩:=rfl
@[go_sem] theorem tt200:cx.tt 200=some ⟨.other,1,8,[.nilf]⟩:=rfl
@[go_sem] theorem tt201:cx.tt 201=some ⟨.other,1,8,[.nilf]⟩:=rfl
@[go_sem] theorem tt202:cx.tt 202=some ⟨.other,1,8,[.nilf]⟩:=rfl
@[go_sem] theorem tt203:cx.tt 203=some ⟨.other,1,8,[.nilf]⟩:=rfl
@[go_sem] theorem tt204:cx.tt 204=some ⟨.other,1,8,[.nilf]⟩:=rfl
@[go_sem] theorem tt205:cx.tt 205=some ⟨.other,1,8,[.nilf]⟩:=rfl
@[go_sem] theorem tt206:cx.tt 206=some ⟨.other,1,8,[.nilf]⟩:=rfl
@[go_sem] theorem tt207:cx.tt 207=some ⟨.other,1,8,[.nilf]⟩:=rfl
@[go_sem] theorem tt208:cx.tt 208=some ⟨.other,1,8,[.nilf]⟩:=rfl
@[go_sem] theorem tt209:cx.tt 209=some ⟨.other,1,8,[.nilf]⟩:=rfl
@[go_sem] theorem tt210:cx.tt 210=some ⟨.other,1,8,[.nilp]⟩:=rfl
@[go_sem] theorem tt212:cx.tt 212=some ⟨.other,1,8,[.nilf]⟩:=rfl
@[go_sem] theorem tt213:cx.tt 213=some ⟨.other,1,8,[.nilf]⟩:=rfl
@[go_sem] theorem tt215:cx.tt 215=some ⟨.other,1,8,[.nilf]⟩:=rfl
@[go_sem] theorem tt216:cx.tt 216=some ⟨.other,1,8,[.nilf]⟩:=rfl
@[go_sem] theorem tt217:cx.tt 217=some ⟨.other,1,8,[.nilf]⟩:=rfl
@[go_sem] theorem tt218:cx.tt 218=some ⟨.other,1,8,[.nilf]⟩:=rfl
@[go_sem] theorem tt219:cx.tt 219=some ⟨.other,1,8,[.nilf]⟩:=rfl
@[go_sem] theorem tt220:cx.tt 220=some ⟨.other,1,8,[.nilf]⟩:=rfl
@[go_sem] theorem tt221:cx.tt 221=some ⟨.other,1,8,[.nilp]⟩:=rfl
@[go_sem] theorem tt222:cx.tt 222=some ⟨.other,1,8,[.nilp]⟩:=rfl
@[go_sem] theorem tt223:cx.tt 223=some ⟨.other,1,8,[.nilf]⟩:=rfl
@[go_sem] theorem tt224:cx.tt 224=some ⟨.other,1,8,[.nilp]⟩:=rfl
@[go_sem] theorem tt225:cx.tt 225=some ⟨.struct [(0,1,false),(1,1,false),(2,1,false),(3,1,false),(4,1,false),(5,1,false)],6,72,[.str [],.int .i64 0,.int .i64 0,.int .i64 0,.nils,.bool false]⟩:=rfl
@[go_sem] theorem tt226:cx.tt 226=some ⟨.struct [(0,1,false),(1,1,false),(2,1,false),(3,1,false),(4,1,false),(5,1,false)],6,72,[.str [],.int .i64 0,.int .i64 0,.int .i64 0,.nils,.bool false]⟩:=rfl
@[go_sem] theorem tt227:cx.tt 227=some ⟨.other,1,8,[.nilf]⟩:=rfl
@[go_sem] theorem tt228:cx.tt 228=some ⟨.other,1,8,[.nilf]⟩:=rfl
@[go_sem] theorem tt229:cx.tt 229=some ⟨.other,1,8,[.nilf]⟩:=rfl
@[go_sem] theorem tt230:cx.tt 230=some ⟨.other,1,8,[.nilp]⟩:=rfl
@[go_sem] theorem tt231:cx.tt 231=some ⟨.other,1,8,[.nilf]⟩:=rfl
@[go_sem] theorem tt232:cx.tt 232=some ⟨.other,1,8,[.nilf]⟩:=rfl
@[go_sem] theorem tt233:cx.tt 233=some ⟨.other,1,8,[.nilp]⟩:=rfl
@[go_sem] theorem tt234:cx.tt 234=some ⟨.other,1,8,[.nilf]⟩:=rfl
@[go_sem] theorem tt235:cx.tt 235=some ⟨.other,1,8,[.nilf]⟩:=rfl
@[go_sem] theorem tt236:cx.tt 236=some ⟨.other,1,8,[.nilf]⟩:=rfl
@[go_sem] theorem tt237:cx.tt 237=some ⟨.other,1,8,[.nilf]⟩:=rfl
@[go_sem] theorem tt238:cx.tt 238=some ⟨.other,1,8,[.nilf]⟩:=rfl
@[go_sem] theorem tt239:cx.tt 239=some ⟨.other,1,8,[.nilf]⟩:=rfl
@[go_sem] theorem tt240:cx.tt 240=some ⟨.other,1,8,[.nilf]⟩:=rfl
@[go_sem] theorem tt241:cx.tt 241=some ⟨.other,1,8,[.nilf]⟩:=rfl
@[go_sem] theorem tt242:cx.tt 242=some ⟨.other,1,8,[.nilf]⟩:=rfl
@[go_sem] theorem tt243:cx.tt 243=some ⟨.other,1,8,[.nilf]⟩:=rfl
@[go_sem] theorem tt244:cx.tt 244=some ⟨.other,1,8,[.nilf]⟩:=rfl
@[go_sem] theorem tt245:cx.tt 245=some ⟨.other,1,8,[.nilf]⟩:=rfl
@[go_sem] theorem tt246:cx.tt 246=some ⟨.other,1,8,[.nilf]⟩:=rfl
@[go_sem] theorem tt247:cx.tt 247=some ⟨.other,1,8,[.nilf]⟩:=rfl
@[go_sem] theorem tt248:cx.tt 248=some ⟨.slice 41,1,24,[.nils]⟩:=rfl
@[go_sem] theorem tt249:cx.tt 249=some ⟨.other,1,8,[.nilf]⟩:=rfl
@[go_sem] theorem tt250:cx.tt 250=some ⟨.other,1,8,[.nilf]⟩:=rfl
@[go_sem] theorem tt251:cx.tt 251=some ⟨.other,1,8,[.nilf]⟩:=rfl
@[go_sem] theorem tt252:cx.tt 252=some ⟨.other,1,8,[.nilf]⟩:=rfl
@[go_sem] theorem tt253:cx.tt 253=some ⟨.other,1,8,[.nilp]⟩:=rfl
@[go_sem] theorem tt254:cx.tt 254=some ⟨.other,1,8,[.nilf]⟩:=rfl
@[go_sem] theorem tt256:cx.tt 256=some ⟨.other,1,8,[.nilf]⟩:=rfl
@[go_sem] theorem tt258:cx.tt 258=some ⟨.other,1,8,[.nilf]⟩:=rfl
@[go_sem] theorem tt259:cx.tt 259=some ⟨.other,1,8,[.nilf]⟩:=rfl
@[go_sem] theorem tt260:cx.tt 260=some ⟨.other,1,8,[.nilf]⟩:=rfl
@[go_sem] theorem tt261:cx.tt 261=some ⟨.other,1,8,[.nilf]⟩:=rfl
@[go_sem] theorem tt262:cx.tt 262=some ⟨.other,1,8,[.nilf]⟩:=rfl
@[go_sem] theorem tt264:cx.tt 264=some ⟨.other,1,8,[.nilf]⟩:=rfl
@[go_sem] theorem tt265:cx.tt 265=some ⟨.other,1,8,[.nilf]⟩:=rfl
@[go_sem] theorem tt266:cx.tt 266=some ⟨.other,1,8,[.nilf]⟩:=rfl
@[go_sem] theorem tt267:cx.tt 267=some ⟨.other,1,8,[.nilf]⟩:=rfl
@[go_sem] theorem tt268:cx.tt 268=some ⟨.slice 30,1,24,[.nils]⟩:=rfl
@[go_sem] theorem tt269:cx.tt 269=some ⟨.other,1,8,[.nilf]⟩:=rfl
@[go_sem] theorem tt270:cx.tt 270=some ⟨.other,1,8,[.nilf]⟩:=rfl
@[go_sem] theorem tt271:cx.tt 271=some ⟨.other,1,8,[.nilf]⟩:=rfl
@[go_sem] theorem tt273:cx.tt 273=some ⟨.other,1,8,[.nilf]⟩:=rfl
@[go_sem] theorem tt274:cx.tt 274=some ⟨.slice 276,1,24,[.nils]⟩:=rfl
@[go_sem] theorem tt275:cx.tt 275=some ⟨.struct [(0,1,false),(1,1,false)],2,16,[.int .i64 0,.int .i64 0]⟩:=rfl
@[go_sem] theorem tt277:cx.tt 277=some ⟨.int .u32,1,4,[.int .u32 0]⟩:=rfl
@[go_sem] theorem tt278:cx.tt 278=some ⟨.other,1,8,[.nilf]⟩:=rfl
@[go_sem] theorem tt279:cx.tt 279=some ⟨.other,1,8,[.nilp]⟩:=rfl
@[go_sem] theorem tt280:cx.tt 280=some ⟨.other,1,8,[.nilf]⟩:=rfl
@[go_sem] theorem tt281:cx.tt 281=some ⟨.other,1,8,[.nilf]⟩:=rfl
@[go_sem] theorem tt282:cx.tt 282=some ⟨.int .u64,1,8,[.int .u64 0]⟩:=rfl
@[go_sem] theorem tt283:cx.tt 283=some ⟨.array 24 5,24,24,[.int .u8 0,.int .u8 0,.int .u8 0,.int .u8 0,.int .u8 0,.int .u8 0,.int .u8 0,.int .u8 0,.int .u8 0,.int .u8 0,.int .u8 0,.int .u8 0,.int .u8 0,.int .u8 0,.int .u8 0,.int .u8 0,.int .u8 0,.int .u8 0,.int .u8 0,.int .u8 0,.int .u8 0,.int .u8 0,.int .u8 0,.int .u8 0]⟩:=rfl
@[go_sem] theorem tt284:cx.tt 284=some ⟨.int .u64,1,8,[.int .u64 0]⟩:=rfl
@[go_sem] theorem tt285:cx.tt 285=some ⟨.other,1,8,[.nilf]⟩:=rfl
@[go_sem] theorem tt286:cx.tt 286=some ⟨.other,1,8,[.nilf]⟩:=rfl
@[go_sem] theorem tt288:cx.tt 288=some ⟨.other,1,8,[.nilf]⟩:=rfl
@[go_sem] theorem tt289:cx.tt 289=some ⟨.slice 295,1,24,[.nils]⟩:=rfl
@[go_sem] theorem tt290:cx.tt 290=some ⟨.slice 298,1,24,[.nils]⟩:=rfl
@[go_sem] theorem tt293:cx.tt 293=some ⟨.int .u16,1,2,[.int .u16 0]⟩:=rfl
@[go_sem] theorem tt294:cx.tt 294=some ⟨.struct [(0,1,false),(1,1,false),(2,1,false)],3,6,[.int .u16 0,.int .u16 0,.int .u16 0]⟩:=rfl
@[go_sem] theorem tt295:cx.tt 295=some ⟨.struct [(0,1,false),(1,1,false),(2,1,false)],3,6,[.int .u16 0,.int .u16 0,.int .u16 0]⟩:=rfl
@[go_sem] theorem tt296:cx.tt 296=some ⟨.other,1,8,[.nilf]⟩:=rfl
@[go_sem] theorem tt297:cx.tt 297=some ⟨.struct [(0,1,false),(1,1,false),(2,1,false)],3,12,[.int .u32 0,.int .u32 0,.int .u32 0]⟩:=rfl
@[go_sem] theorem tt298:cx.tt 298=some ⟨.struct [(0,1,false),(1,1,false),(2,1,false)],3,12,[.int .u32 0,.int .u32 0,.int .u32 0]⟩:=rfl
@[go_sem] theorem tt299:cx.tt 299=some ⟨.other,1,8,[.nilf]⟩:=rfl
@[go_sem] theorem tt301:cx.tt 301=some ⟨.other,1,8,[.nilf]⟩:=rfl
@[go_sem] theorem tt302:cx.tt 302=some ⟨.other,1,8,[.nilf]⟩:=rfl
@[go_sem] theorem tt303:cx.tt 303=some ⟨.array 20 284,20,160,[.int .u64 0,.int .u64 0,.int .u64 0,.int .u64 0,.int .u64 0,.int .u64 0,.int .u64 0,.int .u64 0,.int .u64 0,.int .u64 0,.int .u64 0,.int .u64 0,.int .u64 0,.int .u64 0,.int .u64 0,.int .u64 0,.int .u64 0,.int .u64 0,.int .u64 0,.int .u64 0]⟩:=rfl
@[go_sem] theorem tt305:cx.tt 305=some ⟨.other,1,8,[.nilf]⟩:=rfl
@[go_sem] theorem tt306:cx.tt 306=some ⟨.other,1,8,[.nilp]⟩:=rfl
@[go_sem] theorem tt307:cx.tt 307=some ⟨.other,1,8,[.nilp]⟩:=rfl
@[go_sem] theorem tt308:cx.tt 308=some ⟨.other,1,8,[.nilf]⟩:=rfl
@[go_sem] theorem tt312:cx.tt 312=some ⟨.other,1,8,[.nilf]⟩:=rfl
@[go_sem] theorem tt313:cx.tt 313=some ⟨.other,1,8,[.nilf]⟩:=rfl
@[go_sem] theorem tt314:cx.tt 314=some ⟨.other,1,8,[.nilp]⟩:=rfl
@[go_sem] theorem tt315:cx.tt 315=some ⟨.other,1,8,[.nilf]⟩:=rfl
@[go_sem] theorem tt316:cx.tt 316=some ⟨.other,1,8,[.nilf]⟩:=rfl
@[go_sem] theorem tt318:cx.tt 318=some ⟨.other,1,8,[.nilf]⟩:=rfl
@[go_sem] theorem tt320:cx.tt 320=some ⟨.int .i64,1,8,[.int .i64 0]⟩:=rfl
@[go_sem] theorem tt322:cx.tt 322=some ⟨.other,1,8,[.nilf]⟩:=rfl
@[go_sem] theorem tt323:cx.tt 323=some ⟨.other,1,8,[.nilp]⟩:=rfl
@[go_sem] theorem tt324:cx.tt 324=some ⟨.other,1,8,[.nilf]⟩:=rfl
@[go_sem] theorem tt325:cx.tt 325=some ⟨.other,1,8,[.nilf]⟩:=rfl
@[go_sem] theorem tt326:cx.tt 326=some ⟨.array 32 5,32,32,[.int .u8 0,.int .u8 0,.int .u8 0,.int .u8 0,.int .u8 0,.int .u8 0,.int .u8 0,.int .u8 0,.int .u8 0,.int .u8 0,.int .u8 0,.int .u8 0,.int .u8 0,.int .u8 0,.int .u8 0,.int .u8 0,.int .u8 0,.int .u8 0,.int .u8 0,.int .u8 0,.int .u8 0,.int .u8 0,.int .u8 0,.int .u8 0,.int .u8 0,.int .u8 0,.int .u8 0,.int .u8 0,.int .u8 0,.int .u8 0,.int .u8 0,.int .u8 0]⟩:=rfl
@[go_sem] theorem tt328:cx.tt 328=some ⟨.other,1,8,[.nilf]⟩:=rfl
@[go_sem] theorem tt330:cx.tt 330=some ⟨.other,1,8,[.nilf]⟩:=rfl
@[go_sem] theorem tt331:cx.tt 331=some ⟨.struct [(0,1,false),(1,1,false),(2,1,false)],3,48,[.str [],.str [],.nili]⟩:=rfl
@[go_sem] theorem tt332:cx.tt 332=some ⟨.struct [(0,1,false),(1,1,false),(2,1,false)],3,48,[.str [],.str [],.nili]⟩:=rfl
@[go_sem] theorem tt333:cx.tt 333=some ⟨.other,1,8,[.nilf]⟩:=rfl
@[go_sem] theorem tt334:cx.tt 334=some ⟨.struct [(0,1,false),(1,1,false)],2,2,[.int .u8 0,.int .u8 0]⟩:=rfl
@[go_sem] theorem tt335:cx.tt 335=some ⟨.struct [(0,1,false),(1,1,false)],2,2,[.int .u8 0,.int .u8 0]⟩:=rfl
@[go_sem] theorem tt337:cx.tt 337=some ⟨.other,1,8,[.nilf]⟩:=rfl
@[go_sem] theorem tt338:cx.tt 338=some ⟨.other,1,8,[.nilp]⟩:=rfl
@[go_sem] theorem tt341:cx.tt 341=some ⟨.struct [(0,1,false),(1,1,false),(2,1,false),(3,1,false)],4,40,[.nilp,.nilp,.nilp,.str []]⟩:=rfl
@[go_sem] theorem tt342:cx.tt 342=some ⟨.struct [(0,1,false),(1,1,false),(2,1,false),(3,1,false)],4,40,[.nilp,.nilp,.nilp,.str []]⟩:=rfl
@[go_sem] theorem tt343:cx.tt 343=some ⟨.array 0 16,0,0,[]⟩:=rfl
@[go_sem] theorem tt346:cx.tt 346=some ⟨.int .u8,1,1,[.int .u8 0]⟩:=rfl
@[go_sem] theorem tt347:cx.tt 347=some ⟨.int .u8,1,1,[.int .u8 0]⟩:=rfl
@[go_sem] theorem tt348:cx.tt 348=some ⟨.other,1,8,[.nilf]⟩:=rfl
@[go_sem] theorem tt350:cx.tt 350=some ⟨.int .i32,1,4,[.int .i32 0]⟩:=rfl
@[go_sem] theorem tt351:cx.tt 351=some ⟨.struct [(0,1,false),(1,1,false),(2,1,false),(3,1,false),(4,1,false),(5,1,false),(6,1,false),(7,1,false),(8,1,false),(9,1,false),(10,1,false)],11,48,[.int .u64 0,.int .u64 0,.int .u32 0,.int .u8 0,.int .u8 0,.int .u8 0,.int .u8 0,.nilf,.nilp,.int .i32 0,.int .i32 0]⟩:=rfl
@[go_sem] theorem tt352:cx.tt 352=some ⟨.struct [(0,1,false),(1,1,false),(2,1,false),(3,1,false),(4,1,false),(5,1,false),(6,1,false),(7,1,false),(8,1,false),(9,1,false),(10,1,false)],11,48,[.int .u64 0,.int .u64 0,.int .u32 0,.int .u8 0,.int .u8 0,.int .u8 0,.int .u8 0,.nilf,.nilp,.int .i32 0,.int .i32 0]⟩:=rfl
end
end Go.AV
end
