/- The types, tables and functions of the given program, as the abstract machine takes them. Conditions: none beyond the statement's own. -/
import Derived.Test.YtkciioajiopobaaGreatDoorMachine2
import Derived.KernelRfl
import Derived.Test.YtkciioajiopobaaGreatDoorProg
set_option linter.all false
noncomputable section
section
open Go Go.Am
namespace Pt
abbrev w52:Ty:=.pair (.int .i64) (.pair (.int .i64) (.pair .bool (.pair (.int .u8) .unit)))
abbrev w17:Ty:=.pair .str (.pair (.int .u64) .unit)
abbrev D7:Ty:=.pair (.slice (.int .u8)) (.pair .bool (.pair (.int .i64) (.pair (.slice (.int .u8)) .unit)))
abbrev M7:Ty:=.pair .str .unit
abbrev E7:Ty:=.pair (.slice (.int .i64)) .unit
abbrev X1:Ty:=.pair .bool (.pair (.int .i64) (.pair .bool (.pair .bool .unit)))
abbrev Y1:Ty:=.pair (.slice (.int .i64)) (.pair X1 .unit)
abbrev B9:Ty:=.pair (.int .i64) (.pair M7 (.pair E7 (.pair Y1 (.pair (.slice (.int .i64)) .unit))))
abbrev L3:Ty:=.pair B9 (.pair (.slice (.int .i64)) (.pair .bool (.pair .bool .unit)))
abbrev a97:Ty:=.pair L3 (.pair L3 (.pair L3 (.pair L3 (.pair L3 .unit))))
abbrev B8:Ty:=.pair (.slice (.slice (.int .i64))) (.pair .bool .unit)
abbrev w05:Ty:=.pair B8 (.pair B8 (.pair B8 (.pair B8 (.pair B8 (.pair B8 .unit)))))
abbrev B1:Ty:=.pair .bool (.pair a97 (.pair w05 .unit))
abbrev C44:Ty:=.pair .bool (.pair .bool .unit)
abbrev a7:Ty:=.pair .bool (.pair .bool (.pair D7 (.pair B1 (.pair (.slice (.int .u8)) (.pair C44 (.pair (.int .i64) .unit))))))
abbrev O5:Ty:=.pair (.int .i64) (.pair (.int .i64) (.pair (.slice (.int .u8)) .unit))
abbrev B55:Ty:=.pair (.int .i64) (.pair (.int .i64) (.pair (.int .i64) (.pair (.slice (.int .u8)) .unit)))
abbrev a52:Ty:=.pair (.int .i64) (.pair (.int .i64) (.pair a7 (.pair (.slice (.int .u8)) (.pair (.int .i64) .unit))))
abbrev B88:Ty:=.pair (.slice a52) (.pair .bool .unit)
abbrev w08:Ty:=.pair .fn (.pair .fn (.pair .fn .unit))
abbrev a65:Ty:=.pair (.int .i64) (.pair (.int .i64) (.pair (.int .i64) (.pair (.int .i64) (.pair (.int .i64) (.pair (.int .i64) (.pair (.int .i64) .unit))))))
abbrev w22:Ty:=.pair w08 (.pair w08 (.pair w08 .unit))
abbrev B86:Ty:=.pair E7 (.pair (.slice (.int .i64)) .unit)
abbrev C54:Ty:=.pair L3 (.pair B8 (.pair B8 .unit))
abbrev B18:Ty:=.pair (.slice (.int .i64)) (.pair (.int .i64) (.pair (.int .i64) .unit))
abbrev N9:Ty:=.pair (.int .i64) (.pair (.int .i64) (.pair (.int .i64) .unit))
abbrev T7:Ty:=.pair (.int .u8) (.pair (.int .u8) .unit)
abbrev B15:Ty:=.pair T7 (.pair T7 (.pair T7 (.pair T7 (.pair T7 (.pair T7 (.pair T7 (.pair T7 (.pair T7 (.pair T7 (.pair T7 (.pair T7 (.pair T7 (.pair T7 (.pair T7 (.pair T7 .unit)))))))))))))))
abbrev w92:Ty:=.pair (.int .i64) (.pair (.int .i64) (.pair (.int .i64) (.pair (.int .i64) .unit)))
abbrev O3:Ty:=.pair (.int .i64) (.pair (.int .i64) .unit)
abbrev Y3:Ty:=.pair O3 (.pair (.int .i64) .unit)
abbrev w66:Ty:=.pair (.int .i32) (.pair (.int .i32) (.pair (.int .i32) .unit))
abbrev w30:Ty:=.pair (.int .u32) (.pair (.int .u32) (.pair w66 .unit))
def ti1:TI:=⟨.fn,1,8,.fn,true,.nilFunc⟩
def ti2:TI:=⟨.int .i64,1,8,(.int .i64),true,.int .i64 0⟩
def ti3:TI:=⟨.int .i64,1,8,(.int .i64),true,.int .i64 0⟩
def ti4:TI:=⟨.bool,1,1,.bool,true,.bool false⟩
def ti5:TI:=⟨.int .u8,1,1,(.int .u8),true,.int .u8 0⟩
def ti6:TI:=⟨.int .u8,1,1,(.int .u8),true,.int .u8 0⟩
def ti7:TI:=⟨.struct [(0,2),(1,3),(2,4),(3,6)],4,24,w52,true,.agg #[.int .i64 0,.int .i64 0,.bool false,.int .u8 0]⟩
def ti8:TI:=⟨.struct [(0,2),(1,3),(2,4),(3,6)],4,24,w52,true,.agg #[.int .i64 0,.int .i64 0,.bool false,.int .u8 0]⟩
def ti9:TI:=⟨.str,1,16,.str,true,.string ⟨#[]⟩⟩
def ti10:TI:=⟨.str,1,16,.str,true,.string ⟨#[]⟩⟩
def ti11:TI:=⟨.str,1,16,.str,true,.string ⟨#[]⟩⟩
def ti12:TI:=⟨.int .u64,1,8,(.int .u64),true,.int .u64 0⟩
def ti13:TI:=⟨.struct [(0,9),(1,12)],2,24,w17,true,.agg #[.string ⟨#[]⟩,.int .u64 0]⟩
def ti14:TI:=⟨.struct [(0,9),(1,12)],2,24,w17,true,.agg #[.string ⟨#[]⟩,.int .u64 0]⟩
def ti15:TI:=⟨.ptr,1,8,.unit,false,.pointer none⟩
def ti16:TI:=⟨.ptr,1,8,.unit,false,.pointer none⟩
def ti17:TI:=⟨.ptr,1,8,.unit,false,.pointer none⟩
def ti18:TI:=⟨.struct [(0,17)],1,8,.unit,false,.agg #[.pointer none]⟩
def ti19:TI:=⟨.struct [(0,17)],1,8,.unit,false,.agg #[.pointer none]⟩
def ti21:TI:=⟨.int .i32,1,4,(.int .i32),true,.int .i32 0⟩
def ti22:TI:=⟨.slice 5,1,24,(.slice (.int .u8)),true,.slice none 0 0⟩
def ti23:TI:=⟨.slice 3,1,24,(.slice (.int .i64)),true,.slice none 0 0⟩
def ti24:TI:=⟨.fn,1,8,.fn,true,.nilFunc⟩
def ti25:TI:=⟨.struct [(0,22),(1,4),(2,3),(3,22)],4,64,D7,true,.agg #[.slice none 0 0,.bool false,.int .i64 0,.slice none 0 0]⟩
def ti26:TI:=⟨.struct [(0,22),(1,4),(2,3),(3,22)],4,64,D7,true,.agg #[.slice none 0 0,.bool false,.int .i64 0,.slice none 0 0]⟩
def ti27:TI:=⟨.struct [(0,9)],1,16,M7,true,.agg #[.string ⟨#[]⟩]⟩
def ti28:TI:=⟨.struct [(0,9)],1,16,M7,true,.agg #[.string ⟨#[]⟩]⟩
def ti29:TI:=⟨.struct [(0,23)],1,24,E7,true,.agg #[.slice none 0 0]⟩
def ti30:TI:=⟨.struct [(0,23)],1,24,E7,true,.agg #[.slice none 0 0]⟩
def ti31:TI:=⟨.struct [(0,4),(1,3),(2,4),(3,4)],4,24,X1,true,.agg #[.bool false,.int .i64 0,.bool false,.bool false]⟩
def ti32:TI:=⟨.struct [(0,4),(1,3),(2,4),(3,4)],4,24,X1,true,.agg #[.bool false,.int .i64 0,.bool false,.bool false]⟩
def ti33:TI:=⟨.struct [(0,23),(1,32)],5,48,Y1,true,.agg #[.slice none 0 0,.bool false,.int .i64 0,.bool false,.bool false]⟩
def ti34:TI:=⟨.struct [(0,23),(1,32)],5,48,Y1,true,.agg #[.slice none 0 0,.bool false,.int .i64 0,.bool false,.bool false]⟩
def ti35:TI:=⟨.struct [(0,3),(1,28),(2,30),(3,34),(8,23)],9,120,B9,true,.agg #[.int .i64 0,.string ⟨#[]⟩,.slice none 0 0,.slice none 0 0,.bool false,.int .i64 0,.bool false,.bool false,.slice none 0 0]⟩
def ti36:TI:=⟨.struct [(0,3),(1,28),(2,30),(3,34),(8,23)],9,120,B9,true,.agg #[.int .i64 0,.string ⟨#[]⟩,.slice none 0 0,.slice none 0 0,.bool false,.int .i64 0,.bool false,.bool false,.slice none 0 0]⟩
def ti37:TI:=⟨.struct [(0,36),(9,23),(10,4),(11,4)],12,152,L3,true,.agg #[.int .i64 0,.string ⟨#[]⟩,.slice none 0 0,.slice none 0 0,.bool false,.int .i64 0,.bool false,.bool false,.slice none 0 0,.slice none 0 0,.bool false,.bool false]⟩
def ti38:TI:=⟨.struct [(0,36),(9,23),(10,4),(11,4)],12,152,L3,true,.agg #[.int .i64 0,.string ⟨#[]⟩,.slice none 0 0,.slice none 0 0,.bool false,.int .i64 0,.bool false,.bool false,.slice none 0 0,.slice none 0 0,.bool false,.bool false]⟩
def ti39:TI:=⟨.array 5 38,60,760,a97,true,.agg #[.int .i64 0,.string ⟨#[]⟩,.slice none 0 0,.slice none 0 0,.bool false,.int .i64 0,.bool false,.bool false,.slice none 0 0,.slice none 0 0,.bool false,.bool false,.int .i64 0,.string ⟨#[]⟩,.slice none 0 0,.slice none 0 0,.bool false,.int .i64 0,.bool false,.bool false,.slice none 0 0,.slice none 0 0,.bool false,.bool false,.int .i64 0,.string ⟨#[]⟩,.slice none 0 0,.slice none 0 0,.bool false,.int .i64 0,.bool false,.bool false,.slice none 0 0,.slice none 0 0,.bool false,.bool false,.int .i64 0,.string ⟨#[]⟩,.slice none 0 0,.slice none 0 0,.bool false,.int .i64 0,.bool false,.bool false,.slice none 0 0,.slice none 0 0,.bool false,.bool false,.int .i64 0,.string ⟨#[]⟩,.slice none 0 0,.slice none 0 0,.bool false,.int .i64 0,.bool false,.bool false,.slice none 0 0,.slice none 0 0,.bool false,.bool false]⟩
def ti40:TI:=⟨.slice 23,1,24,(.slice (.slice (.int .i64))),true,.slice none 0 0⟩
def ti41:TI:=⟨.struct [(0,40),(1,4)],2,32,B8,true,.agg #[.slice none 0 0,.bool false]⟩
def ti42:TI:=⟨.struct [(0,40),(1,4)],2,32,B8,true,.agg #[.slice none 0 0,.bool false]⟩
def ti43:TI:=⟨.array 6 42,12,192,w05,true,.agg #[.slice none 0 0,.bool false,.slice none 0 0,.bool false,.slice none 0 0,.bool false,.slice none 0 0,.bool false,.slice none 0 0,.bool false,.slice none 0 0,.bool false]⟩
def ti44:TI:=⟨.struct [(0,4),(1,39),(61,43)],73,960,B1,true,.agg #[.bool false,.int .i64 0,.string ⟨#[]⟩,.slice none 0 0,.slice none 0 0,.bool false,.int .i64 0,.bool false,.bool false,.slice none 0 0,.slice none 0 0,.bool false,.bool false,.int .i64 0,.string ⟨#[]⟩,.slice none 0 0,.slice none 0 0,.bool false,.int .i64 0,.bool false,.bool false,.slice none 0 0,.slice none 0 0,.bool false,.bool false,.int .i64 0,.string ⟨#[]⟩,.slice none 0 0,.slice none 0 0,.bool false,.int .i64 0,.bool false,.bool false,.slice none 0 0,.slice none 0 0,.bool false,.bool false,.int .i64 0,.string ⟨#[]⟩,.slice none 0 0,.slice none 0 0,.bool false,.int .i64 0,.bool false,.bool false,.slice none 0 0,.slice none 0 0,.bool false,.bool false,.int .i64 0,.string ⟨#[]⟩,.slice none 0 0,.slice none 0 0,.bool false,.int .i64 0,.bool false,.bool false,.slice none 0 0,.slice none 0 0,.bool false,.bool false,.slice none 0 0,.bool false,.slice none 0 0,.bool false,.slice none 0 0,.bool false,.slice none 0 0,.bool false,.slice none 0 0,.bool false,.slice none 0 0,.bool false]⟩
def ti45:TI:=⟨.struct [(0,4),(1,39),(61,43)],73,960,B1,true,.agg #[.bool false,.int .i64 0,.string ⟨#[]⟩,.slice none 0 0,.slice none 0 0,.bool false,.int .i64 0,.bool false,.bool false,.slice none 0 0,.slice none 0 0,.bool false,.bool false,.int .i64 0,.string ⟨#[]⟩,.slice none 0 0,.slice none 0 0,.bool false,.int .i64 0,.bool false,.bool false,.slice none 0 0,.slice none 0 0,.bool false,.bool false,.int .i64 0,.string ⟨#[]⟩,.slice none 0 0,.slice none 0 0,.bool false,.int .i64 0,.bool false,.bool false,.slice none 0 0,.slice none 0 0,.bool false,.bool false,.int .i64 0,.string ⟨#[]⟩,.slice none 0 0,.slice none 0 0,.bool false,.int .i64 0,.bool false,.bool false,.slice none 0 0,.slice none 0 0,.bool false,.bool false,.int .i64 0,.string ⟨#[]⟩,.slice none 0 0,.slice none 0 0,.bool false,.int .i64 0,.bool false,.bool false,.slice none 0 0,.slice none 0 0,.bool false,.bool false,.slice none 0 0,.bool false,.slice none 0 0,.bool false,.slice none 0 0,.bool false,.slice none 0 0,.bool false,.slice none 0 0,.bool false,.slice none 0 0,.bool false]⟩
def ti46:TI:=⟨.array 2 4,2,2,C44,true,.agg #[.bool false,.bool false]⟩
def ti47:TI:=⟨.struct [(0,4),(1,4),(2,26),(6,45),(79,22),(80,46),(82,3)],83,1072,a7,true,.agg #[.bool false,.bool false,.slice none 0 0,.bool false,.int .i64 0,.slice none 0 0,.bool false,.int .i64 0,.string ⟨#[]⟩,.slice none 0 0,.slice none 0 0,.bool false,.int .i64 0,.bool false,.bool false,.slice none 0 0,.slice none 0 0,.bool false,.bool false,.int .i64 0,.string ⟨#[]⟩,.slice none 0 0,.slice none 0 0,.bool false,.int .i64 0,.bool false,.bool false,.slice none 0 0,.slice none 0 0,.bool false,.bool false,.int .i64 0,.string ⟨#[]⟩,.slice none 0 0,.slice none 0 0,.bool false,.int .i64 0,.bool false,.bool false,.slice none 0 0,.slice none 0 0,.bool false,.bool false,.int .i64 0,.string ⟨#[]⟩,.slice none 0 0,.slice none 0 0,.bool false,.int .i64 0,.bool false,.bool false,.slice none 0 0,.slice none 0 0,.bool false,.bool false,.int .i64 0,.string ⟨#[]⟩,.slice none 0 0,.slice none 0 0,.bool false,.int .i64 0,.bool false,.bool false,.slice none 0 0,.slice none 0 0,.bool false,.bool false,.slice none 0 0,.bool false,.slice none 0 0,.bool false,.slice none 0 0,.bool false,.slice none 0 0,.bool false,.slice none 0 0,.bool false,.slice none 0 0,.bool false,.slice none 0 0,.bool false,.bool false,.int .i64 0]⟩
def ti48:TI:=⟨.struct [(0,4),(1,4),(2,26),(6,45),(79,22),(80,46),(82,3)],83,1072,a7,true,.agg #[.bool false,.bool false,.slice none 0 0,.bool false,.int .i64 0,.slice none 0 0,.bool false,.int .i64 0,.string ⟨#[]⟩,.slice none 0 0,.slice none 0 0,.bool false,.int .i64 0,.bool false,.bool false,.slice none 0 0,.slice none 0 0,.bool false,.bool false,.int .i64 0,.string ⟨#[]⟩,.slice none 0 0,.slice none 0 0,.bool false,.int .i64 0,.bool false,.bool false,.slice none 0 0,.slice none 0 0,.bool false,.bool false,.int .i64 0,.string ⟨#[]⟩,.slice none 0 0,.slice none 0 0,.bool false,.int .i64 0,.bool false,.bool false,.slice none 0 0,.slice none 0 0,.bool false,.bool false,.int .i64 0,.string ⟨#[]⟩,.slice none 0 0,.slice none 0 0,.bool false,.int .i64 0,.bool false,.bool false,.slice none 0 0,.slice none 0 0,.bool false,.bool false,.int .i64 0,.string ⟨#[]⟩,.slice none 0 0,.slice none 0 0,.bool false,.int .i64 0,.bool false,.bool false,.slice none 0 0,.slice none 0 0,.bool false,.bool false,.slice none 0 0,.bool false,.slice none 0 0,.bool false,.slice none 0 0,.bool false,.slice none 0 0,.bool false,.slice none 0 0,.bool false,.slice none 0 0,.bool false,.slice none 0 0,.bool false,.bool false,.int .i64 0]⟩
def ti49:TI:=⟨.int .i64,1,8,(.int .i64),true,.int .i64 0⟩
def ti51:TI:=⟨.fn,1,8,.fn,true,.nilFunc⟩
def ti52:TI:=⟨.fn,1,8,.fn,true,.nilFunc⟩
def ti53:TI:=⟨.fn,1,8,.fn,true,.nilFunc⟩
def ti54:TI:=⟨.fn,1,8,.fn,true,.nilFunc⟩
def ti56:TI:=⟨.fn,1,8,.fn,true,.nilFunc⟩
def ti57:TI:=⟨.fn,1,8,.fn,true,.nilFunc⟩
def ti58:TI:=⟨.fn,1,8,.fn,true,.nilFunc⟩
def ti59:TI:=⟨.fn,1,8,.fn,true,.nilFunc⟩
def ti60:TI:=⟨.fn,1,8,.fn,true,.nilFunc⟩
def ti61:TI:=⟨.fn,1,8,.fn,true,.nilFunc⟩
def ti62:TI:=⟨.fn,1,8,.fn,true,.nilFunc⟩
def ti64:TI:=⟨.fn,1,8,.fn,true,.nilFunc⟩
def ti65:TI:=⟨.fn,1,8,.fn,true,.nilFunc⟩
def ti66:TI:=⟨.fn,1,8,.fn,true,.nilFunc⟩
def ti67:TI:=⟨.slice 71,1,24,(.slice O5),true,.slice none 0 0⟩
def ti68:TI:=⟨.fn,1,8,.fn,true,.nilFunc⟩
def ti69:TI:=⟨.fn,1,8,.fn,true,.nilFunc⟩
def ti70:TI:=⟨.struct [(0,3),(1,3),(2,22)],3,40,O5,true,.agg #[.int .i64 0,.int .i64 0,.slice none 0 0]⟩
def ti71:TI:=⟨.struct [(0,3),(1,3),(2,22)],3,40,O5,true,.agg #[.int .i64 0,.int .i64 0,.slice none 0 0]⟩
def ti72:TI:=⟨.fn,1,8,.fn,true,.nilFunc⟩
def ti73:TI:=⟨.fn,1,8,.fn,true,.nilFunc⟩
def ti74:TI:=⟨.fn,1,8,.fn,true,.nilFunc⟩
def ti75:TI:=⟨.fn,1,8,.fn,true,.nilFunc⟩
def ti76:TI:=⟨.fn,1,8,.fn,true,.nilFunc⟩
def ti77:TI:=⟨.fn,1,8,.fn,true,.nilFunc⟩
def ti78:TI:=⟨.slice 85,1,24,(.slice B55),true,.slice none 0 0⟩
def ti79:TI:=⟨.fn,1,8,.fn,true,.nilFunc⟩
def ti80:TI:=⟨.slice 129,1,24,(.slice a52),true,.slice none 0 0⟩
def ti81:TI:=⟨.struct [(0,80),(1,4)],2,32,B88,true,.agg #[.slice none 0 0,.bool false]⟩
def ti82:TI:=⟨.struct [(0,80),(1,4)],2,32,B88,true,.agg #[.slice none 0 0,.bool false]⟩
def ti83:TI:=⟨.fn,1,8,.fn,true,.nilFunc⟩
def ti84:TI:=⟨.struct [(0,3),(1,3),(2,3),(3,22)],4,48,B55,true,.agg #[.int .i64 0,.int .i64 0,.int .i64 0,.slice none 0 0]⟩
def ti85:TI:=⟨.struct [(0,3),(1,3),(2,3),(3,22)],4,48,B55,true,.agg #[.int .i64 0,.int .i64 0,.int .i64 0,.slice none 0 0]⟩
def ti86:TI:=⟨.fn,1,8,.fn,true,.nilFunc⟩
def ti87:TI:=⟨.fn,1,8,.fn,true,.nilFunc⟩
def ti89:TI:=⟨.fn,1,8,.fn,true,.nilFunc⟩
def ti90:TI:=⟨.fn,1,8,.fn,true,.nilFunc⟩
def ti92:TI:=⟨.fn,1,8,.fn,true,.nilFunc⟩
def ti94:TI:=⟨.fn,1,8,.fn,true,.nilFunc⟩
def ti95:TI:=⟨.fn,1,8,.fn,true,.nilFunc⟩
def ti96:TI:=⟨.fn,1,8,.fn,true,.nilFunc⟩
def ti97:TI:=⟨.fn,1,8,.fn,true,.nilFunc⟩
def ti98:TI:=⟨.fn,1,8,.fn,true,.nilFunc⟩
def ti99:TI:=⟨.fn,1,8,.fn,true,.nilFunc⟩
def ti100:TI:=⟨.fn,1,8,.fn,true,.nilFunc⟩
def ti101:TI:=⟨.fn,1,8,.fn,true,.nilFunc⟩
def ti102:TI:=⟨.fn,1,8,.fn,true,.nilFunc⟩
def ti104:TI:=⟨.fn,1,8,.fn,true,.nilFunc⟩
def ti105:TI:=⟨.fn,1,8,.fn,true,.nilFunc⟩
def ti106:TI:=⟨.fn,1,8,.fn,true,.nilFunc⟩
def ti107:TI:=⟨.fn,1,8,.fn,true,.nilFunc⟩
def ti108:TI:=⟨.fn,1,8,.fn,true,.nilFunc⟩
def ti109:TI:=⟨.fn,1,8,.fn,true,.nilFunc⟩
def ti110:TI:=⟨.fn,1,8,.fn,true,.nilFunc⟩
def ti111:TI:=⟨.fn,1,8,.fn,true,.nilFunc⟩
def ti112:TI:=⟨.fn,1,8,.fn,true,.nilFunc⟩
def ti113:TI:=⟨.fn,1,8,.fn,true,.nilFunc⟩
def ti114:TI:=⟨.struct [(0,64),(1,113),(2,111)],3,24,w08,true,.agg #[.nilFunc,.nilFunc,.nilFunc]⟩
def ti115:TI:=⟨.struct [(0,64),(1,113),(2,111)],3,24,w08,true,.agg #[.nilFunc,.nilFunc,.nilFunc]⟩
def ti117:TI:=⟨.fn,1,8,.fn,true,.nilFunc⟩
def ti118:TI:=⟨.fn,1,8,.fn,true,.nilFunc⟩
def ti119:TI:=⟨.fn,1,8,.fn,true,.nilFunc⟩
def ti120:TI:=⟨.slice 22,1,24,(.slice (.slice (.int .u8))),true,.slice none 0 0⟩
def ti121:TI:=⟨.fn,1,8,.fn,true,.nilFunc⟩
def ti122:TI:=⟨.fn,1,8,.fn,true,.nilFunc⟩
def ti123:TI:=⟨.fn,1,8,.fn,true,.nilFunc⟩
def ti124:TI:=⟨.fn,1,8,.fn,true,.nilFunc⟩
def ti125:TI:=⟨.fn,1,8,.fn,true,.nilFunc⟩
def ti127:TI:=⟨.fn,1,8,.fn,true,.nilFunc⟩
def ti128:TI:=⟨.struct [(0,3),(1,3),(2,48),(85,22),(86,3)],87,1120,a52,true,.agg #[.int .i64 0,.int .i64 0,.bool false,.bool false,.slice none 0 0,.bool false,.int .i64 0,.slice none 0 0,.bool false,.int .i64 0,.string ⟨#[]⟩,.slice none 0 0,.slice none 0 0,.bool false,.int .i64 0,.bool false,.bool false,.slice none 0 0,.slice none 0 0,.bool false,.bool false,.int .i64 0,.string ⟨#[]⟩,.slice none 0 0,.slice none 0 0,.bool false,.int .i64 0,.bool false,.bool false,.slice none 0 0,.slice none 0 0,.bool false,.bool false,.int .i64 0,.string ⟨#[]⟩,.slice none 0 0,.slice none 0 0,.bool false,.int .i64 0,.bool false,.bool false,.slice none 0 0,.slice none 0 0,.bool false,.bool false,.int .i64 0,.string ⟨#[]⟩,.slice none 0 0,.slice none 0 0,.bool false,.int .i64 0,.bool false,.bool false,.slice none 0 0,.slice none 0 0,.bool false,.bool false,.int .i64 0,.string ⟨#[]⟩,.slice none 0 0,.slice none 0 0,.bool false,.int .i64 0,.bool false,.bool false,.slice none 0 0,.slice none 0 0,.bool false,.bool false,.slice none 0 0,.bool false,.slice none 0 0,.bool false,.slice none 0 0,.bool false,.slice none 0 0,.bool false,.slice none 0 0,.bool false,.slice none 0 0,.bool false,.slice none 0 0,.bool false,.bool false,.int .i64 0,.slice none 0 0,.int .i64 0]⟩
def ti129:TI:=⟨.struct [(0,3),(1,3),(2,48),(85,22),(86,3)],87,1120,a52,true,.agg #[.int .i64 0,.int .i64 0,.bool false,.bool false,.slice none 0 0,.bool false,.int .i64 0,.slice none 0 0,.bool false,.int .i64 0,.string ⟨#[]⟩,.slice none 0 0,.slice none 0 0,.bool false,.int .i64 0,.bool false,.bool false,.slice none 0 0,.slice none 0 0,.bool false,.bool false,.int .i64 0,.string ⟨#[]⟩,.slice none 0 0,.slice none 0 0,.bool false,.int .i64 0,.bool false,.bool false,.slice none 0 0,.slice none 0 0,.bool false,.bool false,.int .i64 0,.string ⟨#[]⟩,.slice none 0 0,.slice none 0 0,.bool false,.int .i64 0,.bool false,.bool false,.slice none 0 0,.slice none 0 0,.bool false,.bool false,.int .i64 0,.string ⟨#[]⟩,.slice none 0 0,.slice none 0 0,.bool false,.int .i64 0,.bool false,.bool false,.slice none 0 0,.slice none 0 0,.bool false,.bool false,.int .i64 0,.string ⟨#[]⟩,.slice none 0 0,.slice none 0 0,.bool false,.int .i64 0,.bool false,.bool false,.slice none 0 0,.slice none 0 0,.bool false,.bool false,.slice none 0 0,.bool false,.slice none 0 0,.bool false,.slice none 0 0,.bool false,.slice none 0 0,.bool false,.slice none 0 0,.bool false,.slice none 0 0,.bool false,.slice none 0 0,.bool false,.bool false,.int .i64 0,.slice none 0 0,.int .i64 0]⟩
def ti130:TI:=⟨.fn,1,8,.fn,true,.nilFunc⟩
def ti131:TI:=⟨.fn,1,8,.fn,true,.nilFunc⟩
def ti132:TI:=⟨.fn,1,8,.fn,true,.nilFunc⟩
def ti133:TI:=⟨.fn,1,8,.fn,true,.nilFunc⟩
def ti134:TI:=⟨.fn,1,8,.fn,true,.nilFunc⟩
def ti135:TI:=⟨.fn,1,8,.fn,true,.nilFunc⟩
def ti136:TI:=⟨.fn,1,8,.fn,true,.nilFunc⟩
def ti137:TI:=⟨.fn,1,8,.fn,true,.nilFunc⟩
def ti138:TI:=⟨.fn,1,8,.fn,true,.nilFunc⟩
def ti139:TI:=⟨.fn,1,8,.fn,true,.nilFunc⟩
def ti140:TI:=⟨.array 7 3,7,56,a65,true,.agg #[.int .i64 0,.int .i64 0,.int .i64 0,.int .i64 0,.int .i64 0,.int .i64 0,.int .i64 0]⟩
def ti141:TI:=⟨.fn,1,8,.fn,true,.nilFunc⟩
def ti142:TI:=⟨.array 3 115,9,72,w22,true,.agg #[.nilFunc,.nilFunc,.nilFunc,.nilFunc,.nilFunc,.nilFunc,.nilFunc,.nilFunc,.nilFunc]⟩
def ti143:TI:=⟨.fn,1,8,.fn,true,.nilFunc⟩
def ti144:TI:=⟨.fn,1,8,.fn,true,.nilFunc⟩
def ti145:TI:=⟨.fn,1,8,.fn,true,.nilFunc⟩
def ti146:TI:=⟨.fn,1,8,.fn,true,.nilFunc⟩
def ti147:TI:=⟨.fn,1,8,.fn,true,.nilFunc⟩
def ti148:TI:=⟨.fn,1,8,.fn,true,.nilFunc⟩
def ti149:TI:=⟨.fn,1,8,.fn,true,.nilFunc⟩
def ti150:TI:=⟨.fn,1,8,.fn,true,.nilFunc⟩
def ti151:TI:=⟨.fn,1,8,.fn,true,.nilFunc⟩
def ti152:TI:=⟨.fn,1,8,.fn,true,.nilFunc⟩
def ti154:TI:=⟨.fn,1,8,.fn,true,.nilFunc⟩
def ti155:TI:=⟨.fn,1,8,.fn,true,.nilFunc⟩
def ti156:TI:=⟨.int .u64,1,8,(.int .u64),true,.int .u64 0⟩
def ti157:TI:=⟨.fn,1,8,.fn,true,.nilFunc⟩
def ti158:TI:=⟨.fn,1,8,.fn,true,.nilFunc⟩
def ti159:TI:=⟨.fn,1,8,.fn,true,.nilFunc⟩
def ti160:TI:=⟨.fn,1,8,.fn,true,.nilFunc⟩
def ti161:TI:=⟨.fn,1,8,.fn,true,.nilFunc⟩
def ti162:TI:=⟨.fn,1,8,.fn,true,.nilFunc⟩
def ti163:TI:=⟨.ptr,1,8,.unit,false,.pointer none⟩
def ti164:TI:=⟨.struct [(0,163),(1,22)],2,32,.unit,false,.agg #[.pointer none,.slice none 0 0]⟩
def ti165:TI:=⟨.struct [(0,163),(1,22)],2,32,.unit,false,.agg #[.pointer none,.slice none 0 0]⟩
def ti167:TI:=⟨.iface,1,16,.unit,false,.nilIface⟩
def ti169:TI:=⟨.fn,1,8,.fn,true,.nilFunc⟩
def ti170:TI:=⟨.fn,1,8,.fn,true,.nilFunc⟩
def ti171:TI:=⟨.fn,1,8,.fn,true,.nilFunc⟩
def ti172:TI:=⟨.fn,1,8,.fn,true,.nilFunc⟩
def ti173:TI:=⟨.fn,1,8,.fn,true,.nilFunc⟩
def ti174:TI:=⟨.fn,1,8,.fn,true,.nilFunc⟩
def ti176:TI:=⟨.fn,1,8,.fn,true,.nilFunc⟩
def ti178:TI:=⟨.fn,1,8,.fn,true,.nilFunc⟩
def ti179:TI:=⟨.fn,1,8,.fn,true,.nilFunc⟩
def ti180:TI:=⟨.fn,1,8,.fn,true,.nilFunc⟩
def ti181:TI:=⟨.fn,1,8,.fn,true,.nilFunc⟩
def ti183:TI:=⟨.fn,1,8,.fn,true,.nilFunc⟩
def ti185:TI:=⟨.fn,1,8,.fn,true,.nilFunc⟩
def ti186:TI:=⟨.fn,1,8,.fn,true,.nilFunc⟩
def ti187:TI:=⟨.fn,1,8,.fn,true,.nilFunc⟩
def ti188:TI:=⟨.fn,1,8,.fn,true,.nilFunc⟩
def ti189:TI:=⟨.fn,1,8,.fn,true,.nilFunc⟩
def ti190:TI:=⟨.fn,1,8,.fn,true,.nilFunc⟩
def ti191:TI:=⟨.ptr,1,8,.unit,false,.pointer none⟩
def ti192:TI:=⟨.fn,1,8,.fn,true,.nilFunc⟩
def ti194:TI:=⟨.fn,1,8,.fn,true,.nilFunc⟩
def ti195:TI:=⟨.fn,1,8,.fn,true,.nilFunc⟩
def ti196:TI:=⟨.fn,1,8,.fn,true,.nilFunc⟩
def ti197:TI:=⟨.ptr,1,8,.unit,false,.pointer none⟩
def ti198:TI:=⟨.fn,1,8,.fn,true,.nilFunc⟩
def ti200:TI:=⟨.fn,1,8,.fn,true,.nilFunc⟩
def ti202:TI:=⟨.fn,1,8,.fn,true,.nilFunc⟩
def ti203:TI:=⟨.fn,1,8,.fn,true,.nilFunc⟩
def ti204:TI:=⟨.fn,1,8,.fn,true,.nilFunc⟩
def ti206:TI:=⟨.fn,1,8,.fn,true,.nilFunc⟩
def ti208:TI:=⟨.fn,1,8,.fn,true,.nilFunc⟩
def ti210:TI:=⟨.fn,1,8,.fn,true,.nilFunc⟩
def ti211:TI:=⟨.fn,1,8,.fn,true,.nilFunc⟩
def ti212:TI:=⟨.fn,1,8,.fn,true,.nilFunc⟩
def ti214:TI:=⟨.fn,1,8,.fn,true,.nilFunc⟩
def ti215:TI:=⟨.int .u32,1,4,(.int .u32),true,.int .u32 0⟩
def ti216:TI:=⟨.fn,1,8,.fn,true,.nilFunc⟩
def ti217:TI:=⟨.fn,1,8,.fn,true,.nilFunc⟩
def ti218:TI:=⟨.fn,1,8,.fn,true,.nilFunc⟩
def ti219:TI:=⟨.struct [(0,30),(1,23)],2,48,B86,true,.agg #[.slice none 0 0,.slice none 0 0]⟩
def ti220:TI:=⟨.struct [(0,30),(1,23)],2,48,B86,true,.agg #[.slice none 0 0,.slice none 0 0]⟩
def ti221:TI:=⟨.fn,1,8,.fn,true,.nilFunc⟩
def ti222:TI:=⟨.fn,1,8,.fn,true,.nilFunc⟩
def ti223:TI:=⟨.fn,1,8,.fn,true,.nilFunc⟩
def ti224:TI:=⟨.fn,1,8,.fn,true,.nilFunc⟩
def ti225:TI:=⟨.ptr,1,8,.unit,false,.pointer none⟩
def ti226:TI:=⟨.struct [(0,38),(12,42),(14,42)],16,216,C54,true,.agg #[.int .i64 0,.string ⟨#[]⟩,.slice none 0 0,.slice none 0 0,.bool false,.int .i64 0,.bool false,.bool false,.slice none 0 0,.slice none 0 0,.bool false,.bool false,.slice none 0 0,.bool false,.slice none 0 0,.bool false]⟩
def ti227:TI:=⟨.struct [(0,38),(12,42),(14,42)],16,216,C54,true,.agg #[.int .i64 0,.string ⟨#[]⟩,.slice none 0 0,.slice none 0 0,.bool false,.int .i64 0,.bool false,.bool false,.slice none 0 0,.slice none 0 0,.bool false,.bool false,.slice none 0 0,.bool false,.slice none 0 0,.bool false]⟩
def ti228:TI:=⟨.fn,1,8,.fn,true,.nilFunc⟩
def ti229:TI:=⟨.fn,1,8,.fn,true,.nilFunc⟩
def ti230:TI:=⟨.fn,1,8,.fn,true,.nilFunc⟩
def ti231:TI:=⟨.fn,1,8,.fn,true,.nilFunc⟩
def ti232:TI:=⟨.fn,1,8,.fn,true,.nilFunc⟩
def ti233:TI:=⟨.fn,1,8,.fn,true,.nilFunc⟩
def ti234:TI:=⟨.fn,1,8,.fn,true,.nilFunc⟩
def ti235:TI:=⟨.struct [(0,23),(1,3),(2,3)],3,40,B18,true,.agg #[.slice none 0 0,.int .i64 0,.int .i64 0]⟩
def ti236:TI:=⟨.struct [(0,23),(1,3),(2,3)],3,40,B18,true,.agg #[.slice none 0 0,.int .i64 0,.int .i64 0]⟩
def ti238:TI:=⟨.fn,1,8,.fn,true,.nilFunc⟩
def ti239:TI:=⟨.fn,1,8,.fn,true,.nilFunc⟩
def ti240:TI:=⟨.fn,1,8,.fn,true,.nilFunc⟩
def ti241:TI:=⟨.ptr,1,8,.unit,false,.pointer none⟩
def ti242:TI:=⟨.fn,1,8,.fn,true,.nilFunc⟩
def ti244:TI:=⟨.fn,1,8,.fn,true,.nilFunc⟩
def ti245:TI:=⟨.fn,1,8,.fn,true,.nilFunc⟩
def ti246:TI:=⟨.struct [(0,3),(1,3),(2,3)],3,24,N9,true,.agg #[.int .i64 0,.int .i64 0,.int .i64 0]⟩
def ti247:TI:=⟨.struct [(0,3),(1,3),(2,3)],3,24,N9,true,.agg #[.int .i64 0,.int .i64 0,.int .i64 0]⟩
def ti249:TI:=⟨.fn,1,8,.fn,true,.nilFunc⟩
def ti250:TI:=⟨.slice 247,1,24,(.slice N9),true,.slice none 0 0⟩
def ti251:TI:=⟨.fn,1,8,.fn,true,.nilFunc⟩
def ti252:TI:=⟨.fn,1,8,.fn,true,.nilFunc⟩
def ti253:TI:=⟨.fn,1,8,.fn,true,.nilFunc⟩
def ti254:TI:=⟨.ptr,1,8,.unit,false,.pointer none⟩
def ti255:TI:=⟨.fn,1,8,.fn,true,.nilFunc⟩
def ti256:TI:=⟨.fn,1,8,.fn,true,.nilFunc⟩
def ti257:TI:=⟨.fn,1,8,.fn,true,.nilFunc⟩
def ti258:TI:=⟨.fn,1,8,.fn,true,.nilFunc⟩
def ti259:TI:=⟨.slice 9,1,24,(.slice .str),true,.slice none 0 0⟩
def ti260:TI:=⟨.fn,1,8,.fn,true,.nilFunc⟩
def ti262:TI:=⟨.fn,1,8,.fn,true,.nilFunc⟩
def ti263:TI:=⟨.fn,1,8,.fn,true,.nilFunc⟩
def ti264:TI:=⟨.fn,1,8,.fn,true,.nilFunc⟩
def ti265:TI:=⟨.array 256 5,256,256,.unit,false,.agg (Array.replicate 256 (.int .u8 0))⟩
def ti266:TI:=⟨.struct [(0,5),(1,5)],2,2,T7,true,.agg #[.int .u8 0,.int .u8 0]⟩
def ti267:TI:=⟨.struct [(0,5),(1,5)],2,2,T7,true,.agg #[.int .u8 0,.int .u8 0]⟩
def ti268:TI:=⟨.array 16 267,32,32,B15,true,.agg #[.int .u8 0,.int .u8 0,.int .u8 0,.int .u8 0,.int .u8 0,.int .u8 0,.int .u8 0,.int .u8 0,.int .u8 0,.int .u8 0,.int .u8 0,.int .u8 0,.int .u8 0,.int .u8 0,.int .u8 0,.int .u8 0,.int .u8 0,.int .u8 0,.int .u8 0,.int .u8 0,.int .u8 0,.int .u8 0,.int .u8 0,.int .u8 0,.int .u8 0,.int .u8 0,.int .u8 0,.int .u8 0,.int .u8 0,.int .u8 0,.int .u8 0,.int .u8 0]⟩
def ti270:TI:=⟨.fn,1,8,.fn,true,.nilFunc⟩
def ti271:TI:=⟨.fn,1,8,.fn,true,.nilFunc⟩
def ti272:TI:=⟨.fn,1,8,.fn,true,.nilFunc⟩
def ti273:TI:=⟨.fn,1,8,.fn,true,.nilFunc⟩
def ti276:TI:=⟨.fn,1,8,.fn,true,.nilFunc⟩
def ti277:TI:=⟨.slice 280,1,24,(.slice w92),true,.slice none 0 0⟩
def ti278:TI:=⟨.fn,1,8,.fn,true,.nilFunc⟩
def ti279:TI:=⟨.struct [(0,3),(1,3),(2,3),(3,3)],4,32,w92,true,.agg #[.int .i64 0,.int .i64 0,.int .i64 0,.int .i64 0]⟩
def ti280:TI:=⟨.struct [(0,3),(1,3),(2,3),(3,3)],4,32,w92,true,.agg #[.int .i64 0,.int .i64 0,.int .i64 0,.int .i64 0]⟩
def ti281:TI:=⟨.slice 285,1,24,(.slice (.int .i64)),true,.slice none 0 0⟩
def ti282:TI:=⟨.fn,1,8,.fn,true,.nilFunc⟩
def ti283:TI:=⟨.fn,1,8,.fn,true,.nilFunc⟩
def ti284:TI:=⟨.fn,1,8,.fn,true,.nilFunc⟩
def ti285:TI:=⟨.int .i64,1,8,(.int .i64),true,.int .i64 0⟩
def ti286:TI:=⟨.fn,1,8,.fn,true,.nilFunc⟩
def ti287:TI:=⟨.fn,1,8,.fn,true,.nilFunc⟩
def ti288:TI:=⟨.fn,1,8,.fn,true,.nilFunc⟩
def ti289:TI:=⟨.fn,1,8,.fn,true,.nilFunc⟩
def ti290:TI:=⟨.fn,1,8,.fn,true,.nilFunc⟩
def ti291:TI:=⟨.array 2 3,2,16,O3,true,.agg #[.int .i64 0,.int .i64 0]⟩
def ti292:TI:=⟨.array 2 3,2,16,O3,true,.agg #[.int .i64 0,.int .i64 0]⟩
def ti293:TI:=⟨.fn,1,8,.fn,true,.nilFunc⟩
def ti294:TI:=⟨.fn,1,8,.fn,true,.nilFunc⟩
def ti295:TI:=⟨.fn,1,8,.fn,true,.nilFunc⟩
def ti296:TI:=⟨.fn,1,8,.fn,true,.nilFunc⟩
def ti297:TI:=⟨.fn,1,8,.fn,true,.nilFunc⟩
def ti299:TI:=⟨.fn,1,8,.fn,true,.nilFunc⟩
def ti300:TI:=⟨.fn,1,8,.fn,true,.nilFunc⟩
def ti301:TI:=⟨.fn,1,8,.fn,true,.nilFunc⟩
def ti302:TI:=⟨.fn,1,8,.fn,true,.nilFunc⟩
def ti303:TI:=⟨.int .u64,1,8,(.int .u64),true,.int .u64 0⟩
def ti304:TI:=⟨.fn,1,8,.fn,true,.nilFunc⟩
def ti305:TI:=⟨.slice 270,1,24,(.slice .fn),true,.slice none 0 0⟩
def ti306:TI:=⟨.fn,1,8,.fn,true,.nilFunc⟩
def ti307:TI:=⟨.fn,1,8,.fn,true,.nilFunc⟩
def ti308:TI:=⟨.slice 312,1,24,(.slice Y3),true,.slice none 0 0⟩
def ti309:TI:=⟨.fn,1,8,.fn,true,.nilFunc⟩
def ti310:TI:=⟨.fn,1,8,.fn,true,.nilFunc⟩
def ti311:TI:=⟨.struct [(0,292),(2,3)],3,24,Y3,true,.agg #[.int .i64 0,.int .i64 0,.int .i64 0]⟩
def ti312:TI:=⟨.struct [(0,292),(2,3)],3,24,Y3,true,.agg #[.int .i64 0,.int .i64 0,.int .i64 0]⟩
def ti313:TI:=⟨.fn,1,8,.fn,true,.nilFunc⟩
def ti314:TI:=⟨.fn,1,8,.fn,true,.nilFunc⟩
def ti315:TI:=⟨.fn,1,8,.fn,true,.nilFunc⟩
def ti316:TI:=⟨.fn,1,8,.fn,true,.nilFunc⟩
def ti317:TI:=⟨.fn,1,8,.fn,true,.nilFunc⟩
def ti318:TI:=⟨.array 24 5,24,24,.unit,false,.agg (Array.replicate 24 (.int .u8 0))⟩
def ti319:TI:=⟨.fn,1,8,.fn,true,.nilFunc⟩
def ti320:TI:=⟨.fn,1,8,.fn,true,.nilFunc⟩
def ti322:TI:=⟨.fn,1,8,.fn,true,.nilFunc⟩
def ti324:TI:=⟨.fn,1,8,.fn,true,.nilFunc⟩
def ti326:TI:=⟨.fn,1,8,.fn,true,.nilFunc⟩
def ti327:TI:=⟨.fn,1,8,.fn,true,.nilFunc⟩
def ti328:TI:=⟨.int .i64,1,8,(.int .i64),true,.int .i64 0⟩
def ti330:TI:=⟨.fn,1,8,.fn,true,.nilFunc⟩
def ti331:TI:=⟨.ptr,1,8,.unit,false,.pointer none⟩
def ti332:TI:=⟨.fn,1,8,.fn,true,.nilFunc⟩
def ti333:TI:=⟨.fn,1,8,.fn,true,.nilFunc⟩
def ti334:TI:=⟨.fn,1,8,.fn,true,.nilFunc⟩
def ti335:TI:=⟨.fn,1,8,.fn,true,.nilFunc⟩
def ti336:TI:=⟨.fn,1,8,.fn,true,.nilFunc⟩
def ti337:TI:=⟨.fn,1,8,.fn,true,.nilFunc⟩
def ti338:TI:=⟨.fn,1,8,.fn,true,.nilFunc⟩
def ti340:TI:=⟨.fn,1,8,.fn,true,.nilFunc⟩
def ti341:TI:=⟨.slice 361,1,24,(.slice w30),true,.slice none 0 0⟩
def ti342:TI:=⟨.fn,1,8,.fn,true,.nilFunc⟩
def ti343:TI:=⟨.array 20 303,20,160,.unit,false,.agg (Array.replicate 20 (.int .u64 0))⟩
def ti344:TI:=⟨.array 65 5,65,65,.unit,false,.agg (Array.replicate 65 (.int .u8 0))⟩
def ti345:TI:=⟨.fn,1,8,.fn,true,.nilFunc⟩
def ti346:TI:=⟨.fn,1,8,.fn,true,.nilFunc⟩
def ti347:TI:=⟨.fn,1,8,.fn,true,.nilFunc⟩
def ti348:TI:=⟨.struct [(0,9),(1,9),(2,167)],3,48,.unit,false,.agg #[.string ⟨#[]⟩,.string ⟨#[]⟩,.nilIface]⟩
def ti349:TI:=⟨.struct [(0,9),(1,9),(2,167)],3,48,.unit,false,.agg #[.string ⟨#[]⟩,.string ⟨#[]⟩,.nilIface]⟩
def ti350:TI:=⟨.fn,1,8,.fn,true,.nilFunc⟩
def ti351:TI:=⟨.ptr,1,8,.unit,false,.pointer none⟩
def ti352:TI:=⟨.fn,1,8,.fn,true,.nilFunc⟩
def ti353:TI:=⟨.fn,1,8,.fn,true,.nilFunc⟩
def ti354:TI:=⟨.fn,1,8,.fn,true,.nilFunc⟩
def ti355:TI:=⟨.ptr,1,8,.unit,false,.pointer none⟩
def ti356:TI:=⟨.struct [(0,9)],1,16,M7,true,.agg #[.string ⟨#[]⟩]⟩
def ti357:TI:=⟨.struct [(0,9)],1,16,M7,true,.agg #[.string ⟨#[]⟩]⟩
def ti358:TI:=⟨.array 3 21,3,12,w66,true,.agg #[.int .i32 0,.int .i32 0,.int .i32 0]⟩
def ti359:TI:=⟨.array 3 21,3,12,w66,true,.agg #[.int .i32 0,.int .i32 0,.int .i32 0]⟩
def ti360:TI:=⟨.struct [(0,215),(1,215),(2,359)],5,20,w30,true,.agg #[.int .u32 0,.int .u32 0,.int .i32 0,.int .i32 0,.int .i32 0]⟩
def ti361:TI:=⟨.struct [(0,215),(1,215),(2,359)],5,20,w30,true,.agg #[.int .u32 0,.int .u32 0,.int .i32 0,.int .i32 0,.int .i32 0]⟩
def ti362:TI:=⟨.array 32 5,32,32,.unit,false,.agg (Array.replicate 32 (.int .u8 0))⟩
def ti363:TI:=⟨.array 64 5,64,64,.unit,false,.agg (Array.replicate 64 (.int .u8 0))⟩
def ti364:TI:=⟨.struct [(0,17),(1,17),(2,17),(3,9)],4,40,.unit,false,.agg #[.pointer none,.pointer none,.pointer none,.string ⟨#[]⟩]⟩
def ti365:TI:=⟨.struct [(0,17),(1,17),(2,17),(3,9)],4,40,.unit,false,.agg #[.pointer none,.pointer none,.pointer none,.string ⟨#[]⟩]⟩
def ti366:TI:=⟨.array 0 16,0,0,.unit,false,.agg #[]⟩
def ti367:TI:=⟨.struct [(0,366)],0,0,.unit,false,.agg #[]⟩
def ti368:TI:=⟨.struct [(0,366)],0,0,.unit,false,.agg #[]⟩
def ti369:TI:=⟨.int .u8,1,1,(.int .u8),true,.int .u8 0⟩
def ti370:TI:=⟨.int .u8,1,1,(.int .u8),true,.int .u8 0⟩
def ti371:TI:=⟨.fn,1,8,.fn,true,.nilFunc⟩
def ti372:TI:=⟨.int .i32,1,4,(.int .i32),true,.int .i32 0⟩
def ti373:TI:=⟨.int .i32,1,4,(.int .i32),true,.int .i32 0⟩
def ti374:TI:=⟨.struct [(0,12),(1,12),(2,215),(3,369),(4,5),(5,5),(6,370),(7,371),(8,191),(9,372),(10,373)],11,48,.unit,false,.agg #[.int .u64 0,.int .u64 0,.int .u32 0,.int .u8 0,.int .u8 0,.int .u8 0,.int .u8 0,.nilFunc,.pointer none,.int .i32 0,.int .i32 0]⟩
def ti375:TI:=⟨.struct [(0,12),(1,12),(2,215),(3,369),(4,5),(5,5),(6,370),(7,371),(8,191),(9,372),(10,373)],11,48,.unit,false,.agg #[.int .u64 0,.int .u64 0,.int .u32 0,.int .u8 0,.int .u8 0,.int .u8 0,.int .u8 0,.nilFunc,.pointer none,.int .i32 0,.int .i32 0]⟩
inductive BT where
 | leaf (k:Nat) (x:TI)
 | node (k:Nat) (l r:BT)
def BT.look:BT → Nat → Option TI
 | .leaf k x,t=>bif Nat.beq t k then some x else none
 | .node k l r,t=>bif Nat.blt t k then l.look t else r.look t
def Tt:BT:=(.node 187 (.node 90 (.node 44 (.node 23 (.node 11 (.node 6 (.node 3 (.node 2 (.leaf 1 ti1) (.leaf 2 ti2)) (.node 4 (.leaf 3 ti3) (.node 5 (.leaf 4 ti4) (.leaf 5 ti5)))) (.node 8 (.node 7 (.leaf 6 ti6) (.leaf 7 ti7)) (.node 9 (.leaf 8 ti8) (.node 10 (.leaf 9 ti9) (.leaf 10 ti10))))) (.node 16 (.node 13 (.node 12 (.leaf 11 ti11) (.leaf 12 ti12)) (.node 14 (.leaf 13 ti13) (.node 15 (.leaf 14 ti14) (.leaf 15 ti15)))) (.node 19 (.node 17 (.leaf 16 ti16) (.node 18 (.leaf 17 ti17) (.leaf 18 ti18))) (.node 21 (.leaf 19 ti19) (.node 22 (.leaf 21 ti21) (.leaf 22 ti22)))))) (.node 33 (.node 28 (.node 25 (.node 24 (.leaf 23 ti23) (.leaf 24 ti24)) (.node 26 (.leaf 25 ti25) (.node 27 (.leaf 26 ti26) (.leaf 27 ti27)))) (.node 30 (.node 29 (.leaf 28 ti28) (.leaf 29 ti29)) (.node 31 (.leaf 30 ti30) (.node 32 (.leaf 31 ti31) (.leaf 32 ti32))))) (.node 38 (.node 35 (.node 34 (.leaf 33 ti33) (.leaf 34 ti34)) (.node 36 (.leaf 35 ti35) (.node 37 (.leaf 36 ti36) (.leaf 37 ti37)))) (.node 41 (.node 39 (.leaf 38 ti38) (.node 40 (.leaf 39 ti39) (.leaf 40 ti40))) (.node 42 (.leaf 41 ti41) (.node 43 (.leaf 42 ti42) (.leaf 43 ti43))))))) (.node 68 (.node 56 (.node 49 (.node 46 (.node 45 (.leaf 44 ti44) (.leaf 45 ti45)) (.node 47 (.leaf 46 ti46) (.node 48 (.leaf 47 ti47) (.leaf 48 ti48)))) (.node 52 (.node 51 (.leaf 49 ti49) (.leaf 51 ti51)) (.node 53 (.leaf 52 ti52) (.node 54 (.leaf 53 ti53) (.leaf 54 ti54))))) (.node 61 (.node 58 (.node 57 (.leaf 56 ti56) (.leaf 57 ti57)) (.node 59 (.leaf 58 ti58) (.node 60 (.leaf 59 ti59) (.leaf 60 ti60)))) (.node 65 (.node 62 (.leaf 61 ti61) (.node 64 (.leaf 62 ti62) (.leaf 64 ti64))) (.node 66 (.leaf 65 ti65) (.node 67 (.leaf 66 ti66) (.leaf 67 ti67)))))) (.node 78 (.node 73 (.node 70 (.node 69 (.leaf 68 ti68) (.leaf 69 ti69)) (.node 71 (.leaf 70 ti70) (.node 72 (.leaf 71 ti71) (.leaf 72 ti72)))) (.node 75 (.node 74 (.leaf 73 ti73) (.leaf 74 ti74)) (.node 76 (.leaf 75 ti75) (.node 77 (.leaf 76 ti76) (.leaf 77 ti77))))) (.node 83 (.node 80 (.node 79 (.leaf 78 ti78) (.leaf 79 ti79)) (.node 81 (.leaf 80 ti80) (.node 82 (.leaf 81 ti81) (.leaf 82 ti82)))) (.node 86 (.node 84 (.leaf 83 ti83) (.node 85 (.leaf 84 ti84) (.leaf 85 ti85))) (.node 87 (.leaf 86 ti86) (.node 89 (.leaf 87 ti87) (.leaf 89 ti89)))))))) (.node 137 (.node 114 (.node 102 (.node 97 (.node 94 (.node 92 (.leaf 90 ti90) (.leaf 92 ti92)) (.node 95 (.leaf 94 ti94) (.node 96 (.leaf 95 ti95) (.leaf 96 ti96)))) (.node 99 (.node 98 (.leaf 97 ti97) (.leaf 98 ti98)) (.node 100 (.leaf 99 ti99) (.node 101 (.leaf 100 ti100) (.leaf 101 ti101))))) (.node 108 (.node 105 (.node 104 (.leaf 102 ti102) (.leaf 104 ti104)) (.node 106 (.leaf 105 ti105) (.node 107 (.leaf 106 ti106) (.leaf 107 ti107)))) (.node 111 (.node 109 (.leaf 108 ti108) (.node 110 (.leaf 109 ti109) (.leaf 110 ti110))) (.node 112 (.leaf 111 ti111) (.node 113 (.leaf 112 ti112) (.leaf 113 ti113)))))) (.node 125 (.node 120 (.node 117 (.node 115 (.leaf 114 ti114) (.leaf 115 ti115)) (.node 118 (.leaf 117 ti117) (.node 119 (.leaf 118 ti118) (.leaf 119 ti119)))) (.node 122 (.node 121 (.leaf 120 ti120) (.leaf 121 ti121)) (.node 123 (.leaf 122 ti122) (.node 124 (.leaf 123 ti123) (.leaf 124 ti124))))) (.node 131 (.node 128 (.node 127 (.leaf 125 ti125) (.leaf 127 ti127)) (.node 129 (.leaf 128 ti128) (.node 130 (.leaf 129 ti129) (.leaf 130 ti130)))) (.node 134 (.node 132 (.leaf 131 ti131) (.node 133 (.leaf 132 ti132) (.leaf 133 ti133))) (.node 135 (.leaf 134 ti134) (.node 136 (.leaf 135 ti135) (.leaf 136 ti136))))))) (.node 159 (.node 147 (.node 142 (.node 139 (.node 138 (.leaf 137 ti137) (.leaf 138 ti138)) (.node 140 (.leaf 139 ti139) (.node 141 (.leaf 140 ti140) (.leaf 141 ti141)))) (.node 144 (.node 143 (.leaf 142 ti142) (.leaf 143 ti143)) (.node 145 (.leaf 144 ti144) (.node 146 (.leaf 145 ti145) (.leaf 146 ti146))))) (.node 152 (.node 149 (.node 148 (.leaf 147 ti147) (.leaf 148 ti148)) (.node 150 (.leaf 149 ti149) (.node 151 (.leaf 150 ti150) (.leaf 151 ti151)))) (.node 156 (.node 154 (.leaf 152 ti152) (.node 155 (.leaf 154 ti154) (.leaf 155 ti155))) (.node 157 (.leaf 156 ti156) (.node 158 (.leaf 157 ti157) (.leaf 158 ti158)))))) (.node 172 (.node 164 (.node 161 (.node 160 (.leaf 159 ti159) (.leaf 160 ti160)) (.node 162 (.leaf 161 ti161) (.node 163 (.leaf 162 ti162) (.leaf 163 ti163)))) (.node 169 (.node 165 (.leaf 164 ti164) (.node 167 (.leaf 165 ti165) (.leaf 167 ti167))) (.node 170 (.leaf 169 ti169) (.node 171 (.leaf 170 ti170) (.leaf 171 ti171))))) (.node 179 (.node 174 (.node 173 (.leaf 172 ti172) (.leaf 173 ti173)) (.node 176 (.leaf 174 ti174) (.node 178 (.leaf 176 ti176) (.leaf 178 ti178)))) (.node 183 (.node 180 (.leaf 179 ti179) (.node 181 (.leaf 180 ti180) (.leaf 181 ti181))) (.node 185 (.leaf 183 ti183) (.node 186 (.leaf 185 ti185) (.leaf 186 ti186))))))))) (.node 285 (.node 236 (.node 215 (.node 198 (.node 192 (.node 189 (.node 188 (.leaf 187 ti187) (.leaf 188 ti188)) (.node 190 (.leaf 189 ti189) (.node 191 (.leaf 190 ti190) (.leaf 191 ti191)))) (.node 195 (.node 194 (.leaf 192 ti192) (.leaf 194 ti194)) (.node 196 (.leaf 195 ti195) (.node 197 (.leaf 196 ti196) (.leaf 197 ti197))))) (.node 206 (.node 202 (.node 200 (.leaf 198 ti198) (.leaf 200 ti200)) (.node 203 (.leaf 202 ti202) (.node 204 (.leaf 203 ti203) (.leaf 204 ti204)))) (.node 211 (.node 208 (.leaf 206 ti206) (.node 210 (.leaf 208 ti208) (.leaf 210 ti210))) (.node 212 (.leaf 211 ti211) (.node 214 (.leaf 212 ti212) (.leaf 214 ti214)))))) (.node 225 (.node 220 (.node 217 (.node 216 (.leaf 215 ti215) (.leaf 216 ti216)) (.node 218 (.leaf 217 ti217) (.node 219 (.leaf 218 ti218) (.leaf 219 ti219)))) (.node 222 (.node 221 (.leaf 220 ti220) (.leaf 221 ti221)) (.node 223 (.leaf 222 ti222) (.node 224 (.leaf 223 ti223) (.leaf 224 ti224))))) (.node 230 (.node 227 (.node 226 (.leaf 225 ti225) (.leaf 226 ti226)) (.node 228 (.leaf 227 ti227) (.node 229 (.leaf 228 ti228) (.leaf 229 ti229)))) (.node 233 (.node 231 (.leaf 230 ti230) (.node 232 (.leaf 231 ti231) (.leaf 232 ti232))) (.node 234 (.leaf 233 ti233) (.node 235 (.leaf 234 ti234) (.leaf 235 ti235))))))) (.node 260 (.node 249 (.node 242 (.node 239 (.node 238 (.leaf 236 ti236) (.leaf 238 ti238)) (.node 240 (.leaf 239 ti239) (.node 241 (.leaf 240 ti240) (.leaf 241 ti241)))) (.node 245 (.node 244 (.leaf 242 ti242) (.leaf 244 ti244)) (.node 246 (.leaf 245 ti245) (.node 247 (.leaf 246 ti246) (.leaf 247 ti247))))) (.node 254 (.node 251 (.node 250 (.leaf 249 ti249) (.leaf 250 ti250)) (.node 252 (.leaf 251 ti251) (.node 253 (.leaf 252 ti252) (.leaf 253 ti253)))) (.node 257 (.node 255 (.leaf 254 ti254) (.node 256 (.leaf 255 ti255) (.leaf 256 ti256))) (.node 258 (.leaf 257 ti257) (.node 259 (.leaf 258 ti258) (.leaf 259 ti259)))))) (.node 272 (.node 266 (.node 263 (.node 262 (.leaf 260 ti260) (.leaf 262 ti262)) (.node 264 (.leaf 263 ti263) (.node 265 (.leaf 264 ti264) (.leaf 265 ti265)))) (.node 268 (.node 267 (.leaf 266 ti266) (.leaf 267 ti267)) (.node 270 (.leaf 268 ti268) (.node 271 (.leaf 270 ti270) (.leaf 271 ti271))))) (.node 279 (.node 276 (.node 273 (.leaf 272 ti272) (.leaf 273 ti273)) (.node 277 (.leaf 276 ti276) (.node 278 (.leaf 277 ti277) (.leaf 278 ti278)))) (.node 282 (.node 280 (.leaf 279 ti279) (.node 281 (.leaf 280 ti280) (.leaf 281 ti281))) (.node 283 (.leaf 282 ti282) (.node 284 (.leaf 283 ti283) (.leaf 284 ti284)))))))) (.node 332 (.node 307 (.node 295 (.node 290 (.node 287 (.node 286 (.leaf 285 ti285) (.leaf 286 ti286)) (.node 288 (.leaf 287 ti287) (.node 289 (.leaf 288 ti288) (.leaf 289 ti289)))) (.node 292 (.node 291 (.leaf 290 ti290) (.leaf 291 ti291)) (.node 293 (.leaf 292 ti292) (.node 294 (.leaf 293 ti293) (.leaf 294 ti294))))) (.node 301 (.node 297 (.node 296 (.leaf 295 ti295) (.leaf 296 ti296)) (.node 299 (.leaf 297 ti297) (.node 300 (.leaf 299 ti299) (.leaf 300 ti300)))) (.node 304 (.node 302 (.leaf 301 ti301) (.node 303 (.leaf 302 ti302) (.leaf 303 ti303))) (.node 305 (.leaf 304 ti304) (.node 306 (.leaf 305 ti305) (.leaf 306 ti306)))))) (.node 317 (.node 312 (.node 309 (.node 308 (.leaf 307 ti307) (.leaf 308 ti308)) (.node 310 (.leaf 309 ti309) (.node 311 (.leaf 310 ti310) (.leaf 311 ti311)))) (.node 314 (.node 313 (.leaf 312 ti312) (.leaf 313 ti313)) (.node 315 (.leaf 314 ti314) (.node 316 (.leaf 315 ti315) (.leaf 316 ti316))))) (.node 324 (.node 319 (.node 318 (.leaf 317 ti317) (.leaf 318 ti318)) (.node 320 (.leaf 319 ti319) (.node 322 (.leaf 320 ti320) (.leaf 322 ti322)))) (.node 328 (.node 326 (.leaf 324 ti324) (.node 327 (.leaf 326 ti326) (.leaf 327 ti327))) (.node 330 (.leaf 328 ti328) (.node 331 (.leaf 330 ti330) (.leaf 331 ti331))))))) (.node 354 (.node 343 (.node 337 (.node 334 (.node 333 (.leaf 332 ti332) (.leaf 333 ti333)) (.node 335 (.leaf 334 ti334) (.node 336 (.leaf 335 ti335) (.leaf 336 ti336)))) (.node 340 (.node 338 (.leaf 337 ti337) (.leaf 338 ti338)) (.node 341 (.leaf 340 ti340) (.node 342 (.leaf 341 ti341) (.leaf 342 ti342))))) (.node 348 (.node 345 (.node 344 (.leaf 343 ti343) (.leaf 344 ti344)) (.node 346 (.leaf 345 ti345) (.node 347 (.leaf 346 ti346) (.leaf 347 ti347)))) (.node 351 (.node 349 (.leaf 348 ti348) (.node 350 (.leaf 349 ti349) (.leaf 350 ti350))) (.node 352 (.leaf 351 ti351) (.node 353 (.leaf 352 ti352) (.leaf 353 ti353)))))) (.node 365 (.node 359 (.node 356 (.node 355 (.leaf 354 ti354) (.leaf 355 ti355)) (.node 357 (.leaf 356 ti356) (.node 358 (.leaf 357 ti357) (.leaf 358 ti358)))) (.node 362 (.node 360 (.leaf 359 ti359) (.node 361 (.leaf 360 ti360) (.leaf 361 ti361))) (.node 363 (.leaf 362 ti362) (.node 364 (.leaf 363 ti363) (.leaf 364 ti364))))) (.node 370 (.node 367 (.node 366 (.leaf 365 ti365) (.leaf 366 ti366)) (.node 368 (.leaf 367 ti367) (.node 369 (.leaf 368 ti368) (.leaf 369 ti369)))) (.node 373 (.node 371 (.leaf 370 ti370) (.node 372 (.leaf 371 ti371) (.leaf 372 ti372))) (.node 374 (.leaf 373 ti373) (.node 375 (.leaf 374 ti374) (.leaf 375 ti375))))))))))
def T (t:Nat):Option TI:=Tt.look t
noncomputable abbrev Pg:Program:=Go.Proofs.Tryz.prog
def a12:List Int:=[240,240,240,240,240,240,240,240,240,240,240,240,240,240,240,240,240,240,240,240,240,240,240,240,240,240,240,240,240,240,240,240,240,240,240,240,240,240,240,240,240,240,240,240,240,240,240,240,240,240,240,240,240,240,240,240,240,240,240,240,240,240,240,240,240,240,240,240,240,240,240,240,240,240,240,240,240,240,240,240,240,240,240,240,240,240,240,240,240,240,240,240,240,240,240,240,240,240,240,240,240,240,240,240,240,240,240,240,240,240,240,240,240,240,240,240,240,240,240,240,240,240,240,240,240,240,240,240,241,241,241,241,241,241,241,241,241,241,241,241,241,241,241,241,241,241,241,241,241,241,241,241,241,241,241,241,241,241,241,241,241,241,241,241,241,241,241,241,241,241,241,241,241,241,241,241,241,241,241,241,241,241,241,241,241,241,241,241,241,241,241,241,241,241,2,2,2,2,2,2,2,2,2,2,2,2,2,2,2,2,2,2,2,2,2,2,2,2,2,2,2,2,2,2,19,3,3,3,3,3,3,3,3,3,3,3,3,35,3,3,52,4,4,4,68,241,241,241,241,241,241,241,241,241,241,241]
def a91:List (Ty.den T7):=[((128:Int),((191:Int),())),((160:Int),((191:Int),())),((128:Int),((159:Int),())),((144:Int),((191:Int),())),((128:Int),((143:Int),())),((0:Int),((0:Int),())),((0:Int),((0:Int),())),((0:Int),((0:Int),())),((0:Int),((0:Int),())),((0:Int),((0:Int),())),((0:Int),((0:Int),())),((0:Int),((0:Int),())),((0:Int),((0:Int),())),((0:Int),((0:Int),())),((0:Int),((0:Int),())),((0:Int),((0:Int),()))]
def tab32:List Int:=[0,1,28,2,29,14,24,3,30,22,20,15,25,17,4,8,31,27,13,23,21,19,16,7,26,12,18,6,11,5,10,9]
def tab64:List Int:=[0,1,56,2,57,49,28,3,61,58,42,50,38,29,17,4,62,47,59,36,45,43,51,22,53,39,33,30,24,18,12,5,63,55,48,27,60,41,37,16,46,35,44,21,52,32,23,11,54,26,40,15,34,20,31,10,25,14,19,9,13,8,7,6]
def globL (g:Nat):Option Glob:=bif Nat.beq g 8 then some ⟨.int .u8,tab64⟩ else bif Nat.beq g 7 then some ⟨.int .u8,tab32⟩ else bif Nat.beq g 1 then some ⟨T7,a91⟩ else bif Nat.beq g 0 then some ⟨.int .u8,a12⟩ else none
abbrev jk:AV:=.one (.sc .junk)
abbrev SI:Ty:=.slice (.int .i64)
abbrev zv (t:Ty):AV:=.one (.sc (.lf t (Ty.dflt t)))
abbrev zl (t:Ty):Sc:=.lf t (Ty.dflt t)
abbrev I6:Ty:=.int .i64
abbrev SB:Ty:=.slice (.int .u8)
def jka (n:Nat) (l:List AV):List AV:=l ++ List.replicate n jk
def dc (t:Ty):List Sc:=(leaves t t.dflt).map leafSc
def sigL:List (Nat × Sig) → Nat → Option Sig
 | [],_=>none
 | p :: r,K=>bif Nat.beq p.1 K then some p.2 else sigL r K
def inlL:List (Nat × Func) → Nat → Option Func
 | [],_=>none
 | p :: r,K=>bif Nat.beq p.1 K then some p.2 else inlL r K
def primL:List (Nat × Prim) → Nat → Option Prim
 | [],_=>none
 | p :: r,K=>bif Nat.beq p.1 K then some p.2 else primL r K
def annL:List (Nat × Ann) → Nat → Ann
 | [],_=>⟨none,[],[],none⟩
 | p :: r,K=>bif Nat.beq p.1 K then p.2 else annL r K
def fuel:Nat:=1000000000000
structure WI (w:World) (I:Cells):Prop where
 tabs:∀ g G,globL g = some G → GlobOk w I g G
 own:I 2 0
 max:∃ m,w.cell? ⟨2,0,none⟩ = some (.int .i64 m)
structure Base0:Prop where
 types:TypesOk Pg T
 arrs:ArrsOk T
 mixed:Pg.follows .mixedOrders = true
structure Told (K:FuncId) (sg:Sig):Prop where
 ct:Contract Pg WI K sg
 en:Enters Pg K
structure ToldP (K:FuncId) (p:Prim):Prop where
 ct:PrimOk Pg WI K p
 en:Enters Pg K
def AllT:List (Nat × Sig) → Prop
 | []=>True
 | p :: r=>Told p.1 p.2 ∧ AllT r
def AllP:List (Nat × Prim) → Prop
 | []=>True
 | p :: r=>ToldP p.1 p.2 ∧ AllP r
def IsFn (K:FuncId) (fn:Func):Prop:=Pg.funcs[K]? = some fn ∧ Enters Pg K
def AllI:List (Nat × Func) → Prop
 | []=>True
 | p :: r=>IsFn p.1 p.2 ∧ AllI r
theorem AllT.get:∀ {l:List (Nat × Sig)},AllT l → ∀ {K:Nat} {sg:Sig},sigL l K = some sg → Told K sg
 | [],_,_,_,h=>by cases h
 | p :: r,hl,K,sg,h=>by
  simp only [sigL] at h
  cases hb:Nat.beq p.1 K with
  | true =>
   rw [hb] at h
   cases h
   have:=Nat.eq_of_beq_eq_true hb
   subst this
   exact hl.1
  | false=>rw [hb] at h; exact AllT.get hl.2 h
theorem AllP.get:∀ {l:List (Nat × Prim)},AllP l → ∀ {K:Nat} {p:Prim},primL l K = some p → ToldP K p
 | [],_,_,_,h=>by cases h
 | p :: r,hl,K,sg,h=>by
  simp only [primL] at h
  cases hb:Nat.beq p.1 K with
  | true =>
   rw [hb] at h
   cases h
   have:=Nat.eq_of_beq_eq_true hb
   subst this
   exact hl.1
  | false=>rw [hb] at h; exact AllP.get hl.2 h
theorem AllI.get:∀ {l:List (Nat × Func)},AllI l → ∀ {K:Nat} {fn:Func},inlL l K = some fn → IsFn K fn ∧ (K,fn) ∈ l
 | [],_,_,_,h=>by cases h
 | p :: r,hl,K,sg,h=>by
  simp only [inlL] at h
  cases hb:Nat.beq p.1 K with
  | true =>
   rw [hb] at h
   cases h
   have:=Nat.eq_of_beq_eq_true hb
   subst this
   exact ⟨hl.1,List.mem_cons_self⟩
  | false=>rw [hb] at h; have:=AllI.get hl.2 h; exact ⟨this.1,List.mem_cons_of_mem _ this.2⟩
theorem w14 (w w':World) (I I':Cells) (k:Keeps w w' I I') (h:WI w I):WI w' I':=by
 obtain ⟨h1,h2⟩:=k.1 2 0 h.own
 refine ⟨fun g G hG=>?_,h1,?_⟩
 ·obtain ⟨vs,h1,h2⟩:=h.tabs g G hG
  exact ⟨vs,h1.mono fun _ _ hr=>RepC.mono k _ _ _ hr,h2.mono k⟩
 ·obtain ⟨m,hm⟩:=h.max
  exact ⟨m,h2.trans hm⟩
theorem env_ok (h:Base0) {l:List (Nat × Sig)} {il:List (Nat × Func)} {pl:List (Nat × Prim)} {an:Nat → Ann} {fns:List FuncId}
  (hs:AllT l) (hi:AllI il) (hp:AllP pl):EnvOk Pg ⟨T,sigL l,inlL il,an,fns,primL pl,globL⟩ WI :=
 {types:=h.types
  sigs:=fun _ _ hk=>(hs.get hk).ct
  inls:=fun _ _ hk=>(hi.get hk).1.1
  prims:=fun _ _ hk=>(hp.get hk).ct
  globs:=fun g G hG _ _ hw=>hw.tabs g G hG
  arrs:=h.arrs
  enters:=fun K hk=>by
   rcases hk with hk | hk | hk
   ·cases hq:sigL l K with
    | none=>rw [show (Env.sig ⟨T,sigL l,inlL il,an,fns,primL pl,globL⟩ K) = none from hq] at hk; cases hk
    | some sg=>exact (hs.get hq).en
   ·cases hq:inlL il K with
    | none=>rw [show (Env.inl ⟨T,sigL l,inlL il,an,fns,primL pl,globL⟩ K) = none from hq] at hk; cases hk
    | some fn=>exact (hi.get hq).1.2
   ·cases hq:primL pl K with
    | none=>rw [show (Env.prim ⟨T,sigL l,inlL il,an,fns,primL pl,globL⟩ K) = none from hq] at hk; cases hk
    | some fn=>exact (hp.get hq).en
  wi:=w14
  mixed:=h.mixed }
theorem some_of {α:Type} {o:Option α} {d:α} (h:o.isSome = true):o = some (o.getD d):=by
 cases o with
 | none=>cases h
 | some x=>rfl
def dfltA:(ts:List Ty) → Args ts
 | []=>()
 | t :: ts=>(Ty.dflt t,dfltA ts)
def bodyOf (fn:Func):Code:=fn.body.getD .skip
theorem D07 {fn:Func} {C:Code → Prop} (h:∀ c ∈ loopsOf (bodyOf fn),C c):∀ body,fn.body = some body → ∀ c' ∈ loopsOf body,C c':=by
 intro body hb c' hc
 refine h c' ?_
 unfold bodyOf
 rw [hb]
 exact hc
def mkSg (args res:List Ty) (fresh:Bool) (raw:Args args → Option (Args res)):Sig :=
 ⟨args,res,fresh,fun x=>(raw x).isSome,fun x=>(raw x).getD (dfltA res)⟩
def loopsL (fn:Func) (il:List (Nat × Func)):List Code:=loopsOf (bodyOf fn) ++ il.flatMap fun p=>loopsOf (bodyOf p.2)
theorem T4 {fn:Func} {il:List (Nat × Func)}:∀ c,c ∈ loopsL fn il → ∀ c' ∈ loopsOf c,c' ∈ loopsL fn il:=by
 intro c hc c' hc'
 unfold loopsL at hc ⊢
 rw [List.mem_append] at hc ⊢
 rcases hc with hc | hc
 ·exact .inl (loops_sub _ hc hc')
 ·rw [List.mem_flatMap] at hc ⊢
  obtain ⟨p,hp,hc⟩:=hc
  exact .inr ⟨p,hp,loops_sub _ hc hc'⟩
theorem T5 (h:Base0) {n:Nat} {fn:Func} (hf:IsFn n fn) {l:List (Nat × Sig)} {il:List (Nat × Func)} {pl:List (Nat × Prim)} {an:Nat → Ann} {fns:List FuncId}
  (hs:AllT l) (hi:AllI il) (hp:AllP pl) {args res:List Ty} {fresh:Bool} {raw:Args args → Option (Args res)}
  {L:Nat → Code → St → (X → St → Option (Args res)) → Option (Args res)} (hg:Good ⟨T,sigL l,inlL il,an,fns,primL pl,globL⟩ (fun c=>c ∈ loopsL fn il) L)
  (he:∀ x,runFn ⟨T,sigL l,inlL il,an,fns,primL pl,globL⟩ fn args res fresh (L fuel) x = raw x):Told n (mkSg args res fresh raw):=by
 refine ⟨C43 (C:=fun c=>c ∈ loopsL fn il) (env_ok h hs hi hp) hf.1 (mkSg args res fresh raw) (L:=L) hg ?_ ?_ ?_,hf.2⟩
 ·exact D07 fun c hc=>List.mem_append_left _ hc
 ·intro K fn' body hk hb c hc
  have hm:=(hi.get hk).2
  refine List.mem_append_right _ (List.mem_flatMap.2 ⟨_,hm,?_⟩)
  unfold bodyOf
  rw [hb]
  exact hc
 ·intro x hx
  exact ⟨fuel,(he x).trans (some_of hx)⟩
theorem a14 {E:Env} {R:Type} {fn:Func} {il:List (Nat × Func)}:Good (R:=R) E (fun c=>c ∈ loopsL fn il) (fun _ _ _ _=>none) :=
 ⟨fun _ _ _ _ _ h=>(nomatch h),fun _ _ _ _ _ _ h=>(nomatch h),fun c hc=>T4 c hc⟩
noncomputable def hid {α:Type} (a:α):α:=Classical.choose (⟨a,rfl⟩:∃ b,b = a)
theorem a85 {α:Type} (a:α):hid a = a:=Classical.choose_spec (⟨a,rfl⟩:∃ b,b = a)
noncomputable def hsg (sg:Sig):Sig:=⟨sg.args,sg.res,sg.fresh,hid sg.dom,hid sg.val⟩
theorem hsg_eq (sg:Sig):hsg sg = sg:=by unfold hsg; rw [a85,a85]
theorem Told.hide {n:Nat} {sg:Sig} (h:Told n sg):Told n (hsg sg):=(hsg_eq sg).symm ▸ h
abbrev mkE (l:List (Nat × Sig)):Env:=⟨T,sigL l,inlL [],annL [],[],primL [],globL⟩
abbrev runS (E:Env) (fn:Func) (sg:Sig) (L:Code → St → (X → St → Option (Args sg.res)) → Option (Args sg.res)) (x:Args sg.args):Option (Args sg.res):=runFn E fn sg.args sg.res sg.fresh L x
abbrev nL {R:Type} (_:Nat):Code → St → (X → St → Option R) → Option R:=fun _ _ _=>none
theorem told_n (h:Base0) {n:Nat} {fn:Func} (hf:IsFn n fn) {l:List (Nat × Sig)} (hs:AllT l) {args res:List Ty} {fresh:Bool} {raw:Args args → Option (Args res)}
  (he:∀ x,runFn (mkE l) fn args res fresh (nL fuel) x = raw x):Told n (mkSg args res fresh raw) :=
 T5 h hf hs (il:=[]) (pl:=[]) trivial trivial (L:=nL) a14 he
end Pt
end
section
open Go Go.Am
namespace Pt
set_option maxRecDepth 100000
theorem mkOk {t:TypeId} {ti:TI} (h1:(Pg.info? t).map (fun i=>(i.size,i.bytes,i.zero)) = some (ti.size,ti.bytes,some ti.zero)) (h2:(Pg.underlying t).map tdOf = some ti.td)
  (h3:ti.hasTy = true → ti.zero.cells.toList = zc ti.ty ∧ 0 < ti.size ∧ ti.ty.width = ti.size):TypeOk Pg t ti:=by
 refine ⟨?_,?_,h3⟩
 ·cases hi:Pg.info? t with
  | none=>rw [hi] at h1; cases h1
  | some i =>
   rw [hi] at h1
   simp only [Option.map_some,Option.some.injEq,Prod.mk.injEq] at h1
   exact ⟨i,rfl,h1.1,h1.2.1,h1.2.2⟩
 ·cases hd:Pg.underlying t with
  | none=>rw [hd] at h2; cases h2
  | some d =>
   rw [hd] at h2
   simp only [Option.map_some,Option.some.injEq] at h2
   exact ⟨d,rfl,h2⟩
def BT.All (p:Nat → TI → Prop):BT → Prop
 | .leaf k x=>p k x
 | .node _ l r=>l.All p ∧ r.All p
theorem BT.All.get {p:Nat → TI → Prop}:∀ {b:BT},b.All p → ∀ {t:Nat} {ti:TI},b.look t = some ti → p t ti
 | .leaf k x,h,t,ti,hl=>by
  simp only [BT.look] at hl
  cases hb:Nat.beq t k with
  | true =>
   rw [hb] at hl
   cases hl
   have:=Nat.eq_of_beq_eq_true hb
   subst this
   exact h
  | false=>rw [hb] at hl; cases hl
 | .node k l r,h,t,ti,hl=>by
  simp only [BT.look] at hl
  cases hb:Nat.blt t k with
  | true=>rw [hb] at hl; exact h.1.get hl
  | false=>rw [hb] at hl; exact h.2.get hl
def ArrOne (ti:TI):Prop:=∀ n e te,ti.td = .array n e → T e = some te → te.hasTy = true → ti.zero.cells.toList = (List.replicate n (zc te.ty)).flatten
def BT.leaves:BT → List (Nat × TI)
 | .leaf k x=>[(k,x)]
 | .node _ l r=>l.leaves ++ r.leaves
theorem BT.all_of {P:Nat → TI → Prop}:∀ t:BT,(∀ p,p ∈ t.leaves → P p.1 p.2) → t.All P
 | .leaf k x,h=>h (k,x) (List.mem_singleton.2 rfl)
 | .node _ l r,h=>⟨BT.all_of l fun p hp=>h p (List.mem_append.2 (.inl hp)),BT.all_of r fun p hp=>h p (List.mem_append.2 (.inr hp))⟩
def arrL (ti:TI):List Value:=match ti.td with
 | .array _ e=>(match T e with | some te=>bif te.hasTy then ti.zero.cells.toList else [] | none=>[])
 | _=>[]
def arrR (ti:TI):List Value:=match ti.td with
 | .array n e=>(match T e with | some te=>bif te.hasTy then (List.replicate n (zc te.ty)).flatten else [] | none=>[])
 | _=>[]
def tyL (p:Nat × TI):=((Pg.info? p.1).map (fun i=>(i.size,i.bytes,i.zero)),(Pg.underlying p.1).map tdOf,(bif p.2.hasTy then (p.2.zero.cells.toList,decide (0 < p.2.size),p.2.ty.width) else ([],true,0)),arrL p.2)
def tyR (p:Nat × TI):=(some (p.2.size,p.2.bytes,some p.2.zero),some p.2.td,(bif p.2.hasTy then (zc p.2.ty,true,p.2.size) else ([],true,0)),arrR p.2)
theorem all_ty:Tt.leaves.map tyL = Tt.leaves.map tyR:=by kernel_rfl
theorem allOk:Tt.All (fun t ti=>TypeOk Pg t ti ∧ ArrOne ti):=BT.all_of Tt fun p hp=>by
 have h:=List.map_inj_left.1 all_ty p hp
 have h1:(Pg.info? p.1).map (fun i=>(i.size,i.bytes,i.zero)) = some (p.2.size,p.2.bytes,some p.2.zero):=congrArg (fun x=>x.1) h
 have h2:(Pg.underlying p.1).map tdOf = some p.2.td:=congrArg (fun x=>x.2.1) h
 have h3:(bif p.2.hasTy then (p.2.zero.cells.toList,decide (0 < p.2.size),p.2.ty.width) else ([],true,0)) = (bif p.2.hasTy then (zc p.2.ty,true,p.2.size) else ([],true,0)):=congrArg (fun x=>x.2.2.1) h
 have h4:arrL p.2 = arrR p.2:=congrArg (fun x=>x.2.2.2) h
 refine ⟨mkOk h1 h2 fun hh=>?_,fun n e te htd hte hty=>?_⟩
 ·rw [hh] at h3
  exact ⟨congrArg (fun x=>x.1) h3,of_decide_eq_true (congrArg (fun x=>x.2.1) h3),congrArg (fun x=>x.2.2) h3⟩
 ·unfold arrL arrR at h4
  simp only [htd,hte,hty,cond_true] at h4
  exact h4
theorem base0:Base0 :=
 ⟨fun _ _ h=>(allOk.get h).1,fun _ _ n e te h=>(allOk.get h).2 n e te,by kernel_rfl⟩
end Pt
end
section
open Go Go.Am Go.Proofs
namespace Pt
theorem isf {K:Nat} {fn:Func} (h:Pg.funcs[K]? = some fn) (g:((fn.name == "runtime.NumGoroutine"),fn.body.isNone) = (false,false)):IsFn K fn:=⟨h,fn,h,congrArg (fun x=>x.1) g,congrArg (fun x=>x.2) g⟩
theorem fn7:IsFn 7 Tryz.f7:=isf Tryz.func7 (by kernel_rfl)
theorem fn15:IsFn 15 Tryz.f15:=isf Tryz.func15 (by kernel_rfl)
theorem fn16:IsFn 16 Tryz.f16:=isf Tryz.func16 (by kernel_rfl)
theorem fn17:IsFn 17 Tryz.f17:=isf Tryz.func17 (by kernel_rfl)
theorem fn18:IsFn 18 Tryz.f18:=isf Tryz.func18 (by kernel_rfl)
theorem fn19:IsFn 19 Tryz.f19:=isf Tryz.func19 (by kernel_rfl)
theorem fn20:IsFn 20 Tryz.f20:=isf Tryz.func20 (by kernel_rfl)
theorem fn22:IsFn 22 Tryz.f22:=isf Tryz.func22 (by kernel_rfl)
theorem fn23:IsFn 23 Tryz.f23:=isf Tryz.func23 (by kernel_rfl)
theorem fn24:IsFn 24 Tryz.f24:=isf Tryz.func24 (by kernel_rfl)
theorem fn25:IsFn 25 Tryz.f25:=isf Tryz.func25 (by kernel_rfl)
theorem fn27:IsFn 27 Tryz.f27:=isf Tryz.func27 (by kernel_rfl)
theorem fn28:IsFn 28 Tryz.f28:=isf Tryz.func28 (by kernel_rfl)
theorem fn29:IsFn 29 Tryz.f29:=isf Tryz.func29 (by kernel_rfl)
theorem fn31:IsFn 31 Tryz.f31:=isf Tryz.func31 (by kernel_rfl)
theorem fn34:IsFn 34 Tryz.f34:=isf Tryz.func34 (by kernel_rfl)
theorem fn35:IsFn 35 Tryz.f35:=isf Tryz.func35 (by kernel_rfl)
theorem fn36:IsFn 36 Tryz.f36:=isf Tryz.func36 (by kernel_rfl)
theorem fn37:IsFn 37 Tryz.f37:=isf Tryz.func37 (by kernel_rfl)
theorem fn54:IsFn 54 Tryz.f54:=isf Tryz.func54 (by kernel_rfl)
theorem fn55:IsFn 55 Tryz.f55:=isf Tryz.func55 (by kernel_rfl)
theorem fn56:IsFn 56 Tryz.f56:=isf Tryz.func56 (by kernel_rfl)
theorem fn57:IsFn 57 Tryz.f57:=isf Tryz.func57 (by kernel_rfl)
theorem fn58:IsFn 58 Tryz.f58:=isf Tryz.func58 (by kernel_rfl)
theorem fn59:IsFn 59 Tryz.f59:=isf Tryz.func59 (by kernel_rfl)
theorem fn60:IsFn 60 Tryz.f60:=isf Tryz.func60 (by kernel_rfl)
theorem fn62:IsFn 62 Tryz.f62:=isf Tryz.func62 (by kernel_rfl)
theorem fn63:IsFn 63 Tryz.f63:=isf Tryz.func63 (by kernel_rfl)
theorem fn64:IsFn 64 Tryz.f64:=isf Tryz.func64 (by kernel_rfl)
theorem fn66:IsFn 66 Tryz.f66:=isf Tryz.func66 (by kernel_rfl)
theorem fn67:IsFn 67 Tryz.f67:=isf Tryz.func67 (by kernel_rfl)
theorem fn68:IsFn 68 Tryz.f68:=isf Tryz.func68 (by kernel_rfl)
theorem fn69:IsFn 69 Tryz.f69:=isf Tryz.func69 (by kernel_rfl)
theorem fn72:IsFn 72 Tryz.f72:=isf Tryz.func72 (by kernel_rfl)
theorem fn73:IsFn 73 Tryz.f73:=isf Tryz.func73 (by kernel_rfl)
theorem fn85:IsFn 85 Tryz.f85:=isf Tryz.func85 (by kernel_rfl)
theorem fn86:IsFn 86 Tryz.f86:=isf Tryz.func86 (by kernel_rfl)
theorem fn87:IsFn 87 Tryz.f87:=isf Tryz.func87 (by kernel_rfl)
theorem fn89:IsFn 89 Tryz.f89:=isf Tryz.func89 (by kernel_rfl)
theorem fn90:IsFn 90 Tryz.f90:=isf Tryz.func90 (by kernel_rfl)
theorem fn91:IsFn 91 Tryz.f91:=isf Tryz.func91 (by kernel_rfl)
theorem fn92:IsFn 92 Tryz.f92:=isf Tryz.func92 (by kernel_rfl)
theorem fn93:IsFn 93 Tryz.f93:=isf Tryz.func93 (by kernel_rfl)
theorem fn94:IsFn 94 Tryz.f94:=isf Tryz.func94 (by kernel_rfl)
theorem fn95:IsFn 95 Tryz.f95:=isf Tryz.func95 (by kernel_rfl)
theorem fn100:IsFn 100 Tryz.f100:=isf Tryz.func100 (by kernel_rfl)
theorem fn106:IsFn 106 Tryz.f106:=isf Tryz.func106 (by kernel_rfl)
theorem fn107:IsFn 107 Tryz.f107:=isf Tryz.func107 (by kernel_rfl)
theorem fn108:IsFn 108 Tryz.f108:=isf Tryz.func108 (by kernel_rfl)
theorem fn109:IsFn 109 Tryz.f109:=isf Tryz.func109 (by kernel_rfl)
theorem fn110:IsFn 110 Tryz.f110:=isf Tryz.func110 (by kernel_rfl)
theorem fn111:IsFn 111 Tryz.f111:=isf Tryz.func111 (by kernel_rfl)
theorem fn112:IsFn 112 Tryz.f112:=isf Tryz.func112 (by kernel_rfl)
theorem fn113:IsFn 113 Tryz.f113:=isf Tryz.func113 (by kernel_rfl)
theorem fn114:IsFn 114 Tryz.f114:=isf Tryz.func114 (by kernel_rfl)
theorem fn115:IsFn 115 Tryz.f115:=isf Tryz.func115 (by kernel_rfl)
theorem fn116:IsFn 116 Tryz.f116:=isf Tryz.func116 (by kernel_rfl)
theorem fn117:IsFn 117 Tryz.f117:=isf Tryz.func117 (by kernel_rfl)
theorem fn118:IsFn 118 Tryz.f118:=isf Tryz.func118 (by kernel_rfl)
theorem fn119:IsFn 119 Tryz.f119:=isf Tryz.func119 (by kernel_rfl)
theorem fn120:IsFn 120 Tryz.f120:=isf Tryz.func120 (by kernel_rfl)
theorem fn121:IsFn 121 Tryz.f121:=isf Tryz.func121 (by kernel_rfl)
theorem fn129:IsFn 129 Tryz.f129:=isf Tryz.func129 (by kernel_rfl)
theorem fn131:IsFn 131 Tryz.f131:=isf Tryz.func131 (by kernel_rfl)
theorem fn132:IsFn 132 Tryz.f132:=isf Tryz.func132 (by kernel_rfl)
theorem fn133:IsFn 133 Tryz.f133:=isf Tryz.func133 (by kernel_rfl)
theorem fn134:IsFn 134 Tryz.f134:=isf Tryz.func134 (by kernel_rfl)
theorem fn135:IsFn 135 Tryz.f135:=isf Tryz.func135 (by kernel_rfl)
theorem fn136:IsFn 136 Tryz.f136:=isf Tryz.func136 (by kernel_rfl)
theorem fn137:IsFn 137 Tryz.f137:=isf Tryz.func137 (by kernel_rfl)
theorem fn138:IsFn 138 Tryz.f138:=isf Tryz.func138 (by kernel_rfl)
theorem fn139:IsFn 139 Tryz.f139:=isf Tryz.func139 (by kernel_rfl)
theorem fn140:IsFn 140 Tryz.f140:=isf Tryz.func140 (by kernel_rfl)
theorem fn141:IsFn 141 Tryz.f141:=isf Tryz.func141 (by kernel_rfl)
theorem fn142:IsFn 142 Tryz.f142:=isf Tryz.func142 (by kernel_rfl)
theorem fn143:IsFn 143 Tryz.f143:=isf Tryz.func143 (by kernel_rfl)
theorem fn144:IsFn 144 Tryz.f144:=isf Tryz.func144 (by kernel_rfl)
theorem fn148:IsFn 148 Tryz.f148:=isf Tryz.func148 (by kernel_rfl)
theorem fn149:IsFn 149 Tryz.f149:=isf Tryz.func149 (by kernel_rfl)
theorem fn150:IsFn 150 Tryz.f150:=isf Tryz.func150 (by kernel_rfl)
theorem fn151:IsFn 151 Tryz.f151:=isf Tryz.func151 (by kernel_rfl)
theorem fn152:IsFn 152 Tryz.f152:=isf Tryz.func152 (by kernel_rfl)
theorem fn153:IsFn 153 Tryz.f153:=isf Tryz.func153 (by kernel_rfl)
theorem fn155:IsFn 155 Tryz.f155:=isf Tryz.func155 (by kernel_rfl)
theorem fn156:IsFn 156 Tryz.f156:=isf Tryz.func156 (by kernel_rfl)
theorem fn157:IsFn 157 Tryz.f157:=isf Tryz.func157 (by kernel_rfl)
theorem fn158:IsFn 158 Tryz.f158:=isf Tryz.func158 (by kernel_rfl)
theorem fn159:IsFn 159 Tryz.f159:=isf Tryz.func159 (by kernel_rfl)
theorem fn160:IsFn 160 Tryz.f160:=isf Tryz.func160 (by kernel_rfl)
theorem fn161:IsFn 161 Tryz.f161:=isf Tryz.func161 (by kernel_rfl)
theorem fn162:IsFn 162 Tryz.f162:=isf Tryz.func162 (by kernel_rfl)
theorem fn163:IsFn 163 Tryz.f163:=isf Tryz.func163 (by kernel_rfl)
theorem fn164:IsFn 164 Tryz.f164:=isf Tryz.func164 (by kernel_rfl)
theorem fn167:IsFn 167 Tryz.f167:=isf Tryz.func167 (by kernel_rfl)
theorem fn168:IsFn 168 Tryz.f168:=isf Tryz.func168 (by kernel_rfl)
theorem fn169:IsFn 169 Tryz.f169:=isf Tryz.func169 (by kernel_rfl)
theorem fn170:IsFn 170 Tryz.f170:=isf Tryz.func170 (by kernel_rfl)
theorem fn171:IsFn 171 Tryz.f171:=isf Tryz.func171 (by kernel_rfl)
theorem fn172:IsFn 172 Tryz.f172:=isf Tryz.func172 (by kernel_rfl)
theorem fn173:IsFn 173 Tryz.f173:=isf Tryz.func173 (by kernel_rfl)
theorem fn174:IsFn 174 Tryz.f174:=isf Tryz.func174 (by kernel_rfl)
theorem fn175:IsFn 175 Tryz.f175:=isf Tryz.func175 (by kernel_rfl)
theorem fn176:IsFn 176 Tryz.f176:=isf Tryz.func176 (by kernel_rfl)
theorem fn177:IsFn 177 Tryz.f177:=isf Tryz.func177 (by kernel_rfl)
theorem fn178:IsFn 178 Tryz.f178:=isf Tryz.func178 (by kernel_rfl)
theorem fn179:IsFn 179 Tryz.f179:=isf Tryz.func179 (by kernel_rfl)
theorem fn180:IsFn 180 Tryz.f180:=isf Tryz.func180 (by kernel_rfl)
theorem fn181:IsFn 181 Tryz.f181:=isf Tryz.func181 (by kernel_rfl)
theorem fn182:IsFn 182 Tryz.f182:=isf Tryz.func182 (by kernel_rfl)
theorem fn183:IsFn 183 Tryz.f183:=isf Tryz.func183 (by kernel_rfl)
theorem fn184:IsFn 184 Tryz.f184:=isf Tryz.func184 (by kernel_rfl)
theorem fn185:IsFn 185 Tryz.f185:=isf Tryz.func185 (by kernel_rfl)
theorem fn186:IsFn 186 Tryz.f186:=isf Tryz.func186 (by kernel_rfl)
theorem fn187:IsFn 187 Tryz.f187:=isf Tryz.func187 (by kernel_rfl)
theorem fn188:IsFn 188 Tryz.f188:=isf Tryz.func188 (by kernel_rfl)
theorem fn189:IsFn 189 Tryz.f189:=isf Tryz.func189 (by kernel_rfl)
theorem fn190:IsFn 190 Tryz.f190:=isf Tryz.func190 (by kernel_rfl)
theorem fn191:IsFn 191 Tryz.f191:=isf Tryz.func191 (by kernel_rfl)
theorem fn192:IsFn 192 Tryz.f192:=isf Tryz.func192 (by kernel_rfl)
theorem fn193:IsFn 193 Tryz.f193:=isf Tryz.func193 (by kernel_rfl)
theorem fn194:IsFn 194 Tryz.f194:=isf Tryz.func194 (by kernel_rfl)
theorem fn195:IsFn 195 Tryz.f195:=isf Tryz.func195 (by kernel_rfl)
theorem fn196:IsFn 196 Tryz.f196:=isf Tryz.func196 (by kernel_rfl)
theorem fn197:IsFn 197 Tryz.f197:=isf Tryz.func197 (by kernel_rfl)
theorem fn198:IsFn 198 Tryz.f198:=isf Tryz.func198 (by kernel_rfl)
theorem fn199:IsFn 199 Tryz.f199:=isf Tryz.func199 (by kernel_rfl)
theorem fn200:IsFn 200 Tryz.f200:=isf Tryz.func200 (by kernel_rfl)
theorem fn201:IsFn 201 Tryz.f201:=isf Tryz.func201 (by kernel_rfl)
theorem fn202:IsFn 202 Tryz.f202:=isf Tryz.func202 (by kernel_rfl)
theorem fn203:IsFn 203 Tryz.f203:=isf Tryz.func203 (by kernel_rfl)
theorem fn204:IsFn 204 Tryz.f204:=isf Tryz.func204 (by kernel_rfl)
theorem fn205:IsFn 205 Tryz.f205:=isf Tryz.func205 (by kernel_rfl)
theorem fn206:IsFn 206 Tryz.f206:=isf Tryz.func206 (by kernel_rfl)
theorem fn207:IsFn 207 Tryz.f207:=isf Tryz.func207 (by kernel_rfl)
theorem fn208:IsFn 208 Tryz.f208:=isf Tryz.func208 (by kernel_rfl)
theorem fn209:IsFn 209 Tryz.f209:=isf Tryz.func209 (by kernel_rfl)
theorem fn210:IsFn 210 Tryz.f210:=isf Tryz.func210 (by kernel_rfl)
theorem fn211:IsFn 211 Tryz.f211:=isf Tryz.func211 (by kernel_rfl)
theorem fn212:IsFn 212 Tryz.f212:=isf Tryz.func212 (by kernel_rfl)
theorem fn213:IsFn 213 Tryz.f213:=isf Tryz.func213 (by kernel_rfl)
theorem fn214:IsFn 214 Tryz.f214:=isf Tryz.func214 (by kernel_rfl)
theorem fn215:IsFn 215 Tryz.f215:=isf Tryz.func215 (by kernel_rfl)
theorem fn216:IsFn 216 Tryz.f216:=isf Tryz.func216 (by kernel_rfl)
theorem fn217:IsFn 217 Tryz.f217:=isf Tryz.func217 (by kernel_rfl)
theorem fn218:IsFn 218 Tryz.f218:=isf Tryz.func218 (by kernel_rfl)
theorem fn219:IsFn 219 Tryz.f219:=isf Tryz.func219 (by kernel_rfl)
theorem fn220:IsFn 220 Tryz.f220:=isf Tryz.func220 (by kernel_rfl)
theorem fn221:IsFn 221 Tryz.f221:=isf Tryz.func221 (by kernel_rfl)
theorem fn222:IsFn 222 Tryz.f222:=isf Tryz.func222 (by kernel_rfl)
theorem fn223:IsFn 223 Tryz.f223:=isf Tryz.func223 (by kernel_rfl)
theorem fn225:IsFn 225 Tryz.f225:=isf Tryz.func225 (by kernel_rfl)
theorem fn226:IsFn 226 Tryz.f226:=isf Tryz.func226 (by kernel_rfl)
theorem fn227:IsFn 227 Tryz.f227:=isf Tryz.func227 (by kernel_rfl)
theorem fn228:IsFn 228 Tryz.f228:=isf Tryz.func228 (by kernel_rfl)
theorem fn229:IsFn 229 Tryz.f229:=isf Tryz.func229 (by kernel_rfl)
theorem fn230:IsFn 230 Tryz.f230:=isf Tryz.func230 (by kernel_rfl)
theorem fn233:IsFn 233 Tryz.f233:=isf Tryz.func233 (by kernel_rfl)
theorem fn235:IsFn 235 Tryz.f235:=isf Tryz.func235 (by kernel_rfl)
theorem fn236:IsFn 236 Tryz.f236:=isf Tryz.func236 (by kernel_rfl)
theorem fn237:IsFn 237 Tryz.f237:=isf Tryz.func237 (by kernel_rfl)
theorem fn238:IsFn 238 Tryz.f238:=isf Tryz.func238 (by kernel_rfl)
theorem fn241:IsFn 241 Tryz.f241:=isf Tryz.func241 (by kernel_rfl)
theorem fn242:IsFn 242 Tryz.f242:=isf Tryz.func242 (by kernel_rfl)
theorem fn243:IsFn 243 Tryz.f243:=isf Tryz.func243 (by kernel_rfl)
theorem fn244:IsFn 244 Tryz.f244:=isf Tryz.func244 (by kernel_rfl)
theorem fn245:IsFn 245 Tryz.f245:=isf Tryz.func245 (by kernel_rfl)
theorem fn246:IsFn 246 Tryz.f246:=isf Tryz.func246 (by kernel_rfl)
theorem fn247:IsFn 247 Tryz.f247:=isf Tryz.func247 (by kernel_rfl)
theorem fn254:IsFn 254 Tryz.f254:=isf Tryz.func254 (by kernel_rfl)
theorem fn259:IsFn 259 Tryz.f259:=isf Tryz.func259 (by kernel_rfl)
theorem fn260:IsFn 260 Tryz.f260:=isf Tryz.func260 (by kernel_rfl)
theorem fn262:IsFn 262 Tryz.f262:=isf Tryz.func262 (by kernel_rfl)
theorem fn263:IsFn 263 Tryz.f263:=isf Tryz.func263 (by kernel_rfl)
theorem fn264:IsFn 264 Tryz.f264:=isf Tryz.func264 (by kernel_rfl)
theorem fn265:IsFn 265 Tryz.f265:=isf Tryz.func265 (by kernel_rfl)
theorem fn266:IsFn 266 Tryz.f266:=isf Tryz.func266 (by kernel_rfl)
theorem fn267:IsFn 267 Tryz.f267:=isf Tryz.func267 (by kernel_rfl)
theorem fn268:IsFn 268 Tryz.f268:=isf Tryz.func268 (by kernel_rfl)
theorem fn269:IsFn 269 Tryz.f269:=isf Tryz.func269 (by kernel_rfl)
theorem fn270:IsFn 270 Tryz.f270:=isf Tryz.func270 (by kernel_rfl)
theorem fn271:IsFn 271 Tryz.f271:=isf Tryz.func271 (by kernel_rfl)
theorem fn272:IsFn 272 Tryz.f272:=isf Tryz.func272 (by kernel_rfl)
theorem fn273:IsFn 273 Tryz.f273:=isf Tryz.func273 (by kernel_rfl)
theorem fn274:IsFn 274 Tryz.f274:=isf Tryz.func274 (by kernel_rfl)
theorem fn286:IsFn 286 Tryz.f286:=isf Tryz.func286 (by kernel_rfl)
theorem fn293:IsFn 293 Tryz.f293:=isf Tryz.func293 (by kernel_rfl)
theorem fn294:IsFn 294 Tryz.f294:=isf Tryz.func294 (by kernel_rfl)
theorem fn295:IsFn 295 Tryz.f295:=isf Tryz.func295 (by kernel_rfl)
theorem fn296:IsFn 296 Tryz.f296:=isf Tryz.func296 (by kernel_rfl)
theorem fn297:IsFn 297 Tryz.f297:=isf Tryz.func297 (by kernel_rfl)
theorem fn299:IsFn 299 Tryz.f299:=isf Tryz.func299 (by kernel_rfl)
theorem fn300:IsFn 300 Tryz.f300:=isf Tryz.func300 (by kernel_rfl)
theorem fn301:IsFn 301 Tryz.f301:=isf Tryz.func301 (by kernel_rfl)
theorem fn302:IsFn 302 Tryz.f302:=isf Tryz.func302 (by kernel_rfl)
theorem fn310:IsFn 310 Tryz.f310:=isf Tryz.func310 (by kernel_rfl)
theorem fn311:IsFn 311 Tryz.f311:=isf Tryz.func311 (by kernel_rfl)
theorem fn314:IsFn 314 Tryz.f314:=isf Tryz.func314 (by kernel_rfl)
theorem fn317:IsFn 317 Tryz.f317:=isf Tryz.func317 (by kernel_rfl)
theorem fn319:IsFn 319 Tryz.f319:=isf Tryz.func319 (by kernel_rfl)
theorem fn323:IsFn 323 Tryz.f323:=isf Tryz.func323 (by kernel_rfl)
theorem fn325:IsFn 325 Tryz.f325:=isf Tryz.func325 (by kernel_rfl)
end Pt
end
section
namespace Pt
abbrev B21:Nat:=189
abbrev B46:Nat:=198
end Pt
end
section
open Go Go.Am
namespace Pt
theorem Told.weaken {K:FuncId} {a r:List Ty} {f:Bool} {d d':Args a → Bool} {v v':Args a → Args r} (h:Told K ⟨a,r,f,d,v⟩) (hw:∀ x,d' x = true → d x = true ∧ v x = v' x) :
  Told K ⟨a,r,f,d',v'⟩:=by
 refine ⟨fun w I vals x h1 h2 h3 h4=>?_,h.en⟩
 have hx:=hw x h4
 have:=h.ct w I vals x h1 h2 h3 hx.1
 simpa only [RepRes,hx.2] using this
theorem Told.pieces {K:FuncId} {a r:List Ty} {f:Bool} {d:Args a → Bool} {v:Args a → Args r} (en:Enters Pg K)
  (h:∀ x,d x = true → ∃ d' v',Told K ⟨a,r,f,d',v'⟩ ∧ d' x = true ∧ v' x = v x):Told K ⟨a,r,f,d,v⟩:=by
 refine ⟨fun w I vals x h1 h2 h3 h4=>?_,en⟩
 obtain ⟨d',v',ht,hd,hv⟩:=h x h4
 have:=ht.ct w I vals x h1 h2 h3 hd
 simpa only [RepRes,hv] using this
theorem w12 (h:Base0) {n:Nat} {fn:Func} (hf:IsFn n fn) {l:List (Nat × Sig)} {il:List (Nat × Func)} {pl:List (Nat × Prim)} {an:Nat → Ann} {fns:List FuncId}
  (hs:AllT l) (hi:AllI il) (hp:AllP pl) {args res:List Ty} {fresh:Bool} {raw:Args args → Option (Args res)} {d0:Args args → Bool}
  {L:Nat → Code → St → (X → St → Option (Args res)) → Option (Args res)} (hg:Good ⟨T,sigL l,inlL il,an,fns,primL pl,globL⟩ (fun c=>c ∈ loopsL fn il) L)
  (he:∀ x,d0 x = true → runFn ⟨T,sigL l,inlL il,an,fns,primL pl,globL⟩ fn args res fresh (L fuel) x = raw x) :
  Told n ⟨args,res,fresh,fun x=>d0 x && (raw x).isSome,fun x=>(raw x).getD (dfltA res)⟩:=by
 refine ⟨C43 (C:=fun c=>c ∈ loopsL fn il) (env_ok h hs hi hp) hf.1 ⟨args,res,fresh,fun x=>d0 x && (raw x).isSome,fun x=>(raw x).getD (dfltA res)⟩ (L:=L) hg ?_ ?_ ?_,hf.2⟩
 ·exact D07 fun c hc=>List.mem_append_left _ hc
 ·intro K fn' body hk hb c hc
  have hm:=(hi.get hk).2
  refine List.mem_append_right _ (List.mem_flatMap.2 ⟨_,hm,?_⟩)
  unfold bodyOf
  rw [hb]
  exact hc
 ·intro x hx
  have hx':=Bool.and_eq_true _ _ ▸ hx
  exact ⟨fuel,(he x hx'.1).trans (some_of hx'.2)⟩
end Pt
end
end
