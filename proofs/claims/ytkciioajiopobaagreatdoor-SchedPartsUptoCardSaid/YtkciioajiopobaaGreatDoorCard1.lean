/- The statement: for every argument of bulk at most 1048576 the statement's function returns true and each argument reads as before. Conditions: none beyond the statement's own. -/
import Derived.Test.YtkciioajiopobaaGreatDoorTypes1
import Derived.Test.YtkciioajiopobaaGreatDoorWalks1
import Derived.Test.YtkciioajiopobaaGreatDoorWalks2
import Derived.Test.YtkciioajiopobaaGreatDoorWalks3
import Derived.Test.YtkciioajiopobaaGreatDoorWalks4
import Derived.Test.YtkciioajiopobaaGreatDoorWalks5
import Derived.Test.YtkciioajiopobaaGreatDoorWalks6
import Derived.Test.YtkciioajiopobaaGreatDoorWalks7
import Derived.Test.YtkciioajiopobaaGreatDoorWalks8
import Derived.Test.YtkciioajiopobaaGreatDoorPlain3
import Derived.Test.YtkciioajiopobaaGreatDoorHand1
import Derived.Test.YtkciioajiopobaaGreatDoorHand2
import Derived.Test.YtkciioajiopobaaGreatDoorFacts1
import Derived.Test.YtkciioajiopobaaGreatDoorFacts2
import Derived.Test.YtkciioajiopobaaGreatDoorFacts3
import Derived.Test.YtkciioajiopobaaGreatDoorFacts4
import Derived.Test.YtkciioajiopobaaGreatDoorFacts5
import Derived.Test.YtkciioajiopobaaGreatDoorFacts6
import Derived.Test.YtkciioajiopobaaGreatDoorFacts7
import Derived.Test.YtkciioajiopobaaGreatDoorRows
import Derived.Lib.LaidU8T
import Derived.Lib.LaidTab
import Derived.PinnedBridge
import Derived.Lib.LaidIn
import Derived.Lib.LaidCaseMet
import Derived.Deep.DeepHandedRow
import Derived.Deep.DeepWitnessRowRef
import Derived.ProofKit
import Derived.Shelf.LaysM
import Derived.Test.YtkciioajiopobaaGreatDoorCards
import Derived.Test.YtkciioajiopobaaGreatDoorTie
import Derived.WalkKit
import Derived.OpenShut
set_option linter.all false
noncomputable section
section
open Go Go.Am
set_option maxRecDepth 100000
namespace Pt
theorem B04:Told 108 R8.sg:=R8.told base0
theorem C50:Told 87 a34.sg:=a34.told base0 ⟨B04,trivial⟩
theorem D13:Told 58 O7.sg:=O7.told base0 ⟨(C50).hide,trivial⟩
theorem B53:Told 17 X9.sg:=X9.told base0 ⟨(D13).hide,trivial⟩
theorem w35:Told 56 M8.sg:=M8.told base0 ⟨B53,trivial⟩
theorem w02:Told 68 B2.sg:=B2.told base0 ⟨⟨primGrow_ok,fn93.2⟩,trivial⟩
theorem J_wire_Sane:Told 107 a13.sg:=a13.told base0
theorem w27:Told 86 N7.sg:=N7.told base0 ⟨J_wire_Sane,trivial⟩
theorem J_wire_Arrive:Told 57 V3.sg:=V3.told base0 ⟨w02,w27,trivial⟩
theorem B93:Told 16 S2.sg:=S2.told base0 ⟨w35,J_wire_Arrive,trivial⟩
theorem w15:Told 156 D3.sg:=D3.told base0 ⟨D13,trivial⟩
theorem C24:Told 164 X2.sg:=X2.told base0
theorem w69:Told 163 S6.sg:=S6.told base0 ⟨C24,trivial⟩
theorem w64:Told 183 B5.sg:=B5.told base0 ⟨w69,trivial⟩
theorem w49:Told 162 E1.sg:=E1.told base0 ⟨w64,w69,trivial⟩
theorem C19:Told 144 U4.sg:=U4.told base0 ⟨w49,w69,trivial⟩
theorem w58:Told 121 O6.sg:=O6.told base0 ⟨C19,trivial⟩
theorem w96:Told 158 E9.sg:=E9.told base0 ⟨w58,trivial⟩
theorem J_pipe_Finish:Told 134 V5.sg:=V5.told base0 ⟨w15,w96,trivial⟩
theorem w94:Told 110 M6.sg:=M6.told base0 ⟨J_pipe_Finish,trivial⟩
theorem J_pipe_Load:Told 131 a63.sg:=a63.told base0
theorem B03:Told 155 R3.sg:=R3.told base0
theorem J_wire_Read:Told 132 Z9.sg:=Z9.told base0 ⟨w27,B03,trivial⟩
theorem a68:Told 170 C1.sg:=C1.told base0
theorem C52:Told 157 X6.sg:=X6.told base0 ⟨w58,C24,a68,trivial⟩
theorem J_pipe_Push:Told 133 Z8.sg:=Z8.told base0 ⟨w15,C52,trivial⟩
theorem C55:Told 109 L8.sg:=L8.told base0 ⟨w94,J_pipe_Load,J_wire_Read,J_pipe_Push,trivial⟩
theorem w65:Told 111 a39.sg:=a39.told base0
theorem C22:Told 137 a24.sg:=a24.told base0
theorem B39:Told 184 N1.sg:=N1.told base0
theorem B78:Told 167 U7.sg:=U7.told base0 ⟨B39,trivial⟩
theorem C80:Told 129 a27.sg:=a27.told base0
theorem w47:Told 100 L2.sg:=L2.told base0 ⟨C80,trivial⟩
theorem C49:Told 238 V6.sg:=V6.told base0 ⟨w47,trivial⟩
theorem w06:Told 237 B0.sg:=B0.told base0 ⟨C49,trivial⟩
theorem C05:Told 213 Y6.sg:=Y6.told base0 ⟨w06,C49,trivial⟩
theorem D18:Told 219 a48.sg:=a48.told base0
theorem B19:Told 189 R5.sg:=R5.told base0 ⟨C05,D18,trivial⟩
theorem D22:Told 230 a47.sg:=a47.told base0
theorem B02:Told 202 O0.sg:=O0.told base0 ⟨C05,D22,trivial⟩
theorem w81:Told 192 R2.sg:=R2.told base0 ⟨B02,trivial⟩
theorem w91:Told 191 T8.sg:=T8.told base0 ⟨w81,trivial⟩
theorem w86:Told 217 B6.sg:=B6.told base0 ⟨B19,w91,trivial⟩
theorem w61:Told 190 E5.sg:=E5.told base0 ⟨w86,w91,trivial⟩
theorem w88:Told 193 O1.sg:=O1.told base0 ⟨w81,trivial⟩
theorem B26:Told 220 C6.sg:=C6.told base0
theorem D16:Told 241 L6.sg:=L6.told base0
theorem J_canon_row:Told 242 N4.sg:=N4.told base0 ⟨w81,trivial⟩
theorem a71:Told 244 E8.sg:=E8.told base0 ⟨w47,B02,trivial⟩
theorem w20:Told 300 w9.sg:=w9.told base0 ⟨a71,trivial⟩
theorem w31:Told 325 B3.sg:=B3.told base0 ⟨a71,trivial⟩
theorem w46:Told 319 B4.sg:=B4.told base0 ⟨w31,a71,trivial⟩
theorem w32:Told 301 a6.sg:=a6.told base0 ⟨w46,a71,trivial⟩
theorem w45:Told 269 w8.sg:=w8.told base0 ⟨w20,w32,a71,trivial⟩
theorem w10:Told 243 B7.sg:=B7.told base0 ⟨w45,a71,trivial⟩
theorem D05:Told 245 L7.sg:=L7.told base0
theorem J_canon_Order:Told 221 M3.sg:=M3.told base0 ⟨D16,J_canon_row,w10,D05,a71,trivial⟩
theorem D20:Told 194 X8.sg:=X8.told base0 ⟨B26,J_canon_Order,trivial⟩
theorem w76:Told 173 S8.sg:=S8.told base0 ⟨w61,w88,D20,w91,trivial⟩
theorem B28:Told 206 M9.sg:=M9.told base0
theorem C06:Told 179 R6.sg:=R6.told base0 ⟨B28,trivial⟩
theorem B67:Told 177 T6.sg:=T6.told base0 ⟨C06,trivial⟩
theorem B27:Told 212 C5.sg:=C5.told base0
theorem w93:Told 182 L9.sg:=L9.told base0 ⟨B27,trivial⟩
theorem C45:Told 161 X7.sg:=X7.told base0 ⟨B78,w76,B67,w93,trivial⟩
theorem B38:Told 143 U3.sg:=U3.told base0 ⟨B04,C45,trivial⟩
theorem C47:Told 120 V7.sg:=V7.told base0 ⟨B38,trivial⟩
theorem J_stage_Sane:Told 142 Y7.sg:=Y7.told base0 ⟨C47,C45,trivial⟩
theorem C00:Told 119 U6.sg:=U6.told base0 ⟨C50,J_stage_Sane,trivial⟩
theorem J_stage_link:Told 180 U9.sg:=U9.told base0 ⟨C19,trivial⟩
theorem C23:Told 160 U5.sg:=U5.told base0 ⟨w58,trivial⟩
theorem w63:Told 233 L4.sg:=L4.told base0
theorem w99:Told 204 M0.sg:=M0.told base0 ⟨w63,trivial⟩
theorem C11:Told 205 D8.sg:=D8.told base0
theorem J_dec_whole:Told 178 a04.sg:=a04.told base0 ⟨w99,C11,trivial⟩
theorem J_dec_Feed:Told 152 N5.sg:=N5.told base0 ⟨B67,J_dec_whole,C06,trivial⟩
theorem B94:Told 262 S1.sg:=S1.told base0 ⟨J_dec_Feed,trivial⟩
theorem C27:Told 196 V8.sg:=V8.told base0
theorem J_strings_Cut:Told 197 strings_Cut.sg:=strings_Cut.told
theorem D19:Told B46 a94.sg:=a94.told base0
theorem C30:Told 225 M5.sg:=M5.told
theorem C71:Told 227 strings_Repeat.sg:=strings_Repeat.told
theorem J_decomp_code:Told 199 E4.sg:=E4.told base0 ⟨C30,C71,trivial⟩
theorem D10:Told 228 strings_Split.sg:=strings_Split.told
theorem C31:Told 314 a18.sg:=a18.told base0
theorem D21:Told 200 C3.sg:=C3.told base0 ⟨D10,C31,trivial⟩
theorem J_decomp_Full:Told 175 R0.sg:=R0.told base0 ⟨C27,J_strings_Cut,D19,J_decomp_code,D21,trivial⟩
theorem J_pair_within:Told 246 R9.sg:=R9.told base0
theorem J_pair_low:Told 270 a74.sg:=a74.told base0
theorem J_cmp_Or_int:Told 302 O2.sg:=O2.told base0
theorem B96:Told 271 Y4.sg:=Y4.told base0 ⟨w47,J_cmp_Or_int,trivial⟩
theorem J_pair_high:Told 272 a62.sg:=a62.told base0
theorem B31:Told 274 R4.sg:=R4.told base0 ⟨B96,trivial⟩
theorem a99:Told 273 a8.sg:=a8.told base0 ⟨B31,trivial⟩
theorem J_pair_listed:Told 247 T0.sg:=T0.told base0 ⟨J_pair_low,B96,J_pair_high,a99,B31,trivial⟩
theorem C39:Told 223 U8.sg:=U8.told base0 ⟨J_pair_within,J_pair_listed,trivial⟩
theorem B32:Told 174 C4.sg:=C4.told base0 ⟨B02,C39,trivial⟩
theorem C41:Told 151 C0.sg:=C0.told base0 ⟨w76,J_decomp_Full,a68,w81,w88,B02,B32,C39,trivial⟩ ⟨⟨primInsInt_ok,fn203.2⟩,trivial⟩
theorem C28:Told 263 U2.sg:=U2.told base0 ⟨C41,trivial⟩
theorem J_casing_Fold:Told 218 a96.sg:=a96.told base0
theorem J_casing_All:Told 188 N3.sg:=N3.told base0 ⟨J_casing_Fold,trivial⟩
theorem J_foldin_Left:Told 172 U0.sg:=U0.told base0 ⟨J_casing_All,B19,trivial⟩ ⟨⟨primDelInt_ok B19,fn187.2⟩,trivial⟩
theorem J_foldin_Feed:Told 299 E6.sg:=E6.told base0 ⟨w76,C41,J_foldin_Left,trivial⟩
theorem C26:Told 264 U1.sg:=U1.told base0 ⟨J_foldin_Feed,trivial⟩
theorem J_prop_kinds:Told 214 a58.sg:=a58.told base0
theorem C78:Told 185 Y0.sg:=Y0.told base0 ⟨C05,J_prop_kinds,trivial⟩
theorem J_clus_Next:Told 168 X5.sg:=X5.told base0 ⟨B39,C78,trivial⟩
theorem C81:Told 215 X4.sg:=X4.told base0
theorem D09:Told 216 Z5.sg:=Z5.told base0
theorem J_clus_Ends:Told 186 a32.sg:=a32.told base0 ⟨B39,C78,C81,D09,trivial⟩
theorem C62:Told 169 S5.sg:=S5.told base0 ⟨J_clus_Ends,trivial⟩
theorem J_seg_Feed:Told 148 Z3.sg:=Z3.told base0 ⟨B78,J_clus_Next,C62,a68,trivial⟩
theorem C86:Told 267 a03.sg:=a03.told base0 ⟨a68,trivial⟩
theorem B59:Told 265 R1.sg:=R1.told base0 ⟨J_seg_Feed,C86,trivial⟩
theorem C65:Told 106 a29.sg:=a29.told base0
theorem J_varint_Put:Told 85 M2.sg:=M2.told base0 ⟨C65,trivial⟩
theorem J_dec_Text:Told 94 a45.sg:=a45.told
theorem J_frame_laid:Told 95 a10.sg:=a10.told base0 ⟨w02,trivial⟩
theorem J_frame_Put:Told 69 Y2.sg:=Y2.told base0 ⟨J_varint_Put,J_dec_Text,J_frame_laid,trivial⟩
theorem B95:Told 266 D6.sg:=D6.told base0 ⟨J_frame_Put,a68,trivial⟩
theorem J_mach_Feed:Told 235 T3.sg:=T3.told base0 ⟨B38,B94,C28,C26,B59,B95,trivial⟩
theorem J_norm_End:Told 150 a30.sg:=a30.told base0 ⟨w76,B32,trivial⟩
theorem J_dec_End:Told 153 a43.sg:=a43.told base0 ⟨B67,trivial⟩
theorem J_seg_End:Told 268 a38.sg:=a38.told base0 ⟨B78,trivial⟩
theorem J_mach_End:Told 236 X3.sg:=X3.told base0 ⟨B04,B38,J_norm_End,J_dec_End,C86,J_seg_End,trivial⟩
theorem J_stage_Step:Told 159 E0.sg:=E0.told base0 ⟨C00,J_stage_link,C52,a68,w96,C23,J_mach_Feed,J_mach_End,trivial⟩
theorem J_pipe_Step:Told 135 D2.sg:=D2.told base0 ⟨C22,w15,J_stage_Step,trivial⟩
theorem B90:Told 112 L1.sg:=L1.told base0 ⟨J_pipe_Step,trivial⟩
theorem J_pipe_Leave:Told 136 C7.sg:=C7.told base0 ⟨B04,C22,w15,w96,trivial⟩
theorem C09:Told 113 M1.sg:=M1.told base0 ⟨J_pipe_Leave,trivial⟩
theorem J_pipe_Shut:Told 115 a08.sg:=a08.told base0 ⟨C22,trivial⟩
theorem w68:Told 114 D4.sg:=D4.told base0 ⟨J_pipe_Shut,trivial⟩
theorem J_wire_Write:Told 138 Y5.sg:=Y5.told base0 ⟨w02,w27,trivial⟩
theorem J_pipe_Pull:Told 139 a05.sg:=a05.told base0 ⟨w15,C23,trivial⟩
theorem J_pipe_Done:Told 140 a15.sg:=a15.told base0
theorem B97:Told 116 L0.sg:=L0.told base0 ⟨J_wire_Write,J_pipe_Pull,J_pipe_Done,trivial⟩
theorem J_pipe_Drain:Told 141 Y9.sg:=Y9.told base0 ⟨w15,trivial⟩
theorem C53:Told 117 S7.sg:=S7.told base0 ⟨J_pipe_Drain,trivial⟩
theorem w71:Told 118 a36.sg:=a36.told base0
theorem J_conn_parts:Told 90 a54.sg:=a54.told base0 ⟨(C55).hide,(w94).hide,(w65).hide,(B90).hide,(C09).hide,(w68).hide,(B97).hide,(C53).hide,(w71).hide,trivial⟩
theorem J_conn_of:Told 66 a50.sg:=a50.told base0 ⟨J_conn_parts,trivial⟩
theorem B35:Told 27 R7.sg:=R7.told base0 ⟨w35,J_conn_of,C55,w94,w65,B90,C09,w68,B97,C53,w71,trivial⟩
theorem C82:Told 89 T2.sg:=T2.told base0 ⟨B35,trivial⟩
theorem B92:Told 22 T1.sg:=T1.told C82
theorem C48:Told 62 S0.sg:=S0.told base0 ⟨J_conn_of,w65,w68,w71,trivial⟩
theorem C59:Told 25 L5.sg:=L5.told base0 ⟨C48,trivial⟩
theorem C57:Told 23 a16.sg:=a16.told base0
theorem J_wire_Waits:Told 63 S9.sg:=S9.told base0 ⟨w27,trivial⟩
theorem C38:Told 64 a19.sg:=a19.told base0
theorem J_sched_Waits:Told 24 a17.sg:=a17.told C59 C82 C48 C57 J_wire_Waits C38
theorem C10:Told 29 a41.sg:=a41.told base0
theorem w98:Told 35 D9.sg:=D9.told base0 ⟨B35,trivial⟩
theorem C60:Told 54 C9.sg:=C9.told base0
theorem J_sched_Fair:Told 55 a28.sg:=a28.told base0 ⟨C60,trivial⟩
theorem J_law21_awake:Told 15 V4.sg:=V4.told base0 ⟨(B93).hide,(B53).hide,(B92).hide,(J_sched_Waits).hide,(C10).hide,(w98).hide,(C60).hide,(J_sched_Fair).hide,trivial⟩
theorem D15:Told 20 E2.sg:=E2.told base0 ⟨w98,trivial⟩
theorem J_ref20_Few:Told 31 N8.sg:=N8.told base0
theorem J_wire_Grant:Told 59 Y8.sg:=Y8.told base0 ⟨w27,trivial⟩
theorem J_conn_Grant:Told 18 Z0.sg:=Z0.told base0 ⟨w35,J_wire_Grant,trivial⟩
theorem J_wire_Finish:Told 60 V1.sg:=V1.told base0 ⟨w27,trivial⟩
theorem J_conn_Finish:Told 19 V0.sg:=V0.told base0 ⟨w35,J_wire_Finish,trivial⟩
theorem J_conn_Cancel:Told 72 V2.sg:=V2.told base0 ⟨C59,w35,trivial⟩
theorem J_law21_do:Told 73 S4.sg:=S4.told base0 ⟨B93,J_conn_Grant,J_conn_Finish,B35,J_conn_Cancel,trivial⟩
theorem J_law21_made:Told 34 N2.sg:=N2.told base0 ⟨B53,J_law21_do,trivial⟩
theorem J_stage_Cost:Told 91 M4.sg:=M4.told base0 ⟨C00,C47,trivial⟩
theorem J_chans_Count:Told 92 D1.sg:=D1.told base0 ⟨w58,trivial⟩
theorem J_pipe_Live:Told 67 D0.sg:=D0.told base0 ⟨J_stage_Cost,J_chans_Count,trivial⟩
theorem J_conn_Live:Told 28 Z7.sg:=Z7.told base0 ⟨J_pipe_Live,trivial⟩
theorem J_ref01_Same:Told 36 N6.sg:=N6.told base0
theorem J_law21_near:Told 37 a09.sg:=a09.told base0 ⟨B92,C57,J_conn_Live,C10,J_ref01_Same,C38,trivial⟩
theorem C04:Told 7 O4.sg:=O4.told base0 ⟨J_law21_awake,D15,J_ref20_Few,J_law21_made,w98,J_law21_near,trivial⟩
end Pt
end
section
open Go Go.Am Go.Proofs
open Go.Lib (VarReads firstData acceptData)
set_option maxRecDepth 100000
namespace Pt
open Go.Proofs.YtkciioajiopobaaGreatDoor
def laidAll:List (String × DataW Unit):=[("math/bits.deBruijn32tab",Rows.laid_math_bits_deBruijn32tab),("math/bits.deBruijn64tab",Rows.laid_math_bits_deBruijn64tab),("internal/strconv.uint64pow10",Rows.laid_internal_strconv_uint64pow10),("unicode/utf8.acceptRanges",Rows.laid_unicode_utf8_acceptRanges),("strconv.ErrRange",Rows.laid_strconv_ErrRange),("strconv.ErrSyntax",Rows.laid_strconv_ErrSyntax),("unicode.CaseRanges",Rows.laid_unicode_CaseRanges),("unicode/utf8.first",Rows.laid_unicode_utf8_first)]
def u8Ren:Go.Shelf.Ren:=⟨fun n=>n,fun | 5=>5 | 119=>265 | 139=>268 | 138=>267 | n=>n,fun | 3=>0 | 4=>1 | n=>n⟩
theorem u8Types:U8Types Tryz.prog u8Ren:=⟨Tryz.underlying5,Tryz.underlying265,Tryz.underlying267,Tryz.underlying268⟩
theorem u8Extra:U8Extra Tryz.prog u8Ren:=⟨by kernel_rfl,by kernel_rfl,by kernel_rfl,by kernel_rfl,by kernel_rfl,by kernel_rfl,by kernel_rfl⟩
theorem accept_eq:(Rows.laid_unicode_utf8_acceptRanges:DataW Unit) = acceptData:=by kernel_rfl
theorem tab32_eq:(Rows.laid_math_bits_deBruijn32tab:DataW Unit) = Lib.tabData .u8 tab32:=by kernel_rfl
theorem tab64_eq:(Rows.laid_math_bits_deBruijn64tab:DataW Unit) = Lib.tabData .u8 tab64:=by kernel_rfl
theorem first_eq:a12 = Lib.firstTab:=by kernel_rfl
theorem B09 {w:World} {b o:Nat} {v:Value} (h:w.cell? ⟨b,o,none⟩ = some v):b < w.heap.size:=by
 rcases Nat.lt_or_ge b w.heap.size with h1 | h1
 ·exact h1
 ·have:w.heap[b]? = none:=Array.getElem?_eq_none h1
  simp [World.cell?,this] at h
def a83 (w:World):Cells:=fun b _=>b < w.heap.size
theorem ints_row {k:IntKind} {w:World} {I:Cells}:∀ (l:List Int),RepLs (RepC w I (.int k)) l (l.map (Value.int k))
 | []=>rfl
 | n :: l=>⟨[.int k n],_,rfl,rfl,ints_row l⟩
theorem glob_of {w:World} {g:Nat} {l:List Int} (h:∀ j v,(l.map (Value.int .u8))[j]? = some v → w.cell? ⟨g,j,none⟩ = some v):GlobOk w (a83 w) g ⟨.int .u8,l⟩:=by
 refine ⟨_,ints_row l,fun j v hj=>?_⟩
 rw [Nat.zero_add]
 have:=h j v hj
 exact ⟨B09 this,this⟩
theorem tab_of {w:World} {name:String} {g:Nat} {t n:Nat} {zs:List Int} (hg:Tryz.prog.globalNamed name = some g) (hty:(Tryz.prog.globals[g]?).map (·.type) = some t) (ht:Tryz.prog.underlying t = some (.array n 5)) (hct:Tryz.prog.cellsOf t = n)
  (h:VarReads Tryz.prog w name (Lib.tabData .u8 zs)):GlobOk w (a83 w) g ⟨.int .u8,zs⟩:=by
 obtain ⟨g',t',cs,fuel,p,hg',hty',hvar,hd⟩:=h
 obtain rfl:=Option.some.inj (hg.symm.trans hg')
 obtain rfl:=Option.some.inj (hty.symm.trans hty')
 have hcs:=Lib.cells_of_tab ht Tryz.underlying5 (by kernel_rfl) hct hd
 refine glob_of fun j v hj=>?_
 rw [World.var?_cell hg hvar j,← Array.getElem?_toList,hcs]
 exact hj
theorem accept_eqs:a91 = (List.range 16).map fun i=>((Lib.accLo i:Int),((Lib.accHi i:Int),())):=by kernel_rfl
theorem pairs_row {w:World} {I:Cells}:∀ (l:List Nat),RepLs (RepC w I T7) (l.map fun i=>((Lib.accLo i:Int),((Lib.accHi i:Int),()))) (l.flatMap fun i=>[Value.int .u8 (Lib.accLo i),Value.int .u8 (Lib.accHi i)])
 | []=>rfl
 | n :: l=>⟨_,_,rfl,⟨[_],[_],rfl,rfl,⟨[_],[],rfl,rfl,rfl⟩⟩,pairs_row l⟩
theorem flat2 (f g:Nat → Value):∀ (n k j:Nat) (v:Value),((List.range' k n).flatMap fun i=>[f i,g i])[j]? = some v → ∃ i,k ≤ i ∧ i < k + n ∧ ((j = 2 * (i - k) ∧ v = f i) ∨ (j = 2 * (i - k) + 1 ∧ v = g i))
 | 0,k,j,v,h=>by simp at h
 | n + 1,k,j,v,h=>by
  rw [List.range'_succ,List.flatMap_cons] at h
  match j,h with
  | 0,h=>exact ⟨k,Nat.le_refl _,by omega,.inl ⟨by omega,by simpa using h.symm⟩⟩
  | 1,h=>exact ⟨k,Nat.le_refl _,by omega,.inr ⟨by omega,by simpa using h.symm⟩⟩
  | j + 2,h =>
   have h':((List.range' (k + 1) n).flatMap fun i=>[f i,g i])[j]? = some v:=by simpa using h
   obtain ⟨i,h1,h2,h3⟩:=flat2 f g n (k + 1) j v h'
   refine ⟨i,by omega,by omega,?_⟩
   rcases h3 with ⟨h3,h4⟩ | ⟨h3,h4⟩
   ·exact .inl ⟨by omega,h4⟩
   ·exact .inr ⟨by omega,h4⟩
theorem accept_glob {w:World} (h:∀ i,i < 16 → w.cell? ⟨1,2 * i,none⟩ = some (.int .u8 (Lib.accLo i)) ∧ w.cell? ⟨1,2 * i + 1,none⟩ = some (.int .u8 (Lib.accHi i))):GlobOk w (a83 w) 1 ⟨T7,a91⟩:=by
 refine ⟨_,by rw [accept_eqs]; exact pairs_row _,fun j v hj=>?_⟩
 rw [List.range_eq_range'] at hj
 obtain ⟨i,_,hi,hv⟩:=flat2 _ _ 16 0 j v hj
 obtain ⟨a1,a2⟩:=h i (by omega)
 rw [Nat.zero_add]
 rcases hv with ⟨rfl,rfl⟩ | ⟨rfl,rfl⟩
 ·exact ⟨B09 a1,a1⟩
 ·exact ⟨B09 a2,a2⟩
theorem wi_of_laid {w:World} (hL:laidMet Tryz.prog laidAll w) {m:Int} (hm:w.cell? ⟨2,0,none⟩ = some (.int .i64 m)):WI w (a83 w):=by
 have hU:Lib.Utf8Tabs 0 1 w:=by
  have h1:VarReads Tryz.prog w "unicode/utf8.first" firstData:=by
   have:=Lib.laidMet.reads hL (n:= "unicode/utf8.first") (d:=Rows.laid_unicode_utf8_first) (.tail _ (.tail _ (.tail _ (.tail _ (.tail _ (.tail _ (.tail _ (.head _))))))))
   rwa [show Rows.laid_unicode_utf8_first = firstData from Pinned.utf8First_eq] at this
  have h2:VarReads Tryz.prog w "unicode/utf8.acceptRanges" acceptData:=by
   have:=Lib.laidMet.reads hL (n:= "unicode/utf8.acceptRanges") (d:=Rows.laid_unicode_utf8_acceptRanges) (.tail _ (.tail _ (.tail _ (.head _))))
   rwa [accept_eq] at this
  exact utf8Tabs_of_readsT (ρ:=u8Ren) u8Types u8Extra h1 h2
 refine ⟨fun g G hG=>?_,B09 hm,m,hm⟩
 unfold globL at hG
 cases e8:Nat.beq g 8 with
 | true =>
  rw [e8] at hG
  cases hG
  obtain rfl:=Nat.eq_of_beq_eq_true e8
  have:=Lib.laidMet.reads hL (n:= "math/bits.deBruijn64tab") (d:=Rows.laid_math_bits_deBruijn64tab) (.tail _ (.head _))
  rw [tab64_eq] at this
  exact tab_of (t:=363) (n:=64) (by kernel_rfl) (by kernel_rfl) Tryz.underlying363 (by kernel_rfl) this
 | false =>
 rw [e8] at hG
 cases e7:Nat.beq g 7 with
 | true =>
  rw [e7] at hG
  cases hG
  obtain rfl:=Nat.eq_of_beq_eq_true e7
  have:=Lib.laidMet.reads hL (n:= "math/bits.deBruijn32tab") (d:=Rows.laid_math_bits_deBruijn32tab) (.head _)
  rw [tab32_eq] at this
  exact tab_of (t:=362) (n:=32) (by kernel_rfl) (by kernel_rfl) Tryz.underlying362 (by kernel_rfl) this
 | false =>
 rw [e7] at hG
 cases e1:Nat.beq g 1 with
 | true =>
  rw [e1] at hG
  cases hG
  obtain rfl:=Nat.eq_of_beq_eq_true e1
  exact accept_glob hU.2
 | false =>
 rw [e1] at hG
 cases e0:Nat.beq g 0 with
 | true =>
  rw [e0] at hG
  cases hG
  obtain rfl:=Nat.eq_of_beq_eq_true e0
  refine glob_of fun j v hj=>?_
  rw [first_eq] at hj
  unfold Lib.firstTab at hj
  rw [List.map_map,List.getElem?_map] at hj
  cases hr:(List.range 256)[j]? with
  | none=>rw [hr] at hj; cases hj
  | some c =>
   rw [hr] at hj
   obtain ⟨hlt,hc⟩:=List.getElem?_eq_some_iff.1 hr
   have hjc:c = j:=by rw [← hc]; exact List.getElem_range hlt
   subst hjc
   have h3:=hU.1 c (by simpa using hlt)
   cases hj
   exact h3
 | false=>rw [e0] at hG; cases hG
end Pt
end
section
open Go Go.Am Go.Proofs
set_option maxRecDepth 100000
namespace Pt
open Go.Proofs.YtkciioajiopobaaGreatDoor
noncomputable def caseRen:Go.Shelf.Ren:=⟨fun | 274=>320 | n=>n,fun | 21=>21 | 162=>341 | 160=>351 | 3=>3 | 4=>4 | 46=>156 | 0=>0 | 208=>361 | 51=>215 | 206=>359 | n=>n,fun | 13=>3 | n=>n⟩
theorem max_of {w:World} (h:w.ShapedOpen Tryz.prog):∃ m,w.cell? ⟨2,0,none⟩ = some (.int .i64 m) :=
 Go.Proofs.cell_of_shapedOpen_int (zero:=#[.int .i64 0]) (t:=3) h (of_decide_eq_true (by kernel_rfl)) (by kernel_rfl) rfl (by kernel_rfl) (by kernel_rfl) Tryz.underlying3
noncomputable def pow10:List Int:=[1,10,100,1000,10000,100000,1000000,10000000,100000000,1000000000,10000000000,100000000000,1000000000000,10000000000000,100000000000000,1000000000000000,10000000000000000,100000000000000000,1000000000000000000,10000000000000000000]
noncomputable def textSyntax:ByteArray:=⟨#[105,110,118,97,108,105,100,32,115,121,110,116,97,120]⟩
noncomputable def textRange:ByteArray:=⟨#[118,97,108,117,101,32,111,117,116,32,111,102,32,114,97,110,103,101]⟩
noncomputable def putAt (h:Array Obj) (g:Nat) (cs:Array Value):Array Obj:=h.modify g fun
 | .cells _ t frozen=>.cells cs t frozen
 | o=>o
noncomputable def laidWorld (os:Os):World :=
 let N:=(World.settled Tryz.prog os).heap.size
 let w0:=World.holding Tryz.prog os ⟨#[.cells #[.string textSyntax] 357,.cells #[.string textRange] 357,.cells Lib.caseCells5 361],#[],[]⟩
 let h1:=putAt w0.heap 0 (a12.map (Value.int .u8)).toArray
 let h2:=putAt h1 1 ((List.range 16).flatMap fun i=>[Value.int .u8 (Lib.accLo i),Value.int .u8 (Lib.accHi i)]).toArray
 let h3:=putAt h2 3 #[.slice (some ⟨N + 2,0,none⟩) Lib.caseA.size Lib.caseA.size]
 let h4:=putAt h3 4 (pow10.map (Value.int .u64)).toArray
 let h5:=putAt h4 5 #[.iface 355 (.pointer (some ⟨N,0,none⟩))]
 let h6:=putAt h5 6 #[.iface 355 (.pointer (some ⟨N + 1,0,none⟩))]
 let h7:=putAt h6 7 (tab32.map (Value.int .u8)).toArray
 let h8:=putAt h7 8 (tab64.map (Value.int .u8)).toArray
 {w0 with heap:=h8 }
noncomputable abbrev N0:Nat:=(World.settled Tryz.prog default).heap.size
noncomputable abbrev memOf (os:Os) (args:Array Value):World:=((laidWorld os).forCall (fun _ _=>0) ⟨#[],args,[]⟩).memory
theorem piece6 (os:Os) (args:Array Value):LaidIn Tryz.prog (memOf os args) (laidAll.take 6) [7,8,4,1,6,N0 + 1,5,N0] :=
 LaidIn.of_run [7,8,4,1,6,N0 + 1,5,N0] 8 (by kernel_rfl) (by kernel_rfl) (by kernel_rfl) (by kernel_rfl)
theorem pieceF (os:Os) (args:Array Value):LaidIn Tryz.prog (memOf os args) [("unicode/utf8.first",Rows.laid_unicode_utf8_first)] [0] :=
 LaidIn.of_run [0] 8 (by kernel_rfl) (by kernel_rfl) (by kernel_rfl) (by kernel_rfl)
theorem laysCase:Lays.n274 Tryz.prog caseRen:={
 mixed:=by kernel_rfl
 f274:=Tryz.func320.trans (congrArg some (by kernel_rfl))
 t0:=Tryz.underlying0
 a0:=Tryz.isAgg0
 z0:=Tryz.sizeOf0
 v0:=Tryz.zeroValue0
 t3:=Tryz.underlying3
 a3:=Tryz.isAgg3
 z3:=Tryz.sizeOf3
 v3:=Tryz.zeroValue3
 t4:=Tryz.underlying4
 a4:=Tryz.isAgg4
 z4:=Tryz.sizeOf4
 v4:=Tryz.zeroValue4
 t21:=Tryz.underlying21
 a21:=Tryz.isAgg21
 z21:=Tryz.sizeOf21
 v21:=Tryz.zeroValue21
 t46:=Tryz.underlying156
 a46:=Tryz.isAgg156
 z46:=Tryz.sizeOf156
 v46:=Tryz.zeroValue156
 t51:=Tryz.underlying215
 a51:=Tryz.isAgg215
 z51:=Tryz.sizeOf215
 v51:=Tryz.zeroValue215
 t160:=Tryz.underlying351
 a160:=Tryz.isAgg351
 z160:=Tryz.sizeOf351
 v160:=Tryz.zeroValue351
 t162:=Tryz.underlying341
 a162:=Tryz.isAgg341
 z162:=Tryz.sizeOf341
 v162:=Tryz.zeroValue341
 t208:=Tryz.underlying361
 a208:=Tryz.isAgg361
 z208:=Tryz.sizeOf361
 v208:=Tryz.zeroValue361 }
theorem caseExtra:CaseExtra Tryz.prog caseRen:=⟨by kernel_rfl,by kernel_rfl,by kernel_rfl,by kernel_rfl,by kernel_rfl,by kernel_rfl⟩
theorem B76 (os:Os) (args:Array Value):(memOf os args).heap[3]? = some (.cells #[.slice (some ⟨N0 + 2,0,none⟩) Lib.caseA.size Lib.caseA.size] 341 (0,0)):=by kernel_rfl
theorem D01 (os:Os) (args:Array Value):(memOf os args).heap[N0 + 2]? = some (.cells Lib.caseCells5 361 (0,0)):=by kernel_rfl
theorem pieceC (os:Os) (args:Array Value):LaidIn Tryz.prog (memOf os args) [("unicode.CaseRanges",Rows.laid_unicode_CaseRanges)] [3,N0 + 2]:=by
 have hT:=caseTab_of_block (D01 os args)
 have hread:=case_slice_reads (ρ:=caseRen) laysCase Tryz.underlying359 caseExtra hT caseA_wf (by rw [Lib.caseA_size]; unfold maxLen; omega) 0
 rw [case_rows_data] at hread
 rw [show Rows.laid_unicode_CaseRanges = Lib.caseData from Pinned.caseRanges_eq]
 have hv:(memOf os args).var? Tryz.prog "unicode.CaseRanges" = some #[.slice (some ⟨N0 + 2,0,none⟩) Lib.caseA.size Lib.caseA.size]:=by
  have e:Tryz.prog.globalNamed "unicode.CaseRanges" = some 3:=by kernel_rfl
  simp only [World.var?,e,Option.bind_some]
  rw [B76]
 refine LaidIn.one (g:=3) (t:=341) (fuel:=4) [3,N0 + 2] (by kernel_rfl) (by kernel_rfl) hv hread ?_ ?_ ?_
 ·have h3:(3:Nat) ≠ N0 + 2:=of_decide_eq_true (by kernel_rfl)
  have:=rows_nodup [((⟨3,0,none⟩:Addr),1),((⟨N0 + 2,0,none⟩:Addr),Lib.caseA.size * 5)] (List.nodup_cons.2 ⟨by simpa using h3,List.nodup_cons.2 ⟨by simp,List.nodup_nil⟩⟩)
  simp only [List.flatMap_cons,List.flatMap_nil,List.append_nil] at this
  exact this
 ·intro b off hp
  rcases List.mem_append.1 hp with hp | hp
  ·obtain ⟨i,hi,e⟩:=MemPlace.mem_row.1 hp
   cases e
   refine ⟨⟨_,_,B76 os args⟩,fun u v hc=>?_⟩
   obtain rfl:i = 0:=by
    have:i < 1:=hi
    omega
   rw [Lib.cell_of_heap (B76 os args)] at hc
   simp at hc
  ·obtain ⟨i,hi,e⟩:=MemPlace.mem_row.1 hp
   cases e
   refine ⟨⟨_,_,D01 os args⟩,fun u v hc=>?_⟩
   obtain ⟨c0,c1,c2,c3,c4⟩:=hT (i / 5) (by omega)
   have hi5:0 + i = 0 + i / 5 * 5 + i % 5:=by omega
   simp only at hc
   rw [hi5] at hc
   have hm:i % 5 < 5:=Nat.mod_lt _ (by omega)
   have c00:(memOf os args).cell? ⟨N0 + 2,0 + i / 5 * 5 + 0,none⟩ = _:=c0
   match hk:i % 5,hm with
   | 0,_=>rw [hk,c00] at hc; cases hc
   | 1,_=>rw [hk,c1] at hc; cases hc
   | 2,_=>rw [hk,c2] at hc; cases hc
   | 3,_=>rw [hk,c3] at hc; cases hc
   | 4,_=>rw [hk,c4] at hc; cases hc
 ·intro x hx
  rcases List.mem_append.1 hx with hp | hp
  ·obtain ⟨i,hi,rfl⟩:=MemPlace.mem_row.1 hp
   exact .head _
  ·obtain ⟨i,hi,rfl⟩:=MemPlace.mem_row.1 hp
   exact .tail _ (.head _)
theorem laid_met (os:Os) (args:Array Value):laidMet Tryz.prog laidAll (memOf os args) :=
 (((piece6 os args).append (pieceC os args) (by kernel_rfl)).append (pieceF os args) (by kernel_rfl)).met
end Pt
end
section
open Go Go.Am Go.Proofs
set_option maxRecDepth 100000
namespace Pt
section
variable {H:Type} {enc:TypeId × Value → H} {W:World} {sp:Nat → Bool} {held:Bool}
abbrev Rd (enc:TypeId × Value → H) (W:World) (sp:Nat → Bool) (held:Bool) (fuel:Nat) (t:TypeId) (cs:List Value) (d:DataW H) (ps:List MemPlace):Prop:=DataW.trod enc Tryz.prog W 0 sp held fuel t cs = some (d,ps)
theorem open_int {k:IntKind} {t:TypeId} (hu:Tryz.prog.underlying t = some (.int k)) {fuel:Nat} {cs:List Value} {d:DataW H} {ps:List MemPlace} (h:Rd enc W sp held fuel t cs d ps):∃ x:Int,cs = [.int k x]:=by
 cases fuel with
 | zero=>cases h
 | succ fuel =>
  unfold Rd at h
  rcases cs with _ | ⟨v,_ | ⟨v2,r⟩⟩
  ·simp [DataW.trod,hu] at h
  ·cases v <;> simp [DataW.trod,hu] at h
   rename_i k' n
   obtain ⟨⟨rfl,_⟩,_⟩:=h
   exact ⟨n,rfl⟩
  ·simp [DataW.trod,hu] at h
theorem C76 {te:Ty} {b off:Nat}:∀ n:Nat,(∀ i,i < n → ∃ (c:List Value) (x:te.den),RepC W (a83 W) te x c ∧ ∀ j v,c[j]? = some v → W.cell? ⟨b,off + i * te.width + j,none⟩ = some v) →
  ∃ (l:List te.den) (vs:List Value),l.length = n ∧ RepLs (RepC W (a83 W) te) l vs ∧ vs.length = n * te.width ∧ ∀ j v,vs[j]? = some v → W.cell? ⟨b,off + j,none⟩ = some v
 | 0,_=>⟨[],[],rfl,rfl,by simp,fun j v h=>by simp at h⟩
 | n + 1,h=>by
  obtain ⟨l,vs,h1,h2,h3,h4⟩:=C76 n fun i hi=>h i (by omega)
  obtain ⟨c,x,h5,h6⟩:=h n (by omega)
  have hcl:=h5.len
  refine ⟨l ++ [x],vs ++ c,by simp [h1],h2.append ⟨c,[],by simp,h5,rfl⟩,by rw [List.length_append,h3,hcl,Nat.succ_mul],fun j v hj=>?_⟩
  rcases Nat.lt_or_ge j vs.length with hlt | hge
  ·rw [List.getElem?_append_left hlt] at hj
   exact h4 j v hj
  ·rw [List.getElem?_append_right hge,h3] at hj
   have:=h6 _ v hj
   rw [h3] at hge
   rwa [show off + n * te.width + (j - n * te.width) = off + j by omega] at this
theorem D08 {t e:TypeId} {te:Ty} (hu:Tryz.prog.underlying t = some (.slice e)) (hc:Tryz.prog.cellsOf e = te.width) (hw:0 < te.width)
  (elem:∀ fuel cs d ps,Rd enc W sp held fuel e cs d ps → ∃ x:te.den,RepC W (a83 W) te x cs) {fuel:Nat} {cs:List Value} {d:DataW H} {ps:List MemPlace} (h:Rd enc W sp held fuel t cs d ps) :
  ∃ x:List te.den,RepC W (a83 W) (.slice te) x cs ∧ (x = [] ∨ ∃ es rest,d = .slice es rest ∧ es.length = x.length):=by
 cases fuel with
 | zero=>cases h
 | succ fuel =>
  unfold Rd at h
  rcases cs with _ | ⟨v,_ | ⟨v2,r⟩⟩
  ·simp [DataW.trod,hu] at h
  ·cases v with
   | slice base len cap =>
    cases base with
    | none =>
     cases len with
     | zero =>
      cases cap with
      | zero=>exact ⟨[],⟨none,0,rfl,Nat.le_refl _,.inl rfl⟩,.inl rfl⟩
      | succ cap=>simp [DataW.trod,hu] at h
     | succ len=>simp [DataW.trod,hu] at h
    | some a =>
     simp only [DataW.trod,hu] at h
     split at h
     ·rename_i hcond
      obtain ⟨elems,he,hrest⟩:=Option.bind_eq_some_iff.1 h
      obtain ⟨rest,hr2,hd⟩:=Option.map_eq_some_iff.1 hrest
      have hlen:=Lib.mapM_length he
      rw [List.length_range] at hlen
      have hd':d = .slice (elems.map (·.1)) (rest.map (·.1)):=by
       have:=congrArg Prod.fst hd
       exact this.symm
      obtain ⟨b,off,spot⟩:=a
      have hat:∀ i,i < len → ∃ (c:List Value) (x:te.den),RepC W (a83 W) te x c ∧ c.length = te.width ∧ ∀ j,j < te.width → ∃ v,c[j]? = some v ∧ W.cell? (((⟨b,off,spot⟩:Addr).add (i * te.width)).add j) = some v:=by
       intro i hi
       obtain ⟨y,_,hy⟩:=Lib.mapM_at he i i (by rw [List.getElem?_range hi])
       rw [hc] at hy
       obtain ⟨c,hcells,hread⟩:=Option.bind_eq_some_iff.1 hy
       obtain ⟨x,hx⟩:=elem fuel c y.1 y.2 hread
       have hc2:(List.range te.width).mapM (fun j=>W.cell? (((⟨b,off,spot⟩:Addr).add (i * te.width)).add j)) = some c:=by
        unfold World.cells? at hcells
        rwa [if_pos (Nat.zero_le _)] at hcells
       have hcl:=Lib.mapM_length hc2
       rw [List.length_range] at hcl
       exact ⟨c,x,hx,hcl,fun j hj=>Lib.mapM_at hc2 j j (by rw [List.getElem?_range hj])⟩
      obtain ⟨hcb,hlc,hcm⟩:=hcond
      rcases Nat.eq_zero_or_pos len with rfl | hpos
      ·exact ⟨[],⟨some ⟨b,off,spot⟩,cap,rfl,Nat.zero_le _,.inl rfl⟩,.inl rfl⟩
      ·have hspot:spot = none:=by
        obtain ⟨c,x,_,_,hq⟩:=hat 0 hpos
        obtain ⟨v,_,hv⟩:=hq 0 hw
        have:=World.cell?_spot hv
        simpa [Addr.add] using this
       subst hspot
       obtain ⟨l,vs,h1,h2,h3,h4⟩:=C76 (te:=te) (W:=W) (b:=b) (off:=off) len fun i hi=>by
        obtain ⟨c,x,hx,hcl,hq⟩:=hat i hi
        refine ⟨c,x,hx,fun j v hj=>?_⟩
        have hjl:j < te.width:=by rw [← hcl]; exact (List.getElem?_eq_some_iff.1 hj).1
        obtain ⟨v',h1,h2⟩:=hq j hjl
        rw [h1] at hj
        cases hj
        rw [a93,a93] at h2
        exact h2
       refine ⟨l,⟨some ⟨b,off,none⟩,cap,by rw [h1],by rw [h1]; exact hlc,.inr ⟨b,off,vs,rfl,h2,fun j v hj=>?_⟩⟩,.inr ⟨_,_,hd',by rw [List.length_map,h1,hlen]⟩⟩
       have:=h4 j v hj
       exact ⟨B09 this,this⟩
     ·cases h
   | _=>simp [DataW.trod,hu] at h
  ·simp [DataW.trod,hu] at h
theorem C14 {k:IntKind} {t e:TypeId} (hu:Tryz.prog.underlying t = some (.slice e)) (he:Tryz.prog.underlying e = some (.int k)) (hc:Tryz.prog.cellsOf e = 1) {fuel:Nat} {cs:List Value} {d:DataW H} {ps:List MemPlace} (h:Rd enc W sp held fuel t cs d ps) :
  ∃ x:List Int,RepC W (a83 W) (.slice (.int k)) x cs ∧ (x = [] ∨ ∃ es rest,d = .slice es rest ∧ es.length = x.length) :=
 D08 (te:=.int k) hu hc Nat.one_pos (fun fuel cs d ps h=>by
  obtain ⟨x,rfl⟩:=open_int he h
  exact ⟨x,rfl⟩) h
theorem open_three {t a b c:TypeId} {n1 n2 n3:String} {p1 p2 p3:String} {w1 w2 w3:Nat} (hu:Tryz.prog.underlying t = some (.struct #[{ name:=n1,type:=a,offset:=0,embedded:=false,tag:= "",pkgPath:=p1,byteOffset:=w1 },{ name:=n2,type:=b,offset:=1,embedded:=false,tag:= "",pkgPath:=p2,byteOffset:=w2 },{ name:=n3,type:=c,offset:=2,embedded:=false,tag:= "",pkgPath:=p3,byteOffset:=w3 }]))
  (hc:Tryz.prog.cellsOf t = 3) (ha:Tryz.prog.cellsOf a = 1) (hb:Tryz.prog.cellsOf b = 1) (hcc:Tryz.prog.cellsOf c = 1) {fuel:Nat} {cs:List Value} {d:DataW H} {ps:List MemPlace} (h:Rd enc W sp held fuel t cs d ps) :
  ∃ f v1 v2 v3 d1 d2 d3 q1 q2 q3,cs = [v1,v2,v3] ∧ Rd enc W sp held f a [v1] d1 q1 ∧ Rd enc W sp held f b [v2] d2 q2 ∧ Rd enc W sp held f c [v3] d3 q3:=by
 cases fuel with
 | zero=>cases h
 | succ fuel =>
  unfold Rd at h
  unfold DataW.trod at h
  simp only [hu] at h
  split at h
  ·rename_i hl
   rw [hc] at hl
   obtain ⟨xs,hm,_⟩:=Option.map_eq_some_iff.1 h
   match cs,hl with
   | [v1,v2,v3],_ =>
    obtain ⟨y1,_,h1⟩:=Lib.mapM_at hm 0 _ rfl
    obtain ⟨y2,_,h2⟩:=Lib.mapM_at hm 1 _ rfl
    obtain ⟨y3,_,h3⟩:=Lib.mapM_at hm 2 _ rfl
    simp only [ha] at h1
    simp only [hb] at h2
    simp only [hcc] at h3
    exact ⟨fuel,v1,v2,v3,y1.1,y2.1,y3.1,y1.2,y2.2,y3.2,rfl,h1,h2,h3⟩
  ·cases h
theorem open_op {fuel:Nat} {cs:List Value} {d:DataW H} {ps:List MemPlace} (h:Rd enc W sp held fuel 71 cs d ps):∃ x:Ty.den O5,RepC W (a83 W) O5 x cs:=by
 obtain ⟨f,v1,v2,v3,d1,d2,d3,q1,q2,q3,rfl,h1,h2,h3⟩:=open_three Tryz.underlying71 (by kernel_rfl) (by kernel_rfl) (by kernel_rfl) (by kernel_rfl) h
 obtain ⟨x1,e1⟩:=open_int Tryz.underlying3 h1
 obtain ⟨x2,e2⟩:=open_int Tryz.underlying3 h2
 obtain ⟨x3,e3,_⟩:=C14 Tryz.underlying22 Tryz.underlying5 (by kernel_rfl) h3
 refine ⟨(x1,x2,x3,()),[v1],[v2,v3],rfl,e1,[v2],[v3],rfl,e2,[v3],[],rfl,e3,rfl⟩
theorem open_ops {fuel:Nat} {cs:List Value} {d:DataW H} {ps:List MemPlace} (h:Rd enc W sp held fuel 67 cs d ps) :
  ∃ x:List (Ty.den O5),RepC W (a83 W) (.slice O5) x cs ∧ (x = [] ∨ ∃ es rest,d = .slice es rest ∧ es.length = x.length) :=
 D08 (te:=O5) Tryz.underlying67 (by kernel_rfl) (by decide) (fun _ _ _ _ h=>open_op h) h
end
end Pt
end
section
open Go Go.Am Go.Proofs
open Go.ChangeShapes Go.WideShapes Go.ChangeAt Go.RowKit
set_option maxRecDepth 100000
namespace Pt
open Go.Proofs.YtkciioajiopobaaGreatDoor
theorem bulk_one {H:Type} (d:DataW H):1 ≤ Rows.uptoBulk d:=by
 cases d with
 | lit l=>cases l <;> simp [Rows.uptoBulk]
 | nil=>simp [Rows.uptoBulk]
 | ptr d=>simp [Rows.uptoBulk]
 | slice elems spare=>simp [Rows.uptoBulk]
 | agg parts=>simp [Rows.uptoBulk]
 | iface t d=>simp [Rows.uptoBulk]
 | map entries=>simp [Rows.uptoBulk]
 | held h=>simp [Rows.uptoBulk]
theorem bulk_len {H:Type} (l:List (DataW H)):l.length ≤ Rows.uptoBulkAll l:=by
 induction l with
 | nil=>simp [Rows.uptoBulkAll]
 | cons x r ih=>have:=bulk_one x; simp only [Rows.uptoBulkAll,List.length_cons]; omega
theorem bulk_slice {H:Type} (elems spare:List (DataW H)):elems.length ≤ Rows.uptoBulk (.slice elems spare):=by
 have h1:=bulk_len elems
 simp only [Rows.uptoBulk]
 omega
theorem own:ownKnob Tryz.prog.godebug = none:=by kernel_rfl
theorem laidOut:laidOutB Tryz.prog = true:=by kernel_rfl
theorem parts_walk {W:World} {vals:List Value} (hw:WI W (a83 W)) (x:List (Ty.den O5)) (l l2:List Int) (n k:Int) (hx:x.length ≤ 1048576)
  (hargs:RepArgs W (a83 W) O4.sg.args (x,l,l2,n,k,()) vals):Calls Tryz.prog 7 vals.toArray W fun e W'=>e = .returned (.bool true) ∧ Below W.heap.size W W':=by
 have hev:=O4.ev x l l2 n k (by omega)
 have hd:O4.sg.dom (x,l,l2,n,k,()) = true:=by
  show (O4.raw fuel x l l2 n k).isSome = true
  rw [hev]
  rfl
 refine (C04.ct W (a83 W) vals (x,l,l2,n,k,()) hw (fun b o h=>h) hargs hd).mono ?_
 rintro e W' ⟨v,J,rfl,hb,_,hres⟩
 have hres':RepV W' (orCells (a83 W) J) .bool (O4.val x l l2 n k).1 v:=hres
 have hv:O4.val x l l2 n k = (true,()):=by
  unfold O4.val
  rw [hev]
  rfl
 rw [hv] at hres'
 rcases hres' with ⟨_,h⟩ | ⟨h,_⟩
 ·have h2:[v] = [.bool true]:=h
  exact ⟨by rw [show v = .bool true by simpa using h2],hb⟩
 ·cases h
theorem D17 (H:Type) (enc:TypeId × Value → H) (F:Stop.Interp) (W:World) (base:Nat) (args:Array Value) (ds gs:List (DataW H)) (before:List MemPlace)
  (hval:∀ (j:Nat) t v,Tryz.f7.params[j]? = some t → args[j]? = some v → Value.okWide Tryz.prog W .any base t v)
  (hW:DataW.Whole enc Tryz.prog Tryz.f7.params.toList [] false W args.toList ds gs before) (hcond:Rows.uptoBulkAll (ds ++ gs) ≤ 1048576) (hL:laidMet Tryz.prog laidAll W) (hsh:W.ShapedOpen Tryz.prog) :
  Calls Tryz.prog 7 args W fun e W'=>∃ v,e = .returned v ∧ ((Rows.OpenSpec.upto Rows.schedPartsSpec).at F).post enc Tryz.prog Tryz.f7 false true false false W args v W':=by
 have hW':=hW
 obtain ⟨p,q,hA0,hV,rfl,hfz,hnd⟩:=hW
 have hA:DataW.TrodAll enc Tryz.prog W 0 (fun _=>true) true Tryz.f7.params.toList args.toList ds p:=hA0
 rw [Tryz.params7] at hA hval
 obtain ⟨v0,vs0,d0,ds0,p0,q0,hargs,rfl,rfl,h0,r0⟩:=trodAll_cons hA
 obtain ⟨v1,vs1,d1,ds1,p1,q1,rfl,rfl,rfl,h1,r1⟩:=trodAll_cons r0
 obtain ⟨v2,vs2,d2,ds2,p2,q2,rfl,rfl,rfl,h2,r2⟩:=trodAll_cons r1
 obtain ⟨v3,vs3,d3,ds3,p3,q3,rfl,rfl,rfl,h3,r3⟩:=trodAll_cons r2
 obtain ⟨v4,vs4,d4,ds4,p4,q4,rfl,rfl,rfl,h4,r4⟩:=trodAll_cons r3
 obtain ⟨rfl,rfl,rfl⟩:=trodAll_nil r4
 obtain rfl:args = #[v0,v1,v2,v3,v4]:=by cases args; simp_all
 obtain ⟨rfl,rfl⟩:=trodVars_none hV
 obtain ⟨a0,l0,c0,rfl⟩:=okWide_slice Tryz.underlying67 (hval 0 67 v0 rfl rfl)
 obtain ⟨a1,l1,c1,rfl⟩:=okWide_slice Tryz.underlying23 (hval 1 23 v1 rfl rfl)
 obtain ⟨a2,l2,c2,rfl⟩:=okWide_slice Tryz.underlying23 (hval 2 23 v2 rfl rfl)
 obtain ⟨n3,rfl⟩:=okWide_int Tryz.underlying3 (hval 3 3 v3 rfl rfl)
 obtain ⟨n4,rfl⟩:=okWide_int Tryz.underlying3 (hval 4 3 v4 rfl rfl)
 obtain ⟨f0,g0⟩:=h0
 obtain ⟨f1,g1⟩:=h1
 obtain ⟨f2,g2⟩:=h2
 obtain ⟨x0,y0,z0⟩:=open_ops g0
 obtain ⟨x1,y1,_⟩:=C14 Tryz.underlying23 Tryz.underlying3 (by kernel_rfl) g1
 obtain ⟨x2,y2,_⟩:=C14 Tryz.underlying23 Tryz.underlying3 (by kernel_rfl) g2
 obtain ⟨m,hm⟩:=max_of hsh
 have hx:x0.length ≤ 1048576:=by
  rcases z0 with rfl | ⟨es,rest,rfl,he⟩
  ·exact Nat.zero_le _
  ·have:=bulk_slice es rest
   simp only [List.append_nil,Rows.uptoBulkAll] at hcond
   omega
 have hargsR:RepArgs W (a83 W) O4.sg.args (x0,x1,x2,n3,n4,()) [.slice a0 l0 c0,.slice a1 l1 c1,.slice a2 l2 c2,.int .i64 n3,.int .i64 n4] :=
  ⟨_,_,rfl,.inl ⟨rfl,y0⟩,_,_,rfl,.inl ⟨rfl,y1⟩,_,_,rfl,.inl ⟨rfl,y2⟩,_,_,rfl,.inl ⟨rfl,rfl⟩,_,_,rfl,.inl ⟨rfl,rfl⟩,rfl⟩
 refine (parts_walk (wi_of_laid hL hm) x0 x1 x2 n3 n4 hx hargsR).mono fun e W' ⟨he,bel⟩=>?_
 subst he
 have hlt:∀ y ∈ p0 ++ (p1 ++ (p2 ++ (p3 ++ (p4 ++ [])))),y.block < W.heap.size:=fun y hy=>hW'.lt y (by simpa using hy)
 have e1:((Rows.OpenSpec.upto Rows.schedPartsSpec).at F).fn H ([d0,d1,d2,d3,d4] ++ []) = { results:=[.lit (.bool true)],args:=[d0,d1,d2,d3,d4] }:=rfl
 refine ⟨_,rfl,_,_,_,[],p0 ++ (p1 ++ (p2 ++ (p3 ++ (p4 ++ [])))),[],hW',?_,?_,?_,bel.frame _,fun h=>by cases h⟩
 ·rw [e1]
  exact trodAll_mk1 (shut_bool Tryz.underlying4 _)
 ·rw [e1]
  exact trodAll_cons_mk (Below.trod laidOut (by kernel_rfl) (of_decide_eq_true (by kernel_rfl)) ⟨f0,g0⟩ bel (fun y hy=>hlt y (by simp [hy])))
   (trodAll_cons_mk (Below.trod laidOut (by kernel_rfl) (of_decide_eq_true (by kernel_rfl)) ⟨f1,g1⟩ bel (fun y hy=>hlt y (by simp [hy])))
   (trodAll_cons_mk (Below.trod laidOut (by kernel_rfl) (of_decide_eq_true (by kernel_rfl)) ⟨f2,g2⟩ bel (fun y hy=>hlt y (by simp [hy])))
   (trodAll_cons_mk (Below.trod laidOut (by kernel_rfl) (of_decide_eq_true (by kernel_rfl)) h3 bel (fun y hy=>hlt y (by simp [hy])))
   (trodAll_cons_mk (Below.trod laidOut (by kernel_rfl) (of_decide_eq_true (by kernel_rfl)) h4 bel (fun y hy=>hlt y (by simp [hy]))) trodAll_mk0))))
 ·rw [e1]
  rfl
abbrev args0:Array Value:=#[.slice none 0 0,.slice none 0 0,.slice none 0 0,.int .i64 0,.int .i64 0]
theorem witness_row (os:Os) {H:Type} (enc:TypeId × Value → H) :
  (Rows.OpenSpec.upto Rows.schedPartsSpec).preRow enc Tryz.prog Tryz.f7 Rows.schedPartsUptoRow.domain false Rows.schedPartsUptoRow.laid (memOf os args0) args0:=by
 have hw:(DataW.whole enc Tryz.prog (memOf os args0) Tryz.f7.params.toList [] false args0.toList 8).map (fun x=>(x.1,x.2.1)) =
   some ([.nil,.nil,.nil,.lit (.int .i64 0),.lit (.int .i64 0)],[]):=by kernel_rfl
 obtain ⟨⟨x1,x2,x3⟩,hx,hx1⟩:=Option.map_eq_some_iff.1 hw
 simp only [Prod.mk.injEq] at hx1
 obtain ⟨rfl,rfl⟩:=hx1
 exact OpenSpec.preRow_of_cond 8 hx (by kernel_rfl) (fun k hk=>by cases hk; kernel_rfl) (by kernel_rfl) (laid_met os _)
theorem lifted (os:Os) (started:os.Started) (H:Type) (enc:TypeId × Value → H) (F:Stop.Interp) :
  ReturnsInHanded {} Tryz.checked os 7 .any ((Rows.OpenSpec.upto Rows.schedPartsSpec).preRow enc Tryz.prog Tryz.f7 Rows.schedPartsUptoRow.domain false Rows.schedPartsUptoRow.laid) (((Rows.OpenSpec.upto Rows.schedPartsSpec).at F).post enc Tryz.prog Tryz.f7 false true false false):=by
 refine returnsInHanded_of_row (C:=Tryz.checked) (s:=Rows.OpenSpec.upto Rows.schedPartsSpec) own started (by kernel_rfl) Tryz.func7
  (witness_row_atRef (enc:=enc) (C:=Tryz.checked) false (laidWorld os) args0 rfl (by kernel_rfl) (by kernel_rfl) (by kernel_rfl) (witness_row os enc)) ?_
 intro W base args ds gs before hval hW _ hcond _ hL hsh _
 have hk:Rows.uptoSmall H (ds ++ gs) = true:=hcond _ rfl
 exact D17 H enc F W base args ds gs before hval hW (by simpa [Rows.uptoSmall] using hk) hL hsh
theorem and_t {a b:Bool} (ha:a = true) (hb:b = true):(a && b) = true:=by rw [ha,hb]; rfl
theorem closed:joinedFacts Tryz.pinned.checked.prog 7 Tryz.f7 (Rows.OpenSpec.upto Rows.schedPartsSpec).bare Rows.schedPartsUptoRow = true :=
 and_t (and_t (and_t (and_t (and_t (and_t (and_t (and_t (and_t (and_t (and_t (and_t (and_t (and_t (and_t (and_t (and_t (and_t (and_t (and_t (and_t (and_t (and_t (and_t (and_t (and_t (and_t (and_t (and_t (and_t (and_t
  (by kernel_rfl) fp_laid) fp_maps) (by kernel_rfl)) (by kernel_rfl)) (by kernel_rfl)) (by kernel_rfl)) (by kernel_rfl)) (by kernel_rfl)) C63) C67) C70) C66) (by kernel_rfl)) (by kernel_rfl)) (by kernel_rfl)) (by kernel_rfl)) (by kernel_rfl)) (by kernel_rfl)) (by kernel_rfl)) (by kernel_rfl)) (by kernel_rfl)) fp_keys) (by kernel_rfl)) fp_heard) fp_enter) fp_lift) fp_make) (by kernel_rfl)) (by kernel_rfl)) (by kernel_rfl)) (by kernel_rfl)
theorem saidUpto:Rows.SchedPartsUptoSaid :=
 OpenClaim.holds_of_cond 7 Tryz.f7 rfl rfl rfl rfl rfl rfl rfl ⟨rfl,rfl,rfl,rfl,rfl⟩ rfl rfl rfl rfl rfl B25 Tryz.func7 closed
  (of_decide_eq_true (by kernel_rfl)) (by unfold Func.isWrapper; first | (rw [if_pos (by decide +kernel)]; kernel_rfl) | (rw [if_neg (by decide +kernel)]; exact ⟨rfl,rfl⟩))
  (fun os started H enc _ F=>by rw [OpenClaim.pre_eq_preRow]; exact lifted os started H enc F)
theorem plain (f:FuncId) (fn:Func) (hf:Tryz.pinned.checked.prog.funcNamed Rows.schedPartsUptoRow.func = some f) (hfn:Tryz.pinned.checked.prog.funcs[f]? = some fn) :
  true = Tryz.pinned.checked.prog.looks [] ∧ ∀ (j:Nat) t,fn.params[j]? = some t → Tryz.pinned.checked.prog.wantsStandIn t = false:=by
 obtain rfl:f = 7:=Option.some.inj (B25.symm.trans hf) |>.symm
 obtain rfl:fn = Tryz.f7:=(Option.some.inj (Tryz.func7.symm.trans hfn)).symm
 refine ⟨fp_looks,fun j t ht=>?_⟩
 rw [Tryz.params7] at ht
 have h67:Tryz.prog.wantsStandIn 67 = false:=by kernel_rfl
 have h23:Tryz.prog.wantsStandIn 23 = false:=by kernel_rfl
 have h3:Tryz.prog.wantsStandIn 3 = false:=by kernel_rfl
 have hm:=Array.mem_of_getElem? ht
 have:t = 67 ∨ t = 23 ∨ t = 3:=by simpa using hm
 rcases this with rfl | rfl | rfl
 ·exact h67
 ·exact h23
 ·exact h3
theorem cardUpto:Rows.SchedPartsUptoCardSaid :=
 Claim7.holds_tied_plain_at .later [] _ _ _ _ saidUpto (fun _ h=>by cases h) (by kernel_rfl) (fun _ h=>by cases h) schedPartsUpto_row_tie rfl ⟨rfl,rfl⟩ fp_main rfl plain C64
end Pt
end
namespace Go.Proofs.YtkciioajiopobaaGreatDoor
theorem schedPartsHolds:Rows.SchedPartsUptoCardSaid:=Pt.cardUpto
end Go.Proofs.YtkciioajiopobaaGreatDoor
end
