/- What functions of the given program compute, each by the abstract machine. Conditions: none beyond the statement's own. -/
import Derived.Test.YtkciioajiopobaaGreatDoorTypes1
import Derived.Test.YtkciioajiopobaaGreatDoorWalks1
import Derived.Test.YtkciioajiopobaaGreatDoorWalks2
import Derived.Test.YtkciioajiopobaaGreatDoorWalks3
import Derived.Test.YtkciioajiopobaaGreatDoorWalks5
import Derived.Lib.RuneBytes
set_option linter.all false
noncomputable section
section
open Go Go.Am
namespace Pt
set_option maxRecDepth 100000
def Z5.E:Env:=mkE []
def Z5.raw (m:Nat) (x0:Int) (x1:Int):Option (Args [.bool]):=bif x0 == (9:Int) then (bif x1 == (9:Int) then (some ((true,()))) else (bif x1 == (12:Int) then (some ((true,()))) else (bif x1 == (13:Int) then (some ((true,()))) else (some ((x1 == (10:Int),())))))) else (bif x0 == (10:Int) then (bif x1 == (10:Int) then (some ((true,()))) else (some ((x1 == (11:Int),())))) else (bif x0 == (12:Int) then (bif x1 == (10:Int) then (some ((true,()))) else (some ((x1 == (11:Int),())))) else (bif x0 == (11:Int) then (some ((x1 == (11:Int),()))) else (bif x0 == (13:Int) then (some ((x1 == (11:Int),()))) else (some ((false,())))))))
def Z5.val (x0:Int) (x1:Int):=(Z5.raw fuel x0 x1).getD (dfltA [.bool])
def Z5.dom (x0:Int) (x1:Int):=(Z5.raw fuel x0 x1).isSome
def Z5.sg:Sig:=⟨[I6,I6],[.bool],false,fun x=>Z5.dom x.1 x.2.1,fun x=>Z5.val x.1 x.2.1⟩
theorem Z5.eq (m:Nat) (x0:Int) (x1:Int):runS Z5.E Go.Proofs.Tryz.f216 Z5.sg (nL m) (x0,(x1,())) = Z5.raw m x0 x1:=by kernel_rfl
theorem Z5.told(h:Base0):Told 216 Z5.sg :=
 told_n h fn216 (l:=[]) trivial (fun x=>Z5.eq fuel x.1 x.2.1)
abbrev a32.ls:List (Nat × Sig):=[(184,N1.sg),(185,Y0.sg),(215,X4.sg),(216,Z5.sg)]
def a32.E:Env:=mkE a32.ls
def a32.raw (m:Nat) (x0:(Ty.den X1)) (x1:Int):Option (Args [.bool]):=let y1:=Y0.val x1; bif Y0.dom x1 then (let y2:=N1.val x0; bif N1.dom x0 then (bif !y2.1 then (some ((false,()))) else (bif !x0.1 then (some ((false,()))) else (let y3:=X4.val x0.2.1; bif X4.dom x0.2.1 then (bif y3.1 then (bif x0.2.1 != (1:Int) then (some ((true,()))) else (some ((y1.1 != (2:Int),())))) else (let y4:=X4.val y1.1; bif X4.dom y1.1 then (bif y4.1 then (bif x0.2.1 != (1:Int) then (some ((true,()))) else (some ((y1.1 != (2:Int),())))) else (let y5:=Z5.val x0.2.1 y1.1; bif Z5.dom x0.2.1 y1.1 then (bif y5.1 then (some ((false,()))) else (bif y1.1 == (4:Int) then (some ((false,()))) else (bif y1.1 == (5:Int) then (some ((false,()))) else (bif y1.1 == (8:Int) then (some ((false,()))) else (bif x0.2.1 == (7:Int) then (some ((false,()))) else (bif x0.2.1 == (5:Int) then (bif !x0.2.2.1 then (some ((true,()))) else (some ((y1.1 != (14:Int),())))) else (bif x0.2.1 != (6:Int) then (some ((true,()))) else (bif !x0.2.2.2.1 then (some ((true,()))) else (some ((y1.1 != (6:Int),()))))))))))) else none)) else none)) else none))) else none) else none
def a32.val (x0:(Ty.den X1)) (x1:Int):=(a32.raw fuel x0 x1).getD (dfltA [.bool])
def a32.dom (x0:(Ty.den X1)) (x1:Int):=(a32.raw fuel x0 x1).isSome
def a32.sg:Sig:=⟨[X1,I6],[.bool],false,fun x=>a32.dom x.1 x.2.1,fun x=>a32.val x.1 x.2.1⟩
theorem a32.eq (m:Nat) (x0:(Ty.den X1)) (x1:Int):runS a32.E Go.Proofs.Tryz.f186 a32.sg (nL m) (x0,(x1,())) = a32.raw m x0 x1:=by kernel_rfl
theorem a32.told(h:Base0) (hs:AllT a32.ls):Told 186 a32.sg :=
 told_n h fn186 hs (fun x=>a32.eq fuel x.1 x.2.1)
abbrev S5.ls:List (Nat × Sig):=[(186,a32.sg)]
def S5.E:Env:=mkE S5.ls
def S5.raw (m:Nat) (x0:(Ty.den Y1)) (x1:Int):Option (Args [.bool]):=bif decide ((↑(List.length x0.1):Int) > (0:Int)) then (bif (↑(List.length x0.1):Int) == (32:Int) then (some ((true,()))) else (let y1:=a32.val x0.2.1 x1; bif a32.dom x0.2.1 x1 then (some y1) else none)) else (some ((false,())))
def S5.val (x0:(Ty.den Y1)) (x1:Int):=(S5.raw fuel x0 x1).getD (dfltA [.bool])
def S5.dom (x0:(Ty.den Y1)) (x1:Int):=(S5.raw fuel x0 x1).isSome
def S5.sg:Sig:=⟨[Y1,I6],[.bool],false,fun x=>S5.dom x.1 x.2.1,fun x=>S5.val x.1 x.2.1⟩
theorem S5.eq (m:Nat) (x0:(Ty.den Y1)) (x1:Int):runS S5.E Go.Proofs.Tryz.f169 S5.sg (nL m) (x0,(x1,())) = S5.raw m x0 x1:=by kernel_rfl
theorem S5.told(h:Base0) (hs:AllT S5.ls):Told 169 S5.sg :=
 told_n h fn169 hs (fun x=>S5.eq fuel x.1 x.2.1)
abbrev Z3.ls:List (Nat × Sig):=[(167,U7.sg),(168,X5.sg),(169,S5.sg),(170,C1.sg)]
def Z3.E:Env:=mkE Z3.ls
def Z3.raw (m:Nat) (x0:(Ty.den Y1)) (x1:Int):Option (Args [Y1,SI]):=let y1:=U7.val x0; bif U7.dom x0 then (bif !y1.1 then (let z2:=(false,(0:Int),false,false,()); let y3:=X5.val z2 x1; bif X5.dom z2 x1 then (some (((nl Int ++ [x1],y3),nl Int,()))) else none) else (let y4:=X5.val x0.2.1 x1; bif X5.dom x0.2.1 x1 then (let y5:=S5.val x0 x1; bif S5.dom x0 x1 then (bif y5.1 then (some ((([x1],y4),x0.1,()))) else (let y6:=C1.val x0.1; bif C1.dom x0.1 then (let z7:=List.length y6.1 + [x1].length; bif decide (z7 * (8:Nat) ≤ (140737488355328:Nat)) && decide (z7 ≤ lim) then (some (((y6.1 ++ [x1],y4),nl Int,()))) else (none)) else none)) else none) else none)) else none
def Z3.val (x0:(Ty.den Y1)) (x1:Int):=(Z3.raw fuel x0 x1).getD (dfltA [Y1,SI])
def Z3.dom (x0:(Ty.den Y1)) (x1:Int):=(Z3.raw fuel x0 x1).isSome
def Z3.sg:Sig:=⟨[Y1,I6],[Y1,SI],false,fun x=>Z3.dom x.1 x.2.1,fun x=>Z3.val x.1 x.2.1⟩
theorem Z3.eq (m:Nat) (x0:(Ty.den Y1)) (x1:Int):runS Z3.E Go.Proofs.Tryz.f148 Z3.sg (nL m) (x0,(x1,())) = Z3.raw m x0 x1:=by kernel_rfl
theorem Z3.told(h:Base0) (hs:AllT Z3.ls):Told 148 Z3.sg :=
 told_n h fn148 hs (fun x=>Z3.eq fuel x.1 x.2.1)
end Pt
end
section
open Go Go.Am
open IntKind (i64 u64 u8 i32 u32)
namespace Pt
set_option maxRecDepth 100000
abbrev a03.ls:List (Nat × Sig):=[(170,C1.sg)]
def a03.E:Env:=mkE a03.ls
def a03.raw (m:Nat) (x0:(Ty.den SI)):Option (Args [SI]):=bif (↑(List.length x0):Int) == (0:Int) then (some ((nl (Ty.int i64).den,()))) else (let y1:=C1.val x0; bif C1.dom x0 then (bif decide ((List.length y1.1 + (1:Nat)) * (8:Nat) ≤ (140737488355328:Nat)) && decide (List.length y1.1 + (1:Nat) ≤ lim) then (some ((y1.1 ++ [(-1:Int)],()))) else (none)) else none)
def a03.val (x0:(Ty.den SI)):=(a03.raw fuel x0).getD (dfltA [SI])
def a03.dom (x0:(Ty.den SI)):=(a03.raw fuel x0).isSome
def a03.sg:Sig:=⟨[SI],[SI],false,fun x=>a03.dom x.1,fun x=>a03.val x.1⟩
theorem a03.eq (m:Nat) (x0:(Ty.den SI)):runS a03.E Go.Proofs.Tryz.f267 a03.sg (nL m) (x0,()) = a03.raw m x0:=by kernel_rfl
theorem a03.told(h:Base0) (hs:AllT a03.ls):Told 267 a03.sg :=
 told_n h fn267 hs (fun x=>a03.eq fuel x.1)
end Pt
end
section
open Go Go.Am
namespace Pt
set_option maxRecDepth 100000
abbrev R1.ls:List (Nat × Sig):=[(148,Z3.sg),(267,a03.sg)]
def R1.E:Env:=mkE R1.ls
def R1.raw (m:Nat) (x0:(Ty.den B9)) (x1:Int):Option (Args [B9,SI]):=let y1:=Z3.val x0.2.2.2.1 x1; bif Z3.dom x0.2.2.2.1 x1 then (let y2:=a03.val y1.2.1; bif a03.dom y1.2.1 then (some (((x0.1,x0.2.1,x0.2.2.1,y1.1,x0.2.2.2.2),y2))) else none) else none
def R1.val (x0:(Ty.den B9)) (x1:Int):=(R1.raw fuel x0 x1).getD (dfltA [B9,SI])
def R1.dom (x0:(Ty.den B9)) (x1:Int):=(R1.raw fuel x0 x1).isSome
def R1.sg:Sig:=⟨[B9,I6],[B9,SI],false,fun x=>R1.dom x.1 x.2.1,fun x=>R1.val x.1 x.2.1⟩
theorem R1.eq (m:Nat) (x0:(Ty.den B9)) (x1:Int):runS R1.E Go.Proofs.Tryz.f265 R1.sg (nL m) (x0,(x1,())) = R1.raw m x0 x1:=by kernel_rfl
theorem R1.told(h:Base0) (hs:AllT R1.ls):Told 265 R1.sg :=
 told_n h fn265 hs (fun x=>R1.eq fuel x.1 x.2.1)
end Pt
end
section
open Go Go.Am
open IntKind (i64 u64 u8 i32 u32)
namespace Pt
set_option maxRecDepth 100000
def a29.E:Env:=mkE []
def a29.raw (m:Nat) (x0:Int):Option (Args [I6]):=some ((i64.wrap (↑(BitVec.ofInt (64:Nat) x0 &&& BitVec.ofInt (64:Nat) (127:Int)).toNat:Int),()))
def a29.val (x0:Int):=(a29.raw fuel x0).getD (dfltA [I6])
def a29.dom (x0:Int):=(a29.raw fuel x0).isSome
def a29.sg:Sig:=⟨[I6],[I6],false,fun x=>a29.dom x.1,fun x=>a29.val x.1⟩
theorem a29.eq (m:Nat) (x0:Int):runS a29.E Go.Proofs.Tryz.f106 a29.sg (nL m) (x0,()) = a29.raw m x0:=by kernel_rfl
theorem a29.told(h:Base0):Told 106 a29.sg :=
 told_n h fn106 (l:=[]) trivial (fun x=>a29.eq fuel x.1)
abbrev M2.ls:List (Nat × Sig):=[(106,a29.sg)]
def M2.E:Env:=⟨T,sigL M2.ls,inlL [],annL [(10004,⟨some [0,3],[(3,none,(.int .u8))],[],some [0,3]⟩)],[],primL [],globL⟩
def M2.l0 (K0:Int → (Ty.den SB) → Option (Args [SB])):Nat → Int → (Ty.den SB) → Option (Args [SB])
 | 0,_,_=>none
 | m + 1,v1,v2=>bif decide (v1 ≥ (128:Int)) then (let z3:=BitVec.ofInt (8:Nat) (u8.wrap (i64.wrap (↑(BitVec.ofInt (64:Nat) v1 &&& BitVec.ofInt (64:Nat) (127:Int)).toNat:Int))) ||| BitVec.ofInt (8:Nat) (128:Int); let z4:=List.length v2 + [u8.wrap (↑z3.toNat:Int)].length; bif decide (z4 * (1:Nat) ≤ (140737488355328:Nat)) && decide (z4 ≤ lim) then (M2.l0 K0 m (Int.fdiv v1 (128:Int)) (v2 ++ [u8.wrap (↑z3.toNat:Int)])) else (none)) else (K0 v1 v2)
def M2.l0.t:St:=⟨jka 22 [zv I6,jk,jk,.one (.sc (.own 0 0))],[.row (.int .u8) true 0 []],0⟩
def M2.l0.e0:St:=M2.l0.t
def M2.raw (m:Nat) (x0:Int):Option (Args [SB]):=bif decide (x0 < (0:Int)) then (some ((nl (Ty.int u8).den,()))) else (bif decide (x0 > (268435455:Int)) then (some ((nl (Ty.int u8).den,()))) else (M2.l0 (fun o5 o6=>let z7:=List.length o6 + [u8.wrap o5].length; bif decide (z7 * (1:Nat) ≤ (140737488355328:Nat)) && decide (z7 ≤ lim) then (some ((o6 ++ [u8.wrap o5],()))) else (none)) m x0 (nl (Ty.int u8).den)))
def M2.val (x0:Int):=(M2.raw fuel x0).getD (dfltA [SB])
def M2.dom (x0:Int):=(M2.raw fuel x0).isSome
def M2.sg:Sig:=⟨[I6],[SB],false,fun x=>M2.dom x.1,fun x=>M2.val x.1⟩
noncomputable def M2.q0 (m:Nat) (s:St) (k:X → St → Option (Args [SB])):Option (Args [SB]) :=
 match unSt M2.l0.t [I6,SB] s with
  | some x=>M2.l0 (fun o0 o1=>k (.exit 0) (mkSt M2.l0.e0 [I6,SB] (o0,(o1,())))) m x.1 x.2.1
  | none=>none
noncomputable def M2.L (m:Nat) (c:Code) (s:St) (k:X → St → Option (Args [SB])):Option (Args [SB]) :=
 match O9 c with
 | some r=>bif Nat.beq r 10004 then (M2.q0 m s k) else none
 | none=>none
theorem M2.cs_eq:loopsL Go.Proofs.Tryz.f85 [] = [(loopsL Go.Proofs.Tryz.f85 []).getD 0 .skip]:=by kernel_rfl
theorem M2.good:Good (M2.E) (fun c=>c ∈ loopsL Go.Proofs.Tryz.f85 []) M2.L:=by
 have cases:∀ c,c ∈ loopsL Go.Proofs.Tryz.f85 [] → c = (loopsL Go.Proofs.Tryz.f85 []).getD 0 .skip:=by
  intro c hc; rw [M2.cs_eq] at hc; simpa only [List.mem_cons,List.not_mem_nil,or_false] using hc
 refine ⟨?_,?_,fun c hc=>T4 c hc⟩
 ·intro c s k r hc h
  rcases cases c hc with rfl
  ·have h':M2.q0 0 s k = some r:=Eq.trans (by kernel_rfl) h
   unfold M2.q0 at h'
   split at h'
   ·rename_i x hx
    have h2:(none:Option (Args [SB])) = some r:=Eq.trans (by kernel_rfl) h'
    cases h2
   cases h'
 ·intro m c s k r hc h
  rcases cases c hc with rfl
  ·have h':M2.q0 (m + 1) s k = some r:=Eq.trans (by kernel_rfl) h
   unfold M2.q0 at h'
   split at h'
   ·rename_i x hx
    rw [O8 hx]
    exact Eq.trans (by kernel_rfl) h'
   cases h'
theorem M2.eq (m:Nat) (x0:Int):runS M2.E Go.Proofs.Tryz.f85 M2.sg (M2.L m) (x0,()) = M2.raw m x0:=by kernel_rfl
theorem M2.told (h:Base0) (hs:AllT M2.ls):Told 85 M2.sg :=
 T5 h fn85 (il:=[]) (pl:=[]) hs trivial trivial (L:=M2.L) M2.good (fun x=>M2.eq fuel x.1)
end Pt
end
section
open Go Go.Am
namespace Pt
def goodS (r:Int):Bool:=decide (0 ≤ r) && decide (r ≤ 0x10FFFF) && (decide (r < 0xD800) || decide (0xDFFF < r))
def encS (r:Int):List Int:=Go.Lib.encodeRuneZ (bif goodS r then r else 0xFFFD)
def a45.val (x0:List Int):Args [.str]:=(bytesOf (x0.flatMap encS),())
def a45.dom (x0:List Int):Bool:=decide (x0.length ≤ 1099511627776)
def a45.sg:Sig:=⟨[.slice I6],[.str],false,fun x=>a45.dom x.1,fun x=>a45.val x.1⟩
end Pt
end
section
open Go Go.Am
namespace Pt
set_option maxRecDepth 100000
abbrev a10.ls:List (Nat × Sig):=[(68,B2.sg)]
def a10.E:Env:=mkE a10.ls
def a10.raw (m:Nat) (x0:(Ty.den (.slice SB))):Option (Args [SB]):=let y1:=B2.val x0; bif B2.dom x0 then (some y1) else none
def a10.val (x0:(Ty.den (.slice SB))):=(a10.raw fuel x0).getD (dfltA [SB])
def a10.dom (x0:(Ty.den (.slice SB))):=(a10.raw fuel x0).isSome
def a10.sg:Sig:=⟨[(.slice SB)],[SB],false,fun x=>a10.dom x.1,fun x=>a10.val x.1⟩
theorem a10.eq (m:Nat) (x0:(Ty.den (.slice SB))):runS a10.E Go.Proofs.Tryz.f95 a10.sg (nL m) (x0,()) = a10.raw m x0:=by kernel_rfl
theorem a10.told(h:Base0) (hs:AllT a10.ls):Told 95 a10.sg :=
 told_n h fn95 hs (fun x=>a10.eq fuel x.1)
end Pt
end
section
open Go Go.Am
open IntKind (i64 u64 u8 i32 u32)
namespace Pt
set_option maxRecDepth 100000
abbrev Y2.ls:List (Nat × Sig):=[(85,M2.sg),(94,a45.sg),(95,a10.sg)]
def Y2.E:Env:=mkE Y2.ls
def Y2.raw (m:Nat) (x0:(Ty.den SI)):Option (Args [SB]):=let y1:=a45.val x0; bif a45.dom x0 then (bif (↑(List.length x0):Int) == (0:Int) then (some ((nl (Ty.int u8).den,()))) else (bif decide ((↑(ofBytes y1.1).length:Int) > (268435455:Int)) then (some ((nl (Ty.int u8).den,()))) else (let y2:=M2.val ((↑(ofBytes y1.1).length:Int)); bif M2.dom ((↑(ofBytes y1.1).length:Int)) then (let z3:=[y2.1,ofBytes y1.1]; let y4:=a10.val z3; bif a10.dom z3 then (some y4) else none) else none))) else none
def Y2.val (x0:(Ty.den SI)):=(Y2.raw fuel x0).getD (dfltA [SB])
def Y2.dom (x0:(Ty.den SI)):=(Y2.raw fuel x0).isSome
def Y2.sg:Sig:=⟨[SI],[SB],false,fun x=>Y2.dom x.1,fun x=>Y2.val x.1⟩
theorem Y2.eq (m:Nat) (x0:(Ty.den SI)):runS Y2.E Go.Proofs.Tryz.f69 Y2.sg (nL m) (x0,()) = Y2.raw m x0:=by kernel_rfl
theorem Y2.told(h:Base0) (hs:AllT Y2.ls):Told 69 Y2.sg :=
 told_n h fn69 hs (fun x=>Y2.eq fuel x.1)
abbrev D6.ls:List (Nat × Sig):=[(69,Y2.sg),(170,C1.sg)]
def D6.E:Env:=⟨T,sigL D6.ls,inlL [],annL [(28007,⟨some [2,4,6,25,26,27],[(6,none,I6)],[(2,B9),(4,B9)],some [2,4,6]⟩)],[],primL [],globL⟩
def D6.l0 (K0:(Ty.den B9) → (Ty.den B9) → (Ty.den SI) → Option (Args [B9,SI])):Nat → (Ty.den SB) → Int → Int → (Ty.den B9) → (Ty.den B9) → (Ty.den SI) → Option (Args [B9,SI])
 | 0,_,_,_,_,_,_=>none
 | m + 1,v4,v5,v6,v7,v8,v9=>bif decide (v6 < v5) then (bif decide ((0:Int) ≤ v6) && decide (v6 < (↑(List.length v4):Int)) then (let z10:=List.length v9 + [i64.wrap (List.getD v4 (Int.toNat v6) (0:Int))].length; bif decide (z10 * (8:Nat) ≤ (140737488355328:Nat)) && decide (z10 ≤ lim) then (D6.l0 K0 m v4 v5 (i64.wrap (v6 + (1:Int))) v7 v8 (v9 ++ [i64.wrap (List.getD v4 (Int.toNat v6) (0:Int))])) else (none)) else (none)) else (K0 v7 v8 v9)
def D6.l0.t:St:=⟨jka 12 [jk,jk,.one (.sc (.ptr 0 0)),jk,.one (.sc (.ptr 1 0)),jk,.one (.sc (.own 2 0)),jk,jk,jk,jk,jk,jk,jk,jk,jk,jk,jk,jk,jk,jk,jk,jk,jk,jk,zv SB,zv I6,zv I6],[.cells (dc B9),.cells (dc B9),.row I6 true 0 []],0⟩
def D6.l0.e0:St:=⟨jka 33 [jk,jk,.one (.sc (.ptr 0 0)),jk,.one (.sc (.ptr 1 0)),jk,.one (.sc (.own 2 0))],[.cells (dc B9),.cells (dc B9),.row I6 true 0 []],0⟩
def D6.raw (m:Nat) (x0:(Ty.den B9)) (x1:Int):Option (Args [B9,SI]):=bif x1 != (-1:Int) then (bif decide ((↑(List.length x0.2.2.2.2.1):Int) < (32:Int)) then (let y1:=C1.val x0.2.2.2.2.1; bif C1.dom x0.2.2.2.2.1 then (let z2:=List.length y1.1 + [x1].length; bif decide (z2 * (8:Nat) ≤ (140737488355328:Nat)) && decide (z2 ≤ lim) then (some (((x0.1,x0.2.1,x0.2.2.1,x0.2.2.2.1,y1.1 ++ [x1],()),nl (Ty.int i64).den,()))) else (none)) else none) else (some ((x0,nl (Ty.int i64).den,())))) else (let y3:=Y2.val x0.2.2.2.2.1; bif Y2.dom x0.2.2.2.2.1 then (D6.l0 (fun o11 o12 o13=>some (((o11.1,o11.2.1,o11.2.2.1,o11.2.2.2.1,nl (Ty.int i64).den,()),o13,()))) m y3.1 ((↑(List.length y3.1):Int)) ((0:Int)) x0 (((0:Int),(ByteArray.mk (nl UInt8).toArray,()),(nl (Ty.int i64).den,()),(nl (Ty.int i64).den,(false,(0:Int),false,false,()),()),nl (Ty.int i64).den,())) (nl (Ty.int i64).den)) else none)
def D6.val (x0:(Ty.den B9)) (x1:Int):=(D6.raw fuel x0 x1).getD (dfltA [B9,SI])
def D6.dom (x0:(Ty.den B9)) (x1:Int):=(D6.raw fuel x0 x1).isSome
def D6.sg:Sig:=⟨[B9,I6],[B9,SI],false,fun x=>D6.dom x.1 x.2.1,fun x=>D6.val x.1 x.2.1⟩
noncomputable def D6.q0 (m:Nat) (s:St) (k:X → St → Option (Args [B9,SI])):Option (Args [B9,SI]) :=
 match unSt D6.l0.t [SB,I6,I6,B9,B9,SI] s with
  | some x=>D6.l0 (fun o0 o1 o2=>k (.exit 0) (mkSt D6.l0.e0 [B9,B9,SI] (o0,(o1,(o2,()))))) m x.1 x.2.1 x.2.2.1 x.2.2.2.1 x.2.2.2.2.1 x.2.2.2.2.2.1
  | none=>none
noncomputable def D6.L (m:Nat) (c:Code) (s:St) (k:X → St → Option (Args [B9,SI])):Option (Args [B9,SI]) :=
 match O9 c with
 | some r=>bif Nat.beq r 28007 then (D6.q0 m s k) else none
 | none=>none
theorem D6.cs_eq:loopsL Go.Proofs.Tryz.f266 [] = [(loopsL Go.Proofs.Tryz.f266 []).getD 0 .skip]:=by kernel_rfl
theorem D6.good:Good (D6.E) (fun c=>c ∈ loopsL Go.Proofs.Tryz.f266 []) D6.L:=by
 have cases:∀ c,c ∈ loopsL Go.Proofs.Tryz.f266 [] → c = (loopsL Go.Proofs.Tryz.f266 []).getD 0 .skip:=by
  intro c hc; rw [D6.cs_eq] at hc; simpa only [List.mem_cons,List.not_mem_nil,or_false] using hc
 refine ⟨?_,?_,fun c hc=>T4 c hc⟩
 ·intro c s k r hc h
  rcases cases c hc with rfl
  ·have h':D6.q0 0 s k = some r:=Eq.trans (by kernel_rfl) h
   unfold D6.q0 at h'
   split at h'
   ·rename_i x hx
    have h2:(none:Option (Args [B9,SI])) = some r:=Eq.trans (by kernel_rfl) h'
    cases h2
   cases h'
 ·intro m c s k r hc h
  rcases cases c hc with rfl
  ·have h':D6.q0 (m + 1) s k = some r:=Eq.trans (by kernel_rfl) h
   unfold D6.q0 at h'
   split at h'
   ·rename_i x hx
    rw [O8 hx]
    exact Eq.trans (by kernel_rfl) h'
   cases h'
theorem D6.eq (m:Nat) (x0:(Ty.den B9)) (x1:Int):runS D6.E Go.Proofs.Tryz.f266 D6.sg (D6.L m) (x0,(x1,())) = D6.raw m x0 x1:=by kernel_rfl
theorem D6.told (h:Base0) (hs:AllT D6.ls):Told 266 D6.sg :=
 T5 h fn266 (il:=[]) (pl:=[]) hs trivial trivial (L:=D6.L) D6.good (fun x=>D6.eq fuel x.1 x.2.1)
end Pt
end
section
open Go Go.Am
namespace Pt
set_option maxRecDepth 100000
abbrev T3.ls:List (Nat × Sig):=[(143,U3.sg),(262,S1.sg),(263,U2.sg),(264,U1.sg),(265,R1.sg),(266,D6.sg)]
def T3.E:Env:=⟨T,sigL T3.ls,inlL [],annL [],[262,263,264,265,266],primL [],globL⟩
def T3.raw (m:Nat) (x0:(Ty.den B9)) (x1:Int):Option (Args [B9,SI]):=let y1:=U3.val x0; bif U3.dom x0 then (bif decide ((0:Int) ≤ y1.1.1) && decide (y1.1.1 < (5:Int)) then (bif decide (Int.toNat y1.1.1 < (5:Nat)) then (bif [Option.some (262:Nat),Option.some (263:Nat),Option.some (264:Nat),Option.some (265:Nat),Option.some (266:Nat)].getD (Int.toNat y1.1.1) ti270.ty.dflt == Option.some (262:Go.FuncId) then (let y2:=S1.val y1.1 x1; bif S1.dom y1.1 x1 then (some y2) else none) else (bif [Option.some (262:Nat),Option.some (263:Nat),Option.some (264:Nat),Option.some (265:Nat),Option.some (266:Nat)].getD (Int.toNat y1.1.1) ti270.ty.dflt == Option.some (263:Go.FuncId) then (let y3:=U2.val y1.1 x1; bif U2.dom y1.1 x1 then (some y3) else none) else (bif [Option.some (262:Nat),Option.some (263:Nat),Option.some (264:Nat),Option.some (265:Nat),Option.some (266:Nat)].getD (Int.toNat y1.1.1) ti270.ty.dflt == Option.some (264:Go.FuncId) then (let y4:=U1.val y1.1 x1; bif U1.dom y1.1 x1 then (some y4) else none) else (bif [Option.some (262:Nat),Option.some (263:Nat),Option.some (264:Nat),Option.some (265:Nat),Option.some (266:Nat)].getD (Int.toNat y1.1.1) ti270.ty.dflt == Option.some (265:Go.FuncId) then (let y5:=R1.val y1.1 x1; bif R1.dom y1.1 x1 then (some y5) else none) else (bif [Option.some (262:Nat),Option.some (263:Nat),Option.some (264:Nat),Option.some (265:Nat),Option.some (266:Nat)].getD (Int.toNat y1.1.1) ti270.ty.dflt == Option.some (266:Go.FuncId) then (let y6:=D6.val y1.1 x1; bif D6.dom y1.1 x1 then (some y6) else none) else (none)))))) else (none)) else (none)) else none
def T3.val (x0:(Ty.den B9)) (x1:Int):=(T3.raw fuel x0 x1).getD (dfltA [B9,SI])
def T3.dom (x0:(Ty.den B9)) (x1:Int):=(T3.raw fuel x0 x1).isSome
def T3.sg:Sig:=⟨[B9,I6],[B9,SI],false,fun x=>T3.dom x.1 x.2.1,fun x=>T3.val x.1 x.2.1⟩
theorem T3.eq (m:Nat) (x0:(Ty.den B9)) (x1:Int):runS T3.E Go.Proofs.Tryz.f235 T3.sg (nL m) (x0,(x1,())) = T3.raw m x0 x1:=by kernel_rfl
theorem T3.told (h:Base0) (hs:AllT T3.ls):Told 235 T3.sg :=
 T5 h fn235 (il:=[]) (pl:=[]) hs trivial trivial (L:=(fun _ _ _ _=>none)) a14 (fun x=>T3.eq fuel x.1 x.2.1)
abbrev a30.ls:List (Nat × Sig):=[(173,S8.sg),(174,C4.sg)]
def a30.E:Env:=mkE a30.ls
def a30.raw (m:Nat) (x0:(Ty.den E7)):Option (Args [SI]):=let y1:=S8.val x0; bif S8.dom x0 then (bif !y1.1 then (some ((nl Int,()))) else (let y2:=C4.val x0.1; bif C4.dom x0.1 then (some y2) else none)) else none
def a30.val (x0:(Ty.den E7)):=(a30.raw fuel x0).getD (dfltA [SI])
def a30.dom (x0:(Ty.den E7)):=(a30.raw fuel x0).isSome
def a30.sg:Sig:=⟨[E7],[SI],false,fun x=>a30.dom x.1,fun x=>a30.val x.1⟩
theorem a30.eq (m:Nat) (x0:(Ty.den E7)):runS a30.E Go.Proofs.Tryz.f150 a30.sg (nL m) (x0,()) = a30.raw m x0:=by kernel_rfl
theorem a30.told(h:Base0) (hs:AllT a30.ls):Told 150 a30.sg :=
 told_n h fn150 hs (fun x=>a30.eq fuel x.1)
end Pt
end
section
open Go Go.Am
open IntKind (i64 u64 u8 i32 u32)
namespace Pt
set_option maxRecDepth 100000
abbrev a43.ls:List (Nat × Sig):=[(177,T6.sg)]
def a43.E:Env:=mkE a43.ls
def a43.raw (m:Nat) (x0:(Ty.den M7)):Option (Args [SI]):=bif ByteArray.toList x0.1 == (ByteArray.mk (nl UInt8).toArray).toList then (some ((nl (Ty.int i64).den,()))) else (let y1:=T6.val x0; bif T6.dom x0 then (bif !y1.1 then (some ((nl (Ty.int i64).den,()))) else (some (([(65533:Int)],())))) else none)
def a43.val (x0:(Ty.den M7)):=(a43.raw fuel x0).getD (dfltA [SI])
def a43.dom (x0:(Ty.den M7)):=(a43.raw fuel x0).isSome
def a43.sg:Sig:=⟨[M7],[SI],false,fun x=>a43.dom x.1,fun x=>a43.val x.1⟩
theorem a43.eq (m:Nat) (x0:(Ty.den M7)):runS a43.E Go.Proofs.Tryz.f153 a43.sg (nL m) (x0,()) = a43.raw m x0:=by kernel_rfl
theorem a43.told(h:Base0) (hs:AllT a43.ls):Told 153 a43.sg :=
 told_n h fn153 hs (fun x=>a43.eq fuel x.1)
abbrev a38.ls:List (Nat × Sig):=[(167,U7.sg)]
def a38.E:Env:=mkE a38.ls
def a38.raw (m:Nat) (x0:(Ty.den Y1)):Option (Args [SI]):=let y1:=U7.val x0; bif U7.dom x0 then (bif !y1.1 then (some ((nl (Ty.int i64).den,()))) else (some ((x0.1,())))) else none
def a38.val (x0:(Ty.den Y1)):=(a38.raw fuel x0).getD (dfltA [SI])
def a38.dom (x0:(Ty.den Y1)):=(a38.raw fuel x0).isSome
def a38.sg:Sig:=⟨[Y1],[SI],false,fun x=>a38.dom x.1,fun x=>a38.val x.1⟩
theorem a38.eq (m:Nat) (x0:(Ty.den Y1)):runS a38.E Go.Proofs.Tryz.f268 a38.sg (nL m) (x0,()) = a38.raw m x0:=by kernel_rfl
theorem a38.told(h:Base0) (hs:AllT a38.ls):Told 268 a38.sg :=
 told_n h fn268 hs (fun x=>a38.eq fuel x.1)
end Pt
end
section
open Go Go.Am
namespace Pt
set_option maxRecDepth 100000
abbrev X3.ls:List (Nat × Sig):=[(108,R8.sg),(143,U3.sg),(150,a30.sg),(153,a43.sg),(267,a03.sg),(268,a38.sg)]
def X3.E:Env:=mkE X3.ls
def X3.raw (m:Nat) (x0:(Ty.den B9)):Option (Args [B9,SI]):=let y1:=U3.val x0; bif U3.dom x0 then (bif y1.1.1 == (0:Int) then (let y2:=a43.val y1.1.2.1; bif a43.dom y1.1.2.1 then (let y3:=R8.val y1.1.1; bif R8.dom y1.1.1 then (some ((y3.1,y2))) else none) else none) else (bif y1.1.1 == (1:Int) then (let y4:=a30.val y1.1.2.2.1; bif a30.dom y1.1.2.2.1 then (let y5:=R8.val y1.1.1; bif R8.dom y1.1.1 then (some ((y5.1,y4))) else none) else none) else (bif y1.1.1 == (2:Int) then (let y6:=a30.val y1.1.2.2.1; bif a30.dom y1.1.2.2.1 then (let y7:=R8.val y1.1.1; bif R8.dom y1.1.1 then (some ((y7.1,y6))) else none) else none) else (bif y1.1.1 == (3:Int) then (let y8:=a38.val y1.1.2.2.2.1; bif a38.dom y1.1.2.2.2.1 then (let y9:=a03.val y8.1; bif a03.dom y8.1 then (let y10:=R8.val y1.1.1; bif R8.dom y1.1.1 then (some ((y10.1,y9))) else none) else none) else none) else (let y11:=R8.val y1.1.1; bif R8.dom y1.1.1 then (some ((y11.1,nl Int,()))) else none))))) else none
def X3.val (x0:(Ty.den B9)):=(X3.raw fuel x0).getD (dfltA [B9,SI])
def X3.dom (x0:(Ty.den B9)):=(X3.raw fuel x0).isSome
def X3.sg:Sig:=⟨[B9],[B9,SI],false,fun x=>X3.dom x.1,fun x=>X3.val x.1⟩
theorem X3.eq (m:Nat) (x0:(Ty.den B9)):runS X3.E Go.Proofs.Tryz.f236 X3.sg (nL m) (x0,()) = X3.raw m x0:=by kernel_rfl
theorem X3.told(h:Base0) (hs:AllT X3.ls):Told 236 X3.sg :=
 told_n h fn236 hs (fun x=>X3.eq fuel x.1)
end Pt
end
section
open Go Go.Am
open IntKind (i64 u64 u8 i32 u32)
namespace Pt
set_option maxRecDepth 100000
abbrev E0.ls:List (Nat × Sig):=[(119,U6.sg),(180,U9.sg),(157,X6.sg),(170,C1.sg),(158,E9.sg),(160,U5.sg),(235,T3.sg),(236,X3.sg)]
def E0.E:Env:=⟨T,sigL E0.ls,inlL [(181,Go.Proofs.Tryz.f181),(207,Go.Proofs.Tryz.f207),(208,Go.Proofs.Tryz.f208),(209,Go.Proofs.Tryz.f209),(210,Go.Proofs.Tryz.f210),(211,Go.Proofs.Tryz.f211)],annL [(29005,⟨some [0,26,27,28],[(9,some 9,I6)],[],some []⟩)],[],primL [],globL⟩
def E0.l0 (K0:(Ty.den L3) → (Ty.den B8) → (Ty.den B8) → Int → ByteArray → Bool → Int → Bool → Bool → Bool → Bool → Bool → Bool → Int → ByteArray → (Ty.den SI) → (Ty.den SI) → Bool → Int → Bool → Bool → (Ty.den SI) → Bool → Bool → (Ty.den (.slice SI)) → Bool → (Ty.den (.slice SI)) → Bool → (Ty.den SI) → Option (Args [L3,B8,B8,.bool])):Nat → (Ty.den SI) → Int → Int → (Ty.den L3) → (Ty.den B8) → (Ty.den B8) → Int → ByteArray → Bool → Int → Bool → Bool → Bool → Bool → Bool → Bool → Int → ByteArray → (Ty.den SI) → (Ty.den SI) → Bool → Int → Bool → Bool → (Ty.den SI) → Bool → Bool → (Ty.den (.slice SI)) → Bool → (Ty.den (.slice SI)) → Bool → (Ty.den SI) → Option (Args [L3,B8,B8,.bool])
 | 0,_,_,_,_,_,_,_,_,_,_,_,_,_,_,_,_,_,_,_,_,_,_,_,_,_,_,_,_,_,_,_,_=>none
 | m + 1,v10,v11,v12,v13,v14,v15,v16,v17,v18,v19,v20,v21,v22,v23,v24,v25,v26,v27,v28,v29,v30,v31,v32,v33,v34,v35,v36,v37,v38,v39,v40,v41=>bif decide (v12 < v11) then (bif decide ((0:Int) ≤ v12) && decide (v12 < (↑(List.length v10):Int)) then (let z42:=(v26,(v27,()),(v28,()),(v29,(v30,v31,v32,v33,()),()),v34,()); let y43:=T3.val z42 (List.getD v10 (Int.toNat v12) (0:Int)); bif T3.dom z42 (List.getD v10 (Int.toNat v12) (0:Int)) then (bif decide ((List.length v41 + List.length y43.2.1) * (8:Nat) ≤ (140737488355328:Nat)) && decide (List.length v41 + List.length y43.2.1 ≤ lim) then (E0.l0 K0 m v10 v11 (i64.wrap (v12 + (1:Int))) v13 v14 v15 v16 v17 v18 v19 v20 v21 v22 v23 v24 v25 y43.1.1 y43.1.2.1.1 y43.1.2.2.1.1 y43.1.2.2.2.1.1 y43.1.2.2.2.1.2.1.1 y43.1.2.2.2.1.2.1.2.1 y43.1.2.2.2.1.2.1.2.2.1 y43.1.2.2.2.1.2.1.2.2.2.1 y43.1.2.2.2.2.1 v35 v36 v37 v38 v39 v40 (v41 ++ y43.2.1)) else (none)) else none) else (none)) else (K0 v13 v14 v15 v16 v17 v18 v19 v20 v21 v22 v23 v24 v25 v26 v27 v28 v29 v30 v31 v32 v33 v34 v35 v36 v37 v38 v39 v40 v41)
def E0.l0.t:St:=⟨jka 29 [.one (.sc (.ptr 9 0)),jk,jk,jk,jk,jk,jk,jk,jk,jk,jk,jk,jk,jk,jk,jk,jk,jk,jk,jk,jk,jk,jk,jk,jk,jk,zv SI,zv I6,zv I6],[.cells (dc L3),.cells (dc B8),.cells (dc B8),.cells [zl I6,zl .str,.nilS,.nilS,zl .bool,zl I6,zl .bool,zl .bool,.nilS,.nilS,zl .bool,zl .bool],.cells [.nilS,zl .bool],.cells [.nilS,zl .bool],.free,.free,.free,.cells [zl I6,zl .str,zl SI,zl SI,zl .bool,zl I6,zl .bool,zl .bool,zl SI,.own 14 0,zl .bool,zl .bool,.lf (.slice SI) (Ty.dflt (.slice SI)),zl .bool,.lf (.slice SI) (Ty.dflt (.slice SI)),zl .bool],.free,.free,.free,.free,.row I6 true 0 []],12⟩
def E0.l0.e0:St:=⟨jka 57 [jk],[.cells (dc L3),.cells (dc B8),.cells (dc B8),.cells [zl I6,zl .str,.nilS,.nilS,zl .bool,zl I6,zl .bool,zl .bool,.nilS,.nilS,zl .bool,zl .bool],.cells [.nilS,zl .bool],.cells [.nilS,zl .bool],.free,.free,.free,.cells [zl I6,zl .str,zl SI,zl SI,zl .bool,zl I6,zl .bool,zl .bool,zl SI,.own 14 0,zl .bool,zl .bool,.lf (.slice SI) (Ty.dflt (.slice SI)),zl .bool,.lf (.slice SI) (Ty.dflt (.slice SI)),zl .bool],.free,.free,.free,.free,.row I6 true 0 []],12⟩
def E0.raw (m:Nat) (x0:(Ty.den L3)) (x1:(Ty.den B8)) (x2:(Ty.den B8)):Option (Args [L3,B8,B8,.bool]):=let y1:=U6.val x0; bif U6.dom x0 then (let y2:=U9.val x1; bif U9.dom x1 then (let y3:=U9.val x2; bif U9.dom x2 then (bif y1.1.2.2.2.1 then (some ((y1.1,y2.1,y3.1,false,()))) else (bif decide ((↑(List.length y1.1.2.1):Int) > (0:Int)) then (let z4:=if (8:Int) < (↑(List.length y1.1.2.1):Int) then (8:Int) else (↑(List.length y1.1.2.1):Int); bif decide ((0:Int) ≤ z4) && decide (z4 ≤ (↑(List.length y1.1.2.1):Int)) then (let y5:=X6.val y3.1 (List.take z4.toNat y1.1.2.1); bif X6.dom y3.1 (List.take z4.toNat y1.1.2.1) then (bif y5.2.1 then (bif decide ((0:Int) ≤ z4) && decide (z4 ≤ (↑(List.length y1.1.2.1):Int)) && decide ((↑(List.length y1.1.2.1):Int) ≤ (↑(List.length y1.1.2.1):Int)) then (let z6:=List.drop z4.toNat (List.take (↑(List.length y1.1.2.1):Int).toNat y1.1.2.1); let y7:=C1.val z6; bif C1.dom z6 then (some (((y1.1.1,y7.1,y1.1.2.2),y2.1,y5))) else none) else (none)) else (some ((y1.1,y2.1,y3.1,y5.2)))) else none) else (none)) else (bif y1.1.2.2.1 then (let y8:=E9.val y3.1; bif E9.dom y3.1 then (some (((y1.1.1,y1.1.2.1,y1.1.2.2.1,true,()),y2.1,y8.1,true,()))) else none) else (bif decide ((↑(List.length y2.1.1):Int) > (0:Int)) then (let y9:=U5.val y2.1; bif U5.dom y2.1 then (E0.l0 (fun o44 o45 o46 o47 o48 o49 o50 o51 o52 o53 o54 o55 o56 o57 o58 o59 o60 o61 o62 o63 o64 o65 o66 o67 o68 o69 o70 o71 o72=>let z73:=((o57,(o58,()),(o59,()),(o60,(o61,o62,o63,o64,()),()),o65,()),o72,o66,o67,()); some ((z73,(o68,o69,()),(o70,o71,()),true,()))) m y9.2.1 ((↑(List.length y9.2.1):Int)) ((0:Int)) x0 x1 x2 ((0:Int)) (ByteArray.mk (nl UInt8).toArray) false ((0:Int)) false false false false false false y1.1.1.1 y1.1.1.2.1.1 y1.1.1.2.2.1.1 y1.1.1.2.2.2.1.1 y1.1.1.2.2.2.1.2.1.1 y1.1.1.2.2.2.1.2.1.2.1 y1.1.1.2.2.2.1.2.1.2.2.1 y1.1.1.2.2.2.1.2.1.2.2.2.1 y1.1.1.2.2.2.2.1 y1.1.2.2.1 y1.1.2.2.2.1 y9.1.1 y9.1.2.1 y3.1.1 y3.1.2.1 (nl Int)) else none) else (bif y2.1.2.1 then (let y74:=X3.val y1.1.1; bif X3.dom y1.1.1 then (some (((y74.1,y74.2.1,true,y1.1.2.2.2),y2.1,y3.1,true,()))) else none) else (some ((y1.1,y2.1,y3.1,false,())))))))) else none) else none) else none
def E0.val (x0:(Ty.den L3)) (x1:(Ty.den B8)) (x2:(Ty.den B8)):=(E0.raw fuel x0 x1 x2).getD (dfltA [L3,B8,B8,.bool])
def E0.dom (x0:(Ty.den L3)) (x1:(Ty.den B8)) (x2:(Ty.den B8)):=(E0.raw fuel x0 x1 x2).isSome
def E0.sg:Sig:=⟨[L3,B8,B8],[L3,B8,B8,.bool],false,fun x=>E0.dom x.1 x.2.1 x.2.2.1,fun x=>E0.val x.1 x.2.1 x.2.2.1⟩
noncomputable def E0.q0 (m:Nat) (s:St) (k:X → St → Option (Args [L3,B8,B8,.bool])):Option (Args [L3,B8,B8,.bool]) :=
 match unSt E0.l0.t [SI,I6,I6,L3,B8,B8,I6,.str,.bool,I6,.bool,.bool,.bool,.bool,.bool,.bool,I6,.str,SI,SI,.bool,I6,.bool,.bool,SI,.bool,.bool,(.slice SI),.bool,(.slice SI),.bool,SI] s with
  | some x=>E0.l0 (fun o0 o1 o2 o3 o4 o5 o6 o7 o8 o9 o10 o11 o12 o13 o14 o15 o16 o17 o18 o19 o20 o21 o22 o23 o24 o25 o26 o27 o28=>k (.exit 0) (mkSt E0.l0.e0 [L3,B8,B8,I6,.str,.bool,I6,.bool,.bool,.bool,.bool,.bool,.bool,I6,.str,SI,SI,.bool,I6,.bool,.bool,SI,.bool,.bool,(.slice SI),.bool,(.slice SI),.bool,SI] (o0,(o1,(o2,(o3,(o4,(o5,(o6,(o7,(o8,(o9,(o10,(o11,(o12,(o13,(o14,(o15,(o16,(o17,(o18,(o19,(o20,(o21,(o22,(o23,(o24,(o25,(o26,(o27,(o28,()))))))))))))))))))))))))))))))) m x.1 x.2.1 x.2.2.1 x.2.2.2.1 x.2.2.2.2.1 x.2.2.2.2.2.1 x.2.2.2.2.2.2.1 x.2.2.2.2.2.2.2.1 x.2.2.2.2.2.2.2.2.1 x.2.2.2.2.2.2.2.2.2.1 x.2.2.2.2.2.2.2.2.2.2.1 x.2.2.2.2.2.2.2.2.2.2.2.1 x.2.2.2.2.2.2.2.2.2.2.2.2.1 x.2.2.2.2.2.2.2.2.2.2.2.2.2.1 x.2.2.2.2.2.2.2.2.2.2.2.2.2.2.1 x.2.2.2.2.2.2.2.2.2.2.2.2.2.2.2.1 x.2.2.2.2.2.2.2.2.2.2.2.2.2.2.2.2.1 x.2.2.2.2.2.2.2.2.2.2.2.2.2.2.2.2.2.1 x.2.2.2.2.2.2.2.2.2.2.2.2.2.2.2.2.2.2.1 x.2.2.2.2.2.2.2.2.2.2.2.2.2.2.2.2.2.2.2.1 x.2.2.2.2.2.2.2.2.2.2.2.2.2.2.2.2.2.2.2.2.1 x.2.2.2.2.2.2.2.2.2.2.2.2.2.2.2.2.2.2.2.2.2.1 x.2.2.2.2.2.2.2.2.2.2.2.2.2.2.2.2.2.2.2.2.2.2.1 x.2.2.2.2.2.2.2.2.2.2.2.2.2.2.2.2.2.2.2.2.2.2.2.1 x.2.2.2.2.2.2.2.2.2.2.2.2.2.2.2.2.2.2.2.2.2.2.2.2.1 x.2.2.2.2.2.2.2.2.2.2.2.2.2.2.2.2.2.2.2.2.2.2.2.2.2.1 x.2.2.2.2.2.2.2.2.2.2.2.2.2.2.2.2.2.2.2.2.2.2.2.2.2.2.1 x.2.2.2.2.2.2.2.2.2.2.2.2.2.2.2.2.2.2.2.2.2.2.2.2.2.2.2.1 x.2.2.2.2.2.2.2.2.2.2.2.2.2.2.2.2.2.2.2.2.2.2.2.2.2.2.2.2.1 x.2.2.2.2.2.2.2.2.2.2.2.2.2.2.2.2.2.2.2.2.2.2.2.2.2.2.2.2.2.1 x.2.2.2.2.2.2.2.2.2.2.2.2.2.2.2.2.2.2.2.2.2.2.2.2.2.2.2.2.2.2.1 x.2.2.2.2.2.2.2.2.2.2.2.2.2.2.2.2.2.2.2.2.2.2.2.2.2.2.2.2.2.2.2.1
  | none=>none
noncomputable def E0.L (m:Nat) (c:Code) (s:St) (k:X → St → Option (Args [L3,B8,B8,.bool])):Option (Args [L3,B8,B8,.bool]) :=
 match O9 c with
 | some r=>bif Nat.beq r 29005 then (E0.q0 m s k) else none
 | none=>none
theorem E0.cs_eq:loopsL Go.Proofs.Tryz.f159 [(181,Go.Proofs.Tryz.f181),(207,Go.Proofs.Tryz.f207),(208,Go.Proofs.Tryz.f208),(209,Go.Proofs.Tryz.f209),(210,Go.Proofs.Tryz.f210),(211,Go.Proofs.Tryz.f211)] = [(loopsL Go.Proofs.Tryz.f159 [(181,Go.Proofs.Tryz.f181),(207,Go.Proofs.Tryz.f207),(208,Go.Proofs.Tryz.f208),(209,Go.Proofs.Tryz.f209),(210,Go.Proofs.Tryz.f210),(211,Go.Proofs.Tryz.f211)]).getD 0 .skip]:=by kernel_rfl
theorem E0.good:Good (E0.E) (fun c=>c ∈ loopsL Go.Proofs.Tryz.f159 [(181,Go.Proofs.Tryz.f181),(207,Go.Proofs.Tryz.f207),(208,Go.Proofs.Tryz.f208),(209,Go.Proofs.Tryz.f209),(210,Go.Proofs.Tryz.f210),(211,Go.Proofs.Tryz.f211)]) E0.L:=by
 have cases:∀ c,c ∈ loopsL Go.Proofs.Tryz.f159 [(181,Go.Proofs.Tryz.f181),(207,Go.Proofs.Tryz.f207),(208,Go.Proofs.Tryz.f208),(209,Go.Proofs.Tryz.f209),(210,Go.Proofs.Tryz.f210),(211,Go.Proofs.Tryz.f211)] → c = (loopsL Go.Proofs.Tryz.f159 [(181,Go.Proofs.Tryz.f181),(207,Go.Proofs.Tryz.f207),(208,Go.Proofs.Tryz.f208),(209,Go.Proofs.Tryz.f209),(210,Go.Proofs.Tryz.f210),(211,Go.Proofs.Tryz.f211)]).getD 0 .skip:=by
  intro c hc; rw [E0.cs_eq] at hc; simpa only [List.mem_cons,List.not_mem_nil,or_false] using hc
 refine ⟨?_,?_,fun c hc=>T4 c hc⟩
 ·intro c s k r hc h
  rcases cases c hc with rfl
  ·have h':E0.q0 0 s k = some r:=Eq.trans (by kernel_rfl) h
   unfold E0.q0 at h'
   split at h'
   ·rename_i x hx
    have h2:(none:Option (Args [L3,B8,B8,.bool])) = some r:=Eq.trans (by kernel_rfl) h'
    cases h2
   cases h'
 ·intro m c s k r hc h
  rcases cases c hc with rfl
  ·have h':E0.q0 (m + 1) s k = some r:=Eq.trans (by kernel_rfl) h
   unfold E0.q0 at h'
   split at h'
   ·rename_i x hx
    rw [O8 hx]
    exact Eq.trans (by kernel_rfl) h'
   cases h'
theorem E0.eq (m:Nat) (x0:(Ty.den L3)) (x1:(Ty.den B8)) (x2:(Ty.den B8)):runS E0.E Go.Proofs.Tryz.f159 E0.sg (E0.L m) (x0,(x1,(x2,()))) = E0.raw m x0 x1 x2:=by kernel_rfl
theorem E0.told (h:Base0) (hs:AllT E0.ls):Told 159 E0.sg :=
 T5 h fn159 (il:=[(181,Go.Proofs.Tryz.f181),(207,Go.Proofs.Tryz.f207),(208,Go.Proofs.Tryz.f208),(209,Go.Proofs.Tryz.f209),(210,Go.Proofs.Tryz.f210),(211,Go.Proofs.Tryz.f211)]) (pl:=[]) hs ⟨fn181,⟨fn207,⟨fn208,⟨fn209,⟨fn210,⟨fn211,trivial⟩⟩⟩⟩⟩⟩ trivial (L:=E0.L) E0.good (fun x=>E0.eq fuel x.1 x.2.1 x.2.2.1)
end Pt
end
section
open Go Go.Am
namespace Pt
def isOut:Sig:=⟨[.int .i64],[.bool],false,fun x=>!(decide ((0:Int) ≤ x.1) && decide (x.1 < (5:Int))),fun _=>(false,())⟩
theorem C75 {n:Nat} (h:Told n a24.sg):Told n isOut:=by
 refine h.weaken fun x hx=>?_
 obtain ⟨x,xe⟩:=x
 cases xe
 have hx':(!(decide ((0:Int) ≤ x) && decide (x < (5:Int)))) = true:=hx
 show (a24.raw fuel x).isSome = true ∧ (a24.raw fuel x).getD _ = (false,())
 unfold a24.raw
 by_cases h0:(0:Int) ≤ x <;> by_cases h5:x < (5:Int) <;> simp [h0,h5] at hx' ⊢
end Pt
end
section
open Go Go.Am
namespace Pt
set_option maxRecDepth 100000
def D2.E:Env:=⟨T,sigL [(137,a24.sg),(156,D3.sg),(159,E0.sg)],inlL [],annL [],[],primL [],globL⟩
def D2.Eo:Env:=⟨T,sigL [(137,isOut),(156,D3.sg),(159,E0.sg)],inlL [],annL [],[],primL [],globL⟩
def D2.r0 (m:Nat) (x0:(Ty.den B1)) (x1:Int):Option (Args [B1,.bool]):=let y1:=D3.val x0; bif D3.dom x0 then (let y2:=E0.val y1.1.2.1.1 y1.1.2.2.1.1 y1.1.2.2.1.2.1; bif E0.dom y1.1.2.1.1 y1.1.2.2.1.1 y1.1.2.2.1.2.1 then (some (((y1.1.1,(y2.1,y1.1.2.1.2),(y2.2.1,y2.2.2.1,y1.1.2.2.1.2.2),()),y2.2.2.2))) else none) else none
def D2.r1 (m:Nat) (x0:(Ty.den B1)) (x1:Int):Option (Args [B1,.bool]):=let y1:=D3.val x0; bif D3.dom x0 then (let y2:=E0.val y1.1.2.1.2.1 y1.1.2.2.1.2.1 y1.1.2.2.1.2.2.1; bif E0.dom y1.1.2.1.2.1 y1.1.2.2.1.2.1 y1.1.2.2.1.2.2.1 then (some (((y1.1.1,(y1.1.2.1.1,y2.1,y1.1.2.1.2.2),(y1.1.2.2.1.1,y2.2.1,y2.2.2.1,y1.1.2.2.1.2.2.2),()),y2.2.2.2))) else none) else none
def D2.r2 (m:Nat) (x0:(Ty.den B1)) (x1:Int):Option (Args [B1,.bool]):=let y1:=D3.val x0; bif D3.dom x0 then (let y2:=E0.val y1.1.2.1.2.2.1 y1.1.2.2.1.2.2.1 y1.1.2.2.1.2.2.2.1; bif E0.dom y1.1.2.1.2.2.1 y1.1.2.2.1.2.2.1 y1.1.2.2.1.2.2.2.1 then (some (((y1.1.1,(y1.1.2.1.1,y1.1.2.1.2.1,y2.1,y1.1.2.1.2.2.2),(y1.1.2.2.1.1,y1.1.2.2.1.2.1,y2.2.1,y2.2.2.1,y1.1.2.2.1.2.2.2.2),()),y2.2.2.2))) else none) else none
def D2.r3 (m:Nat) (x0:(Ty.den B1)) (x1:Int):Option (Args [B1,.bool]):=let y1:=D3.val x0; bif D3.dom x0 then (let y2:=E0.val y1.1.2.1.2.2.2.1 y1.1.2.2.1.2.2.2.1 y1.1.2.2.1.2.2.2.2.1; bif E0.dom y1.1.2.1.2.2.2.1 y1.1.2.2.1.2.2.2.1 y1.1.2.2.1.2.2.2.2.1 then (some (((y1.1.1,(y1.1.2.1.1,y1.1.2.1.2.1,y1.1.2.1.2.2.1,y2.1,y1.1.2.1.2.2.2.2),(y1.1.2.2.1.1,y1.1.2.2.1.2.1,y1.1.2.2.1.2.2.1,y2.2.1,y2.2.2.1,y1.1.2.2.1.2.2.2.2.2),()),y2.2.2.2))) else none) else none
def D2.r4 (m:Nat) (x0:(Ty.den B1)) (x1:Int):Option (Args [B1,.bool]):=let y1:=D3.val x0; bif D3.dom x0 then (let y2:=E0.val y1.1.2.1.2.2.2.2.1 y1.1.2.2.1.2.2.2.2.1 y1.1.2.2.1.2.2.2.2.2.1; bif E0.dom y1.1.2.1.2.2.2.2.1 y1.1.2.2.1.2.2.2.2.1 y1.1.2.2.1.2.2.2.2.2.1 then (let z3:=((y1.1.1,(y1.1.2.1.1,y1.1.2.1.2.1,y1.1.2.1.2.2.1,y1.1.2.1.2.2.2.1,y2.1,()),(y1.1.2.2.1.1,y1.1.2.2.1.2.1,y1.1.2.2.1.2.2.1,y1.1.2.2.1.2.2.2.1,y2.2.1,y2.2.2.1,()),()),y2.2.2.2); some z3) else none) else none
def D2.ro (m:Nat) (x0:(Ty.den B1)) (x1:Int):Option (Args [B1,.bool]):=let y1:=D3.val x0; bif D3.dom x0 then (bif isOut.dom (x1,()) then (some ((y1.1,false,()))) else (none)) else none
def D2.raw (m:Nat) (x0:(Ty.den B1)) (x1:Int):Option (Args [B1,.bool]):=bif x1 == (0:Int) then D2.r0 m x0 x1 else bif x1 == (1:Int) then D2.r1 m x0 x1 else bif x1 == (2:Int) then D2.r2 m x0 x1 else bif x1 == (3:Int) then D2.r3 m x0 x1 else bif x1 == (4:Int) then D2.r4 m x0 x1 else D2.ro m x0 x1
def D2.val (x0:(Ty.den B1)) (x1:Int):=(D2.raw fuel x0 x1).getD (dfltA [B1,.bool])
def D2.dom (x0:(Ty.den B1)) (x1:Int):=(D2.raw fuel x0 x1).isSome
def D2.sg:Sig:=⟨[B1,I6],[B1,.bool],false,fun x=>D2.dom x.1 x.2.1,fun x=>D2.val x.1 x.2.1⟩
theorem D2.eq0 (m:Nat) (x0:(Ty.den B1)):runFn D2.E Go.Proofs.Tryz.f135 [B1,I6] [B1,.bool] false ((fun _ _ _ _=>none) m) (x0,((0:Int),())) = D2.r0 m x0 (0:Int):=by kernel_rfl
theorem D2.eq1 (m:Nat) (x0:(Ty.den B1)):runFn D2.E Go.Proofs.Tryz.f135 [B1,I6] [B1,.bool] false ((fun _ _ _ _=>none) m) (x0,((1:Int),())) = D2.r1 m x0 (1:Int):=by kernel_rfl
theorem D2.eq2 (m:Nat) (x0:(Ty.den B1)):runFn D2.E Go.Proofs.Tryz.f135 [B1,I6] [B1,.bool] false ((fun _ _ _ _=>none) m) (x0,((2:Int),())) = D2.r2 m x0 (2:Int):=by kernel_rfl
theorem D2.eq3 (m:Nat) (x0:(Ty.den B1)):runFn D2.E Go.Proofs.Tryz.f135 [B1,I6] [B1,.bool] false ((fun _ _ _ _=>none) m) (x0,((3:Int),())) = D2.r3 m x0 (3:Int):=by kernel_rfl
theorem D2.eq4 (m:Nat) (x0:(Ty.den B1)):runFn D2.E Go.Proofs.Tryz.f135 [B1,I6] [B1,.bool] false ((fun _ _ _ _=>none) m) (x0,((4:Int),())) = D2.r4 m x0 (4:Int):=by kernel_rfl
theorem D2.eqo (m:Nat) (x0:(Ty.den B1)) (x1:Int):runFn D2.Eo Go.Proofs.Tryz.f135 [B1,I6] [B1,.bool] false ((fun _ _ _ _=>none) m) (x0,(x1,())) = D2.ro m x0 x1:=by kernel_rfl
theorem D2.told (h:Base0) (hs:AllT [(137,a24.sg),(156,D3.sg),(159,E0.sg)]):Told 135 D2.sg:=by
 refine Told.pieces fn135.2 fun x hx=>?_
 obtain ⟨x0,x1,xe⟩:=x
 cases xe
 change (D2.raw fuel x0 x1).isSome = true at hx
 by_cases h0:x1 = (0:Int)
 ·subst h0
  have e:D2.raw fuel x0 (0:Int) = D2.r0 fuel x0 (0:Int):=rfl
  refine ⟨_,_,w12 h fn135 (l:=[(137,a24.sg),(156,D3.sg),(159,E0.sg)]) (il:=[]) (pl:=[]) (args:=[B1,I6]) (res:=[B1,.bool]) (fresh:=false) (an:=annL []) (fns:=[]) (raw:=fun (x:Args [B1,I6])=>D2.r0 fuel x.1 x.2.1) (d0:=fun (x:Args [B1,I6])=>x.2.1 == (0:Int)) hs trivial trivial (L:=(fun _ _ _ _=>none)) a14 ?_,?_,?_⟩
  ·rintro ⟨y0,y1,ye⟩ hy
   cases ye
   have hy':y1 = (0:Int):=by simpa using hy
   subst hy'
   exact D2.eq0 fuel y0
  ·show ((0:Int) == 0 && (D2.r0 fuel x0 (0:Int)).isSome) = true
   rw [← e,hx]; rfl
  ·show (D2.r0 fuel x0 (0:Int)).getD _ = (D2.raw fuel x0 (0:Int)).getD _
   rw [e]
 by_cases h1:x1 = (1:Int)
 ·subst h1
  have e:D2.raw fuel x0 (1:Int) = D2.r1 fuel x0 (1:Int):=rfl
  refine ⟨_,_,w12 h fn135 (l:=[(137,a24.sg),(156,D3.sg),(159,E0.sg)]) (il:=[]) (pl:=[]) (args:=[B1,I6]) (res:=[B1,.bool]) (fresh:=false) (an:=annL []) (fns:=[]) (raw:=fun (x:Args [B1,I6])=>D2.r1 fuel x.1 x.2.1) (d0:=fun (x:Args [B1,I6])=>x.2.1 == (1:Int)) hs trivial trivial (L:=(fun _ _ _ _=>none)) a14 ?_,?_,?_⟩
  ·rintro ⟨y0,y1,ye⟩ hy
   cases ye
   have hy':y1 = (1:Int):=by simpa using hy
   subst hy'
   exact D2.eq1 fuel y0
  ·show ((1:Int) == 1 && (D2.r1 fuel x0 (1:Int)).isSome) = true
   rw [← e,hx]; rfl
  ·show (D2.r1 fuel x0 (1:Int)).getD _ = (D2.raw fuel x0 (1:Int)).getD _
   rw [e]
 by_cases h2:x1 = (2:Int)
 ·subst h2
  have e:D2.raw fuel x0 (2:Int) = D2.r2 fuel x0 (2:Int):=rfl
  refine ⟨_,_,w12 h fn135 (l:=[(137,a24.sg),(156,D3.sg),(159,E0.sg)]) (il:=[]) (pl:=[]) (args:=[B1,I6]) (res:=[B1,.bool]) (fresh:=false) (an:=annL []) (fns:=[]) (raw:=fun (x:Args [B1,I6])=>D2.r2 fuel x.1 x.2.1) (d0:=fun (x:Args [B1,I6])=>x.2.1 == (2:Int)) hs trivial trivial (L:=(fun _ _ _ _=>none)) a14 ?_,?_,?_⟩
  ·rintro ⟨y0,y1,ye⟩ hy
   cases ye
   have hy':y1 = (2:Int):=by simpa using hy
   subst hy'
   exact D2.eq2 fuel y0
  ·show ((2:Int) == 2 && (D2.r2 fuel x0 (2:Int)).isSome) = true
   rw [← e,hx]; rfl
  ·show (D2.r2 fuel x0 (2:Int)).getD _ = (D2.raw fuel x0 (2:Int)).getD _
   rw [e]
 by_cases h3:x1 = (3:Int)
 ·subst h3
  have e:D2.raw fuel x0 (3:Int) = D2.r3 fuel x0 (3:Int):=rfl
  refine ⟨_,_,w12 h fn135 (l:=[(137,a24.sg),(156,D3.sg),(159,E0.sg)]) (il:=[]) (pl:=[]) (args:=[B1,I6]) (res:=[B1,.bool]) (fresh:=false) (an:=annL []) (fns:=[]) (raw:=fun (x:Args [B1,I6])=>D2.r3 fuel x.1 x.2.1) (d0:=fun (x:Args [B1,I6])=>x.2.1 == (3:Int)) hs trivial trivial (L:=(fun _ _ _ _=>none)) a14 ?_,?_,?_⟩
  ·rintro ⟨y0,y1,ye⟩ hy
   cases ye
   have hy':y1 = (3:Int):=by simpa using hy
   subst hy'
   exact D2.eq3 fuel y0
  ·show ((3:Int) == 3 && (D2.r3 fuel x0 (3:Int)).isSome) = true
   rw [← e,hx]; rfl
  ·show (D2.r3 fuel x0 (3:Int)).getD _ = (D2.raw fuel x0 (3:Int)).getD _
   rw [e]
 by_cases h4:x1 = (4:Int)
 ·subst h4
  have e:D2.raw fuel x0 (4:Int) = D2.r4 fuel x0 (4:Int):=rfl
  refine ⟨_,_,w12 h fn135 (l:=[(137,a24.sg),(156,D3.sg),(159,E0.sg)]) (il:=[]) (pl:=[]) (args:=[B1,I6]) (res:=[B1,.bool]) (fresh:=false) (an:=annL []) (fns:=[]) (raw:=fun (x:Args [B1,I6])=>D2.r4 fuel x.1 x.2.1) (d0:=fun (x:Args [B1,I6])=>x.2.1 == (4:Int)) hs trivial trivial (L:=(fun _ _ _ _=>none)) a14 ?_,?_,?_⟩
  ·rintro ⟨y0,y1,ye⟩ hy
   cases ye
   have hy':y1 = (4:Int):=by simpa using hy
   subst hy'
   exact D2.eq4 fuel y0
  ·show ((4:Int) == 4 && (D2.r4 fuel x0 (4:Int)).isSome) = true
   rw [← e,hx]; rfl
  ·show (D2.r4 fuel x0 (4:Int)).getD _ = (D2.raw fuel x0 (4:Int)).getD _
   rw [e]
 have e:D2.raw fuel x0 x1 = D2.ro fuel x0 x1:=by
  unfold D2.raw
  simp only [h0,h1,h2,h3,h4,beq_iff_eq,cond_eq_ite,if_false]
 refine ⟨_,_,w12 h fn135 (l:=[(137,isOut),(156,D3.sg),(159,E0.sg)]) (il:=[]) (pl:=[]) (args:=[B1,I6]) (res:=[B1,.bool]) (fresh:=false) (an:=annL []) (fns:=[]) (raw:=fun (x:Args [B1,I6])=>D2.ro fuel x.1 x.2.1) (d0:=fun _=>true) ⟨C75 hs.1,hs.2.1,hs.2.2.1,trivial⟩ trivial trivial (L:=(fun _ _ _ _=>none)) a14 (fun (x:Args [B1,I6]) _=>D2.eqo fuel x.1 x.2.1),?_,?_⟩
 ·show (true && (D2.ro fuel x0 x1).isSome) = true
  rw [← e,hx]; rfl
 ·show (D2.ro fuel x0 x1).getD _ = (D2.raw fuel x0 x1).getD _
  rw [e]
end Pt
end
section
open Go Go.Am
open IntKind (i64 u64 u8 i32 u32)
namespace Pt
set_option maxRecDepth 100000
abbrev L1.ls:List (Nat × Sig):=[(135,D2.sg)]
def L1.E:Env:=mkE L1.ls
def L1.raw (m:Nat) (x0:(Ty.den a7)) (x1:Int):Option (Args [a7,.bool]):=let y1:=D2.val x0.2.2.2.1 (i64.wrap (x1 - (1:Int))); bif D2.dom x0.2.2.2.1 (i64.wrap (x1 - (1:Int))) then (some (((x0.1,x0.2.1,x0.2.2.1,y1.1,x0.2.2.2.2),y1.2))) else none
def L1.val (x0:(Ty.den a7)) (x1:Int):=(L1.raw fuel x0 x1).getD (dfltA [a7,.bool])
def L1.dom (x0:(Ty.den a7)) (x1:Int):=(L1.raw fuel x0 x1).isSome
def L1.sg:Sig:=⟨[a7,I6],[a7,.bool],false,fun x=>L1.dom x.1 x.2.1,fun x=>L1.val x.1 x.2.1⟩
theorem L1.eq (m:Nat) (x0:(Ty.den a7)) (x1:Int):runS L1.E Go.Proofs.Tryz.f112 L1.sg (nL m) (x0,(x1,())) = L1.raw m x0 x1:=by kernel_rfl
theorem L1.told(h:Base0) (hs:AllT L1.ls):Told 112 L1.sg :=
 told_n h fn112 hs (fun x=>L1.eq fuel x.1 x.2.1)
def C7.E:Env:=⟨T,sigL [(108,R8.sg),(137,a24.sg),(156,D3.sg),(158,E9.sg)],inlL [],annL [],[],primL [],globL⟩
def C7.Eo:Env:=⟨T,sigL [(108,R8.sg),(137,isOut),(156,D3.sg),(158,E9.sg)],inlL [],annL [],[],primL [],globL⟩
def C7.r0 (m:Nat) (x0:(Ty.den B1)) (x1:Int):Option (Args [B1]):=let y1:=D3.val x0; bif D3.dom x0 then (let y2:=E9.val y1.1.2.2.1.2.1; bif E9.dom y1.1.2.2.1.2.1 then (let z3:=(((0:Int),(ByteArray.mk (nl UInt8).toArray,()),(nl (Ty.int i64).den,()),(nl (Ty.int i64).den,(false,(0:Int),false,false,()),()),nl (Ty.int i64).den,()),nl (Ty.int i64).den,true,true,()); some (((y1.1.1,(z3,y1.1.2.1.2),((nl (Ty.int i64).slice.den,true,()),y2.1,y1.1.2.2.1.2.2),()),()))) else none) else none
def C7.r1 (m:Nat) (x0:(Ty.den B1)) (x1:Int):Option (Args [B1]):=let y1:=D3.val x0; bif D3.dom x0 then (let y2:=E9.val y1.1.2.2.1.2.2.1; bif E9.dom y1.1.2.2.1.2.2.1 then (let z3:=(((1:Int),(ByteArray.mk (nl UInt8).toArray,()),(nl (Ty.int i64).den,()),(nl (Ty.int i64).den,(false,(0:Int),false,false,()),()),nl (Ty.int i64).den,()),nl (Ty.int i64).den,true,true,()); some (((y1.1.1,(y1.1.2.1.1,z3,y1.1.2.1.2.2),(y1.1.2.2.1.1,(nl (Ty.int i64).slice.den,true,()),y2.1,y1.1.2.2.1.2.2.2),()),()))) else none) else none
def C7.r2 (m:Nat) (x0:(Ty.den B1)) (x1:Int):Option (Args [B1]):=let y1:=D3.val x0; bif D3.dom x0 then (let y2:=E9.val y1.1.2.2.1.2.2.2.1; bif E9.dom y1.1.2.2.1.2.2.2.1 then (let z3:=(((2:Int),(ByteArray.mk (nl UInt8).toArray,()),(nl (Ty.int i64).den,()),(nl (Ty.int i64).den,(false,(0:Int),false,false,()),()),nl (Ty.int i64).den,()),nl (Ty.int i64).den,true,true,()); some (((y1.1.1,(y1.1.2.1.1,y1.1.2.1.2.1,z3,y1.1.2.1.2.2.2),(y1.1.2.2.1.1,y1.1.2.2.1.2.1,(nl (Ty.int i64).slice.den,true,()),y2.1,y1.1.2.2.1.2.2.2.2),()),()))) else none) else none
def C7.r3 (m:Nat) (x0:(Ty.den B1)) (x1:Int):Option (Args [B1]):=let y1:=D3.val x0; bif D3.dom x0 then (let y2:=E9.val y1.1.2.2.1.2.2.2.2.1; bif E9.dom y1.1.2.2.1.2.2.2.2.1 then (let z3:=(((3:Int),(ByteArray.mk (nl UInt8).toArray,()),(nl (Ty.int i64).den,()),(nl (Ty.int i64).den,(false,(0:Int),false,false,()),()),nl (Ty.int i64).den,()),nl (Ty.int i64).den,true,true,()); let z4:=((y1.1.1,(y1.1.2.1.1,y1.1.2.1.2.1,y1.1.2.1.2.2.1,z3,y1.1.2.1.2.2.2.2),(y1.1.2.2.1.1,y1.1.2.2.1.2.1,y1.1.2.2.1.2.2.1,(nl (Ty.int i64).slice.den,true,()),y2.1,y1.1.2.2.1.2.2.2.2.2),()),()); some z4) else none) else none
def C7.r4 (m:Nat) (x0:(Ty.den B1)) (x1:Int):Option (Args [B1]):=let y1:=D3.val x0; bif D3.dom x0 then (let y2:=E9.val y1.1.2.2.1.2.2.2.2.2.1; bif E9.dom y1.1.2.2.1.2.2.2.2.2.1 then (let z3:=(((4:Int),(ByteArray.mk (nl UInt8).toArray,()),(nl (Ty.int i64).den,()),(nl (Ty.int i64).den,(false,(0:Int),false,false,()),()),nl (Ty.int i64).den,()),nl (Ty.int i64).den,true,true,()); let z4:=(y1.1.1,(y1.1.2.1.1,y1.1.2.1.2.1,y1.1.2.1.2.2.1,y1.1.2.1.2.2.2.1,z3,()),(y1.1.2.2.1.1,y1.1.2.2.1.2.1,y1.1.2.2.1.2.2.1,y1.1.2.2.1.2.2.2.1,(nl (Ty.int i64).slice.den,true,()),y2),()); some ((z4,()))) else none) else none
def C7.ro (m:Nat) (x0:(Ty.den B1)) (x1:Int):Option (Args [B1]):=let y1:=D3.val x0; bif D3.dom x0 then (bif isOut.dom (x1,()) then (some y1) else (none)) else none
def C7.raw (m:Nat) (x0:(Ty.den B1)) (x1:Int):Option (Args [B1]):=bif x1 == (0:Int) then C7.r0 m x0 x1 else bif x1 == (1:Int) then C7.r1 m x0 x1 else bif x1 == (2:Int) then C7.r2 m x0 x1 else bif x1 == (3:Int) then C7.r3 m x0 x1 else bif x1 == (4:Int) then C7.r4 m x0 x1 else C7.ro m x0 x1
def C7.val (x0:(Ty.den B1)) (x1:Int):=(C7.raw fuel x0 x1).getD (dfltA [B1])
def C7.dom (x0:(Ty.den B1)) (x1:Int):=(C7.raw fuel x0 x1).isSome
def C7.sg:Sig:=⟨[B1,I6],[B1],false,fun x=>C7.dom x.1 x.2.1,fun x=>C7.val x.1 x.2.1⟩
theorem C7.eq0 (m:Nat) (x0:(Ty.den B1)):runFn C7.E Go.Proofs.Tryz.f136 [B1,I6] [B1] false ((fun _ _ _ _=>none) m) (x0,((0:Int),())) = C7.r0 m x0 (0:Int):=by kernel_rfl
theorem C7.eq1 (m:Nat) (x0:(Ty.den B1)):runFn C7.E Go.Proofs.Tryz.f136 [B1,I6] [B1] false ((fun _ _ _ _=>none) m) (x0,((1:Int),())) = C7.r1 m x0 (1:Int):=by kernel_rfl
theorem C7.eq2 (m:Nat) (x0:(Ty.den B1)):runFn C7.E Go.Proofs.Tryz.f136 [B1,I6] [B1] false ((fun _ _ _ _=>none) m) (x0,((2:Int),())) = C7.r2 m x0 (2:Int):=by kernel_rfl
theorem C7.eq3 (m:Nat) (x0:(Ty.den B1)):runFn C7.E Go.Proofs.Tryz.f136 [B1,I6] [B1] false ((fun _ _ _ _=>none) m) (x0,((3:Int),())) = C7.r3 m x0 (3:Int):=by kernel_rfl
theorem C7.eq4 (m:Nat) (x0:(Ty.den B1)):runFn C7.E Go.Proofs.Tryz.f136 [B1,I6] [B1] false ((fun _ _ _ _=>none) m) (x0,((4:Int),())) = C7.r4 m x0 (4:Int):=by kernel_rfl
theorem C7.eqo (m:Nat) (x0:(Ty.den B1)) (x1:Int):runFn C7.Eo Go.Proofs.Tryz.f136 [B1,I6] [B1] false ((fun _ _ _ _=>none) m) (x0,(x1,())) = C7.ro m x0 x1:=by kernel_rfl
theorem C7.told (h:Base0) (hs:AllT [(108,R8.sg),(137,a24.sg),(156,D3.sg),(158,E9.sg)]):Told 136 C7.sg:=by
 refine Told.pieces fn136.2 fun x hx=>?_
 obtain ⟨x0,x1,xe⟩:=x
 cases xe
 change (C7.raw fuel x0 x1).isSome = true at hx
 by_cases h0:x1 = (0:Int)
 ·subst h0
  have e:C7.raw fuel x0 (0:Int) = C7.r0 fuel x0 (0:Int):=rfl
  refine ⟨_,_,w12 h fn136 (l:=[(108,R8.sg),(137,a24.sg),(156,D3.sg),(158,E9.sg)]) (il:=[]) (pl:=[]) (args:=[B1,I6]) (res:=[B1]) (fresh:=false) (an:=annL []) (fns:=[]) (raw:=fun (x:Args [B1,I6])=>C7.r0 fuel x.1 x.2.1) (d0:=fun (x:Args [B1,I6])=>x.2.1 == (0:Int)) hs trivial trivial (L:=(fun _ _ _ _=>none)) a14 ?_,?_,?_⟩
  ·rintro ⟨y0,y1,ye⟩ hy
   cases ye
   have hy':y1 = (0:Int):=by simpa using hy
   subst hy'
   exact C7.eq0 fuel y0
  ·show ((0:Int) == 0 && (C7.r0 fuel x0 (0:Int)).isSome) = true
   rw [← e,hx]; rfl
  ·show (C7.r0 fuel x0 (0:Int)).getD _ = (C7.raw fuel x0 (0:Int)).getD _
   rw [e]
 by_cases h1:x1 = (1:Int)
 ·subst h1
  have e:C7.raw fuel x0 (1:Int) = C7.r1 fuel x0 (1:Int):=rfl
  refine ⟨_,_,w12 h fn136 (l:=[(108,R8.sg),(137,a24.sg),(156,D3.sg),(158,E9.sg)]) (il:=[]) (pl:=[]) (args:=[B1,I6]) (res:=[B1]) (fresh:=false) (an:=annL []) (fns:=[]) (raw:=fun (x:Args [B1,I6])=>C7.r1 fuel x.1 x.2.1) (d0:=fun (x:Args [B1,I6])=>x.2.1 == (1:Int)) hs trivial trivial (L:=(fun _ _ _ _=>none)) a14 ?_,?_,?_⟩
  ·rintro ⟨y0,y1,ye⟩ hy
   cases ye
   have hy':y1 = (1:Int):=by simpa using hy
   subst hy'
   exact C7.eq1 fuel y0
  ·show ((1:Int) == 1 && (C7.r1 fuel x0 (1:Int)).isSome) = true
   rw [← e,hx]; rfl
  ·show (C7.r1 fuel x0 (1:Int)).getD _ = (C7.raw fuel x0 (1:Int)).getD _
   rw [e]
 by_cases h2:x1 = (2:Int)
 ·subst h2
  have e:C7.raw fuel x0 (2:Int) = C7.r2 fuel x0 (2:Int):=rfl
  refine ⟨_,_,w12 h fn136 (l:=[(108,R8.sg),(137,a24.sg),(156,D3.sg),(158,E9.sg)]) (il:=[]) (pl:=[]) (args:=[B1,I6]) (res:=[B1]) (fresh:=false) (an:=annL []) (fns:=[]) (raw:=fun (x:Args [B1,I6])=>C7.r2 fuel x.1 x.2.1) (d0:=fun (x:Args [B1,I6])=>x.2.1 == (2:Int)) hs trivial trivial (L:=(fun _ _ _ _=>none)) a14 ?_,?_,?_⟩
  ·rintro ⟨y0,y1,ye⟩ hy
   cases ye
   have hy':y1 = (2:Int):=by simpa using hy
   subst hy'
   exact C7.eq2 fuel y0
  ·show ((2:Int) == 2 && (C7.r2 fuel x0 (2:Int)).isSome) = true
   rw [← e,hx]; rfl
  ·show (C7.r2 fuel x0 (2:Int)).getD _ = (C7.raw fuel x0 (2:Int)).getD _
   rw [e]
 by_cases h3:x1 = (3:Int)
 ·subst h3
  have e:C7.raw fuel x0 (3:Int) = C7.r3 fuel x0 (3:Int):=rfl
  refine ⟨_,_,w12 h fn136 (l:=[(108,R8.sg),(137,a24.sg),(156,D3.sg),(158,E9.sg)]) (il:=[]) (pl:=[]) (args:=[B1,I6]) (res:=[B1]) (fresh:=false) (an:=annL []) (fns:=[]) (raw:=fun (x:Args [B1,I6])=>C7.r3 fuel x.1 x.2.1) (d0:=fun (x:Args [B1,I6])=>x.2.1 == (3:Int)) hs trivial trivial (L:=(fun _ _ _ _=>none)) a14 ?_,?_,?_⟩
  ·rintro ⟨y0,y1,ye⟩ hy
   cases ye
   have hy':y1 = (3:Int):=by simpa using hy
   subst hy'
   exact C7.eq3 fuel y0
  ·show ((3:Int) == 3 && (C7.r3 fuel x0 (3:Int)).isSome) = true
   rw [← e,hx]; rfl
  ·show (C7.r3 fuel x0 (3:Int)).getD _ = (C7.raw fuel x0 (3:Int)).getD _
   rw [e]
 by_cases h4:x1 = (4:Int)
 ·subst h4
  have e:C7.raw fuel x0 (4:Int) = C7.r4 fuel x0 (4:Int):=rfl
  refine ⟨_,_,w12 h fn136 (l:=[(108,R8.sg),(137,a24.sg),(156,D3.sg),(158,E9.sg)]) (il:=[]) (pl:=[]) (args:=[B1,I6]) (res:=[B1]) (fresh:=false) (an:=annL []) (fns:=[]) (raw:=fun (x:Args [B1,I6])=>C7.r4 fuel x.1 x.2.1) (d0:=fun (x:Args [B1,I6])=>x.2.1 == (4:Int)) hs trivial trivial (L:=(fun _ _ _ _=>none)) a14 ?_,?_,?_⟩
  ·rintro ⟨y0,y1,ye⟩ hy
   cases ye
   have hy':y1 = (4:Int):=by simpa using hy
   subst hy'
   exact C7.eq4 fuel y0
  ·show ((4:Int) == 4 && (C7.r4 fuel x0 (4:Int)).isSome) = true
   rw [← e,hx]; rfl
  ·show (C7.r4 fuel x0 (4:Int)).getD _ = (C7.raw fuel x0 (4:Int)).getD _
   rw [e]
 have e:C7.raw fuel x0 x1 = C7.ro fuel x0 x1:=by
  unfold C7.raw
  simp only [h0,h1,h2,h3,h4,beq_iff_eq,cond_eq_ite,if_false]
 refine ⟨_,_,w12 h fn136 (l:=[(108,R8.sg),(137,isOut),(156,D3.sg),(158,E9.sg)]) (il:=[]) (pl:=[]) (args:=[B1,I6]) (res:=[B1]) (fresh:=false) (an:=annL []) (fns:=[]) (raw:=fun (x:Args [B1,I6])=>C7.ro fuel x.1 x.2.1) (d0:=fun _=>true) ⟨hs.1,C75 hs.2.1,hs.2.2.1,hs.2.2.2.1,trivial⟩ trivial trivial (L:=(fun _ _ _ _=>none)) a14 (fun (x:Args [B1,I6]) _=>C7.eqo fuel x.1 x.2.1),?_,?_⟩
 ·show (true && (C7.ro fuel x0 x1).isSome) = true
  rw [← e,hx]; rfl
 ·show (C7.ro fuel x0 x1).getD _ = (C7.raw fuel x0 x1).getD _
  rw [e]
abbrev M1.ls:List (Nat × Sig):=[(136,C7.sg)]
def M1.E:Env:=mkE M1.ls
def M1.raw (m:Nat) (x0:(Ty.den a7)) (x1:Int):Option (Args [a7]):=let y1:=C7.val x0.2.2.2.1 (i64.wrap (x1 - (1:Int))); bif C7.dom x0.2.2.2.1 (i64.wrap (x1 - (1:Int))) then (some (((x0.1,x0.2.1,x0.2.2.1,y1.1,x0.2.2.2.2),()))) else none
def M1.val (x0:(Ty.den a7)) (x1:Int):=(M1.raw fuel x0 x1).getD (dfltA [a7])
def M1.dom (x0:(Ty.den a7)) (x1:Int):=(M1.raw fuel x0 x1).isSome
def M1.sg:Sig:=⟨[a7,I6],[a7],false,fun x=>M1.dom x.1 x.2.1,fun x=>M1.val x.1 x.2.1⟩
theorem M1.eq (m:Nat) (x0:(Ty.den a7)) (x1:Int):runS M1.E Go.Proofs.Tryz.f113 M1.sg (nL m) (x0,(x1,())) = M1.raw m x0 x1:=by kernel_rfl
theorem M1.told(h:Base0) (hs:AllT M1.ls):Told 113 M1.sg :=
 told_n h fn113 hs (fun x=>M1.eq fuel x.1 x.2.1)
end Pt
end
section
open Go Go.Am
namespace Pt
set_option maxRecDepth 100000
abbrev a08.ls:List (Nat × Sig):=[(137,a24.sg)]
def a08.E:Env:=mkE a08.ls
def a08.raw (m:Nat) (x0:(Ty.den B1)) (x1:Int):Option (Args [.bool]):=let y1:=a24.val x1; bif a24.dom x1 then (bif y1.1 then (bif decide ((0:Int) ≤ x1) && decide (x1 < (5:Int)) then (bif x1 == (0:Int) then (some x0.2.1.1.2.2.2) else (bif x1 == (1:Int) then (some x0.2.1.2.1.2.2.2) else (bif x1 == (2:Int) then (some x0.2.1.2.2.1.2.2.2) else (bif x1 == (3:Int) then (some x0.2.1.2.2.2.1.2.2.2) else (bif x1 == (4:Int) then (some x0.2.1.2.2.2.2.1.2.2.2) else (none)))))) else (none)) else (some ((false,())))) else none
def a08.val (x0:(Ty.den B1)) (x1:Int):=(a08.raw fuel x0 x1).getD (dfltA [.bool])
def a08.dom (x0:(Ty.den B1)) (x1:Int):=(a08.raw fuel x0 x1).isSome
def a08.sg:Sig:=⟨[B1,I6],[.bool],false,fun x=>a08.dom x.1 x.2.1,fun x=>a08.val x.1 x.2.1⟩
theorem a08.eq (m:Nat) (x0:(Ty.den B1)) (x1:Int):runS a08.E Go.Proofs.Tryz.f115 a08.sg (nL m) (x0,(x1,())) = a08.raw m x0 x1:=by kernel_rfl
theorem a08.told(h:Base0) (hs:AllT a08.ls):Told 115 a08.sg :=
 told_n h fn115 hs (fun x=>a08.eq fuel x.1 x.2.1)
end Pt
end
section
open Go Go.Am
open IntKind (i64 u64 u8 i32 u32)
namespace Pt
set_option maxRecDepth 100000
abbrev D4.ls:List (Nat × Sig):=[(115,a08.sg)]
def D4.E:Env:=mkE D4.ls
def D4.raw (m:Nat) (x0:(Ty.den a7)) (x1:Int):Option (Args [.bool]):=let y1:=a08.val x0.2.2.2.1 (i64.wrap (x1 - (1:Int))); bif a08.dom x0.2.2.2.1 (i64.wrap (x1 - (1:Int))) then (some y1) else none
def D4.val (x0:(Ty.den a7)) (x1:Int):=(D4.raw fuel x0 x1).getD (dfltA [.bool])
def D4.dom (x0:(Ty.den a7)) (x1:Int):=(D4.raw fuel x0 x1).isSome
def D4.sg:Sig:=⟨[a7,I6],[.bool],false,fun x=>D4.dom x.1 x.2.1,fun x=>D4.val x.1 x.2.1⟩
theorem D4.eq (m:Nat) (x0:(Ty.den a7)) (x1:Int):runS D4.E Go.Proofs.Tryz.f114 D4.sg (nL m) (x0,(x1,())) = D4.raw m x0 x1:=by kernel_rfl
theorem D4.told(h:Base0) (hs:AllT D4.ls):Told 114 D4.sg :=
 told_n h fn114 hs (fun x=>D4.eq fuel x.1 x.2.1)
abbrev Y5.ls:List (Nat × Sig):=[(68,B2.sg),(86,N7.sg)]
def Y5.E:Env:=mkE Y5.ls
def Y5.raw (m:Nat) (x0:(Ty.den D7)) (x1:(Ty.den SB)):Option (Args [D7,I6]):=let y1:=N7.val x0; bif N7.dom x0 then (let z2:=if y1.1.2.2.1 < (↑(List.length x1):Int) then y1.1.2.2.1 else (↑(List.length x1):Int); bif decide ((0:Int) ≤ z2) && decide (z2 ≤ (↑(List.length x1):Int)) then (let z3:=[y1.1.2.2.2.1,List.take z2.toNat x1]; let y4:=B2.val z3; bif B2.dom z3 then (some (((y1.1.1,y1.1.2.1,i64.wrap (y1.1.2.2.1 - z2),y4),z2,()))) else none) else (none)) else none
def Y5.val (x0:(Ty.den D7)) (x1:(Ty.den SB)):=(Y5.raw fuel x0 x1).getD (dfltA [D7,I6])
def Y5.dom (x0:(Ty.den D7)) (x1:(Ty.den SB)):=(Y5.raw fuel x0 x1).isSome
def Y5.sg:Sig:=⟨[D7,SB],[D7,I6],false,fun x=>Y5.dom x.1 x.2.1,fun x=>Y5.val x.1 x.2.1⟩
theorem Y5.eq (m:Nat) (x0:(Ty.den D7)) (x1:(Ty.den SB)):runS Y5.E Go.Proofs.Tryz.f138 Y5.sg (nL m) (x0,(x1,())) = Y5.raw m x0 x1:=by kernel_rfl
theorem Y5.told(h:Base0) (hs:AllT Y5.ls):Told 138 Y5.sg :=
 told_n h fn138 hs (fun x=>Y5.eq fuel x.1 x.2.1)
end Pt
end
section
open Go Go.Am
namespace Pt
set_option maxRecDepth 100000
abbrev a05.ls:List (Nat × Sig):=[(156,D3.sg),(160,U5.sg)]
def a05.E:Env:=mkE a05.ls
def a05.raw (m:Nat) (x0:(Ty.den B1)):Option (Args [B1,SI,.bool]):=let y1:=D3.val x0; bif D3.dom x0 then (let y2:=U5.val y1.1.2.2.1.2.2.2.2.2.1; bif U5.dom y1.1.2.2.1.2.2.2.2.2.1 then (some (((y1.1.1,y1.1.2.1,(y1.1.2.2.1.1,y1.1.2.2.1.2.1,y1.1.2.2.1.2.2.1,y1.1.2.2.1.2.2.2.1,y1.1.2.2.1.2.2.2.2.1,y2.1,()),()),y2.2))) else none) else none
def a05.val (x0:(Ty.den B1)):=(a05.raw fuel x0).getD (dfltA [B1,SI,.bool])
def a05.dom (x0:(Ty.den B1)):=(a05.raw fuel x0).isSome
def a05.sg:Sig:=⟨[B1],[B1,SI,.bool],false,fun x=>a05.dom x.1,fun x=>a05.val x.1⟩
theorem a05.eq (m:Nat) (x0:(Ty.den B1)):runS a05.E Go.Proofs.Tryz.f139 a05.sg (nL m) (x0,()) = a05.raw m x0:=by kernel_rfl
theorem a05.told(h:Base0) (hs:AllT a05.ls):Told 139 a05.sg :=
 told_n h fn139 hs (fun x=>a05.eq fuel x.1)
def a15.E:Env:=mkE []
def a15.raw (m:Nat) (x0:(Ty.den B1)):Option (Args [.bool]):=bif x0.2.1.2.2.2.2.1.2.2.2.1 then (some (((↑(List.length x0.2.2.1.2.2.2.2.2.1.1):Int) == (0:Int),()))) else (some ((false,())))
def a15.val (x0:(Ty.den B1)):=(a15.raw fuel x0).getD (dfltA [.bool])
def a15.dom (x0:(Ty.den B1)):=(a15.raw fuel x0).isSome
def a15.sg:Sig:=⟨[B1],[.bool],false,fun x=>a15.dom x.1,fun x=>a15.val x.1⟩
theorem a15.eq (m:Nat) (x0:(Ty.den B1)):runS a15.E Go.Proofs.Tryz.f140 a15.sg (nL m) (x0,()) = a15.raw m x0:=by kernel_rfl
theorem a15.told(h:Base0):Told 140 a15.sg :=
 told_n h fn140 (l:=[]) trivial (fun x=>a15.eq fuel x.1)
end Pt
end
end
