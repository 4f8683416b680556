/- What functions of the given program compute, each by the abstract machine. Conditions: none beyond the statement's own. -/
import Derived.Test.YtkciioajiopobaaGreatDoorTypes1
import Derived.Test.YtkciioajiopobaaGreatDoorWalks1
import Derived.Test.YtkciioajiopobaaGreatDoorWalks2
import Derived.Lib.IndexMore
import Derived.Lib.Split
import Derived.Lib.Repeat
import Derived.Lib.Case
set_option linter.all false
noncomputable section
section
open Go Go.Am
namespace Pt
set_option maxRecDepth 100000
abbrev R6.ls:List (Nat × Sig):=[(206,M9.sg)]
def R6.E:Env:=mkE R6.ls
def R6.raw (m:Nat) (x0:ByteArray):Option (Args [.bool]):=bif !ByteArray.toList x0 == (ByteArray.mk (nl UInt8).toArray).toList then (bif decide ((↑(ByteArray.size x0):Int) ≤ (3:Int)) then (let y1:=M9.val x0; bif M9.dom x0 then (some ((!y1.1,()))) else none) else (some ((false,())))) else (some ((false,())))
def R6.val (x0:ByteArray):=(R6.raw fuel x0).getD (dfltA [.bool])
def R6.dom (x0:ByteArray):=(R6.raw fuel x0).isSome
def R6.sg:Sig:=⟨[.str],[.bool],false,fun x=>R6.dom x.1,fun x=>R6.val x.1⟩
theorem R6.eq (m:Nat) (x0:ByteArray):runS R6.E Go.Proofs.Tryz.f179 R6.sg (nL m) (x0,()) = R6.raw m x0:=by kernel_rfl
theorem R6.told(h:Base0) (hs:AllT R6.ls):Told 179 R6.sg :=
 told_n h fn179 hs (fun x=>R6.eq fuel x.1)
abbrev T6.ls:List (Nat × Sig):=[(179,R6.sg)]
def T6.E:Env:=mkE T6.ls
def T6.raw (m:Nat) (x0:(Ty.den M7)):Option (Args [.bool]):=bif ByteArray.toList x0.1 == (ByteArray.mk (nl UInt8).toArray).toList then (some ((true,()))) else (let y1:=R6.val x0.1; bif R6.dom x0.1 then (some y1) else none)
def T6.val (x0:(Ty.den M7)):=(T6.raw fuel x0).getD (dfltA [.bool])
def T6.dom (x0:(Ty.den M7)):=(T6.raw fuel x0).isSome
def T6.sg:Sig:=⟨[M7],[.bool],false,fun x=>T6.dom x.1,fun x=>T6.val x.1⟩
theorem T6.eq (m:Nat) (x0:(Ty.den M7)):runS T6.E Go.Proofs.Tryz.f177 T6.sg (nL m) (x0,()) = T6.raw m x0:=by kernel_rfl
theorem T6.told(h:Base0) (hs:AllT T6.ls):Told 177 T6.sg :=
 told_n h fn177 hs (fun x=>T6.eq fuel x.1)
end Pt
end
section
open Go Go.Am
open IntKind (i64 u64 u8 i32 u32)
namespace Pt
set_option maxRecDepth 100000
def C5.E:Env:=⟨T,sigL [],inlL [],annL [(9002,⟨some [0,1,7,8],[],[],some [4]⟩)],[],primL [],globL⟩
def C5.l0 (K0:Int → Option (Args [I6])) (K1:Option (Args [I6])):Nat → (Ty.den SI) → Int → Int → Int → Option (Args [I6])
 | 0,_,_,_,_=>none
 | m + 1,v1,v2,v3,v4=>bif decide (v4 < v3) then (bif decide ((0:Int) ≤ v4) && decide (v4 < (↑(List.length v1):Int)) then (bif v2 == List.getD v1 (Int.toNat v4) (0:Int) then (K0 v4) else (C5.l0 K0 K1 m v1 v2 v3 (i64.wrap (v4 + (1:Int))))) else (none)) else (K1)
def C5.l0.t:St:=⟨jka 10 [zv SI,zv I6,jk,jk,jk,jk,jk,zv I6,zv I6],[],0⟩
def C5.l0.e0:St:=⟨jka 14 [jk,jk,jk,jk,zv I6],[],0⟩
def C5.l0.e1:St:=⟨jka 18 [jk],[],0⟩
def C5.raw (m:Nat) (x0:(Ty.den SI)) (x1:Int):Option (Args [I6]):=C5.l0 (fun o5=>some ((o5,()))) (some (((-1:Int),()))) m x0 x1 ((↑(List.length x0):Int)) ((0:Int))
def C5.val (x0:(Ty.den SI)) (x1:Int):=(C5.raw fuel x0 x1).getD (dfltA [I6])
def C5.dom (x0:(Ty.den SI)) (x1:Int):=(C5.raw fuel x0 x1).isSome
def C5.sg:Sig:=⟨[SI,I6],[I6],false,fun x=>C5.dom x.1 x.2.1,fun x=>C5.val x.1 x.2.1⟩
noncomputable def C5.q0 (m:Nat) (s:St) (k:X → St → Option (Args [I6])):Option (Args [I6]) :=
 match unSt C5.l0.t [SI,I6,I6,I6] s with
  | some x=>C5.l0 (fun o0=>k .ret (mkSt C5.l0.e0 [I6] (o0,()))) (k (.exit 0) (mkSt C5.l0.e1 [] ())) m x.1 x.2.1 x.2.2.1 x.2.2.2.1
  | none=>none
noncomputable def C5.L (m:Nat) (c:Code) (s:St) (k:X → St → Option (Args [I6])):Option (Args [I6]) :=
 match O9 c with
 | some r=>bif Nat.beq r 9002 then (C5.q0 m s k) else none
 | none=>none
theorem C5.cs_eq:loopsL Go.Proofs.Tryz.f212 [] = [(loopsL Go.Proofs.Tryz.f212 []).getD 0 .skip]:=by kernel_rfl
theorem C5.good:Good (C5.E) (fun c=>c ∈ loopsL Go.Proofs.Tryz.f212 []) C5.L:=by
 have cases:∀ c,c ∈ loopsL Go.Proofs.Tryz.f212 [] → c = (loopsL Go.Proofs.Tryz.f212 []).getD 0 .skip:=by
  intro c hc; rw [C5.cs_eq] at hc; simpa only [List.mem_cons,List.not_mem_nil,or_false] using hc
 refine ⟨?_,?_,fun c hc=>T4 c hc⟩
 ·intro c s k r hc h
  rcases cases c hc with rfl
  ·have h':C5.q0 0 s k = some r:=Eq.trans (by kernel_rfl) h
   unfold C5.q0 at h'
   split at h'
   ·rename_i x hx
    have h2:(none:Option (Args [I6])) = some r:=Eq.trans (by kernel_rfl) h'
    cases h2
   cases h'
 ·intro m c s k r hc h
  rcases cases c hc with rfl
  ·have h':C5.q0 (m + 1) s k = some r:=Eq.trans (by kernel_rfl) h
   unfold C5.q0 at h'
   split at h'
   ·rename_i x hx
    rw [O8 hx]
    exact Eq.trans (by kernel_rfl) h'
   cases h'
theorem C5.eq (m:Nat) (x0:(Ty.den SI)) (x1:Int):runS C5.E Go.Proofs.Tryz.f212 C5.sg (C5.L m) (x0,(x1,())) = C5.raw m x0 x1:=by kernel_rfl
theorem C5.told (h:Base0):Told 212 C5.sg :=
 T5 h fn212 (l:=[]) (il:=[]) (pl:=[]) trivial trivial trivial (L:=C5.L) C5.good (fun x=>C5.eq fuel x.1 x.2.1)
end Pt
end
section
open Go Go.Am
namespace Pt
set_option maxRecDepth 100000
abbrev L9.ls:List (Nat × Sig):=[(212,C5.sg)]
def L9.E:Env:=mkE L9.ls
def L9.raw (m:Nat) (x0:(Ty.den SI)) (x1:Int):Option (Args [.bool]):=let y1:=C5.val x0 x1; bif C5.dom x0 x1 then (some ((decide (y1.1 ≥ (0:Int)),()))) else none
def L9.val (x0:(Ty.den SI)) (x1:Int):=(L9.raw fuel x0 x1).getD (dfltA [.bool])
def L9.dom (x0:(Ty.den SI)) (x1:Int):=(L9.raw fuel x0 x1).isSome
def L9.sg:Sig:=⟨[SI,I6],[.bool],false,fun x=>L9.dom x.1 x.2.1,fun x=>L9.val x.1 x.2.1⟩
theorem L9.eq (m:Nat) (x0:(Ty.den SI)) (x1:Int):runS L9.E Go.Proofs.Tryz.f182 L9.sg (nL m) (x0,(x1,())) = L9.raw m x0 x1:=by kernel_rfl
theorem L9.told(h:Base0) (hs:AllT L9.ls):Told 182 L9.sg :=
 told_n h fn182 hs (fun x=>L9.eq fuel x.1 x.2.1)
abbrev X7.ls:List (Nat × Sig):=[(167,U7.sg),(173,S8.sg),(177,T6.sg),(182,L9.sg)]
def X7.E:Env:=mkE X7.ls
def X7.raw (m:Nat) (x0:(Ty.den B9)):Option (Args [.bool]):=let y1:=T6.val x0.2.1; bif T6.dom x0.2.1 then (bif y1.1 then (let y2:=S8.val x0.2.2.1; bif S8.dom x0.2.2.1 then (bif y2.1 then (let y3:=U7.val x0.2.2.2.1; bif U7.dom x0.2.2.2.1 then (bif y3.1 then (bif decide ((↑(List.length x0.2.2.2.2.1):Int) ≤ (32:Int)) then (let y4:=L9.val x0.2.2.2.2.1 ((-1:Int)); bif L9.dom x0.2.2.2.2.1 ((-1:Int)) then (bif !!y4.1 then (some ((false,()))) else (bif decide (x0.1 < (0:Int)) then (some ((false,()))) else (bif decide (x0.1 ≥ (5:Int)) then (some ((false,()))) else (bif x0.1 == (0:Int) then (bif (↑(List.length x0.2.2.1.1):Int) == (0:Int) then (bif (↑(List.length x0.2.2.2.1.1):Int) == (0:Int) then (some (((↑(List.length x0.2.2.2.2.1):Int) == (0:Int),()))) else (some ((false,())))) else (some ((false,())))) else (bif x0.1 == (1:Int) then (bif ByteArray.toList x0.2.1.1 == (ByteArray.mk (nl UInt8).toArray).toList then (bif (↑(List.length x0.2.2.2.1.1):Int) == (0:Int) then (some (((↑(List.length x0.2.2.2.2.1):Int) == (0:Int),()))) else (some ((false,())))) else (some ((false,())))) else (bif x0.1 == (2:Int) then (bif ByteArray.toList x0.2.1.1 == (ByteArray.mk (nl UInt8).toArray).toList then (bif (↑(List.length x0.2.2.2.1.1):Int) == (0:Int) then (some (((↑(List.length x0.2.2.2.2.1):Int) == (0:Int),()))) else (some ((false,())))) else (some ((false,())))) else (bif x0.1 == (3:Int) then (bif ByteArray.toList x0.2.1.1 == (ByteArray.mk (nl UInt8).toArray).toList then (bif (↑(List.length x0.2.2.1.1):Int) == (0:Int) then (some (((↑(List.length x0.2.2.2.2.1):Int) == (0:Int),()))) else (some ((false,())))) else (some ((false,())))) else (bif x0.1 == (4:Int) then (bif ByteArray.toList x0.2.1.1 == (ByteArray.mk (nl UInt8).toArray).toList then (bif (↑(List.length x0.2.2.1.1):Int) == (0:Int) then (bif (↑(List.length x0.2.2.2.1.1):Int) == (0:Int) then (some ((true,()))) else (some ((false,())))) else (some ((false,())))) else (some ((false,())))) else (bif ByteArray.toList x0.2.1.1 == (ByteArray.mk (nl UInt8).toArray).toList then (bif (↑(List.length x0.2.2.1.1):Int) == (0:Int) then (bif (↑(List.length x0.2.2.2.1.1):Int) == (0:Int) then (some (((↑(List.length x0.2.2.2.2.1):Int) == (0:Int),()))) else (some ((false,())))) else (some ((false,())))) else (some ((false,())))))))))))) else none) else (some ((false,())))) else (some ((false,())))) else none) else (some ((false,())))) else none) else (some ((false,())))) else none
def X7.val (x0:(Ty.den B9)):=(X7.raw fuel x0).getD (dfltA [.bool])
def X7.dom (x0:(Ty.den B9)):=(X7.raw fuel x0).isSome
def X7.sg:Sig:=⟨[B9],[.bool],false,fun x=>X7.dom x.1,fun x=>X7.val x.1⟩
theorem X7.eq (m:Nat) (x0:(Ty.den B9)):runS X7.E Go.Proofs.Tryz.f161 X7.sg (nL m) (x0,()) = X7.raw m x0:=by kernel_rfl
theorem X7.told(h:Base0) (hs:AllT X7.ls):Told 161 X7.sg :=
 told_n h fn161 hs (fun x=>X7.eq fuel x.1)
abbrev U3.ls:List (Nat × Sig):=[(108,R8.sg),(161,X7.sg)]
def U3.E:Env:=mkE U3.ls
def U3.raw (m:Nat) (x0:(Ty.den B9)):Option (Args [B9]):=let y1:=X7.val x0; bif X7.dom x0 then (bif !y1.1 then (let y2:=R8.val x0.1; bif R8.dom x0.1 then (some y2) else none) else (some ((x0,())))) else none
def U3.val (x0:(Ty.den B9)):=(U3.raw fuel x0).getD (dfltA [B9])
def U3.dom (x0:(Ty.den B9)):=(U3.raw fuel x0).isSome
def U3.sg:Sig:=⟨[B9],[B9],false,fun x=>U3.dom x.1,fun x=>U3.val x.1⟩
theorem U3.eq (m:Nat) (x0:(Ty.den B9)):runS U3.E Go.Proofs.Tryz.f143 U3.sg (nL m) (x0,()) = U3.raw m x0:=by kernel_rfl
theorem U3.told(h:Base0) (hs:AllT U3.ls):Told 143 U3.sg :=
 told_n h fn143 hs (fun x=>U3.eq fuel x.1)
end Pt
end
section
open Go Go.Am
open IntKind (i64 u64 u8 i32 u32)
namespace Pt
set_option maxRecDepth 100000
abbrev V7.ls:List (Nat × Sig):=[(143,U3.sg)]
def V7.E:Env:=mkE V7.ls
def V7.raw (m:Nat) (x0:(Ty.den B9)):Option (Args [I6]):=let y1:=U3.val x0; bif U3.dom x0 then (some ((i64.wrap (i64.wrap (i64.wrap ((↑(ByteArray.size y1.1.2.1.1):Int) + (↑(List.length y1.1.2.2.1.1):Int)) + (↑(List.length y1.1.2.2.2.1.1):Int)) + (↑(List.length y1.1.2.2.2.2.1):Int)),()))) else none
def V7.val (x0:(Ty.den B9)):=(V7.raw fuel x0).getD (dfltA [I6])
def V7.dom (x0:(Ty.den B9)):=(V7.raw fuel x0).isSome
def V7.sg:Sig:=⟨[B9],[I6],false,fun x=>V7.dom x.1,fun x=>V7.val x.1⟩
theorem V7.eq (m:Nat) (x0:(Ty.den B9)):runS V7.E Go.Proofs.Tryz.f120 V7.sg (nL m) (x0,()) = V7.raw m x0:=by kernel_rfl
theorem V7.told(h:Base0) (hs:AllT V7.ls):Told 120 V7.sg :=
 told_n h fn120 hs (fun x=>V7.eq fuel x.1)
end Pt
end
section
open Go Go.Am
namespace Pt
set_option maxRecDepth 100000
abbrev Y7.ls:List (Nat × Sig):=[(120,V7.sg),(161,X7.sg)]
def Y7.E:Env:=mkE Y7.ls
def Y7.raw (m:Nat) (x0:(Ty.den L3)):Option (Args [.bool]):=let y1:=X7.val x0.1; bif X7.dom x0.1 then (bif !y1.1 then (some ((false,()))) else (bif decide ((↑(List.length x0.2.1):Int) > (256:Int)) then (some ((false,()))) else (bif x0.2.2.2.1 then (bif !x0.2.2.1 then (some ((false,()))) else (bif decide ((↑(List.length x0.2.1):Int) > (0:Int)) then (some ((false,()))) else (bif !x0.2.2.1 then (some ((true,()))) else (let y2:=V7.val x0.1; bif V7.dom x0.1 then (some ((y2.1 == (0:Int),()))) else none)))) else (bif !x0.2.2.1 then (some ((true,()))) else (let y3:=V7.val x0.1; bif V7.dom x0.1 then (some ((y3.1 == (0:Int),()))) else none))))) else none
def Y7.val (x0:(Ty.den L3)):=(Y7.raw fuel x0).getD (dfltA [.bool])
def Y7.dom (x0:(Ty.den L3)):=(Y7.raw fuel x0).isSome
def Y7.sg:Sig:=⟨[L3],[.bool],false,fun x=>Y7.dom x.1,fun x=>Y7.val x.1⟩
theorem Y7.eq (m:Nat) (x0:(Ty.den L3)):runS Y7.E Go.Proofs.Tryz.f142 Y7.sg (nL m) (x0,()) = Y7.raw m x0:=by kernel_rfl
theorem Y7.told(h:Base0) (hs:AllT Y7.ls):Told 142 Y7.sg :=
 told_n h fn142 hs (fun x=>Y7.eq fuel x.1)
abbrev U6.ls:List (Nat × Sig):=[(87,a34.sg),(142,Y7.sg)]
def U6.E:Env:=mkE U6.ls
def U6.raw (m:Nat) (x0:(Ty.den L3)):Option (Args [L3]):=let y1:=Y7.val x0; bif Y7.dom x0 then (bif !y1.1 then (let y2:=a34.val x0.1.1; bif a34.dom x0.1.1 then (some y2) else none) else (some ((x0,())))) else none
def U6.val (x0:(Ty.den L3)):=(U6.raw fuel x0).getD (dfltA [L3])
def U6.dom (x0:(Ty.den L3)):=(U6.raw fuel x0).isSome
def U6.sg:Sig:=⟨[L3],[L3],false,fun x=>U6.dom x.1,fun x=>U6.val x.1⟩
theorem U6.eq (m:Nat) (x0:(Ty.den L3)):runS U6.E Go.Proofs.Tryz.f119 U6.sg (nL m) (x0,()) = U6.raw m x0:=by kernel_rfl
theorem U6.told(h:Base0) (hs:AllT U6.ls):Told 119 U6.sg :=
 told_n h fn119 hs (fun x=>U6.eq fuel x.1)
end Pt
end
section
open Go Go.Am
open IntKind (i64 u64 u8 i32 u32)
namespace Pt
set_option maxRecDepth 100000
abbrev U9.ls:List (Nat × Sig):=[(144,U4.sg)]
def U9.E:Env:=mkE U9.ls
def U9.raw (m:Nat) (x0:(Ty.den B8)):Option (Args [B8]):=let y1:=U4.val x0; bif U4.dom x0 then (bif !y1.1 then (some (((nl (Ty.int i64).slice.den,false,()),()))) else (some ((x0,())))) else none
def U9.val (x0:(Ty.den B8)):=(U9.raw fuel x0).getD (dfltA [B8])
def U9.dom (x0:(Ty.den B8)):=(U9.raw fuel x0).isSome
def U9.sg:Sig:=⟨[B8],[B8],false,fun x=>U9.dom x.1,fun x=>U9.val x.1⟩
theorem U9.eq (m:Nat) (x0:(Ty.den B8)):runS U9.E Go.Proofs.Tryz.f180 U9.sg (nL m) (x0,()) = U9.raw m x0:=by kernel_rfl
theorem U9.told(h:Base0) (hs:AllT U9.ls):Told 180 U9.sg :=
 told_n h fn180 hs (fun x=>U9.eq fuel x.1)
abbrev U5.ls:List (Nat × Sig):=[(121,O6.sg)]
def U5.E:Env:=mkE U5.ls
def U5.raw (m:Nat) (x0:(Ty.den B8)):Option (Args [B8,SI,.bool]):=let y1:=O6.val x0; bif O6.dom x0 then (bif (↑(List.length y1.1.1):Int) == (0:Int) then (some ((y1.1,nl (Ty.int i64).den,false,()))) else (bif decide ((0:Int) < (↑(List.length y1.1.1):Int)) then (bif decide ((1:Int) ≤ (↑(List.length y1.1.1):Int)) && decide ((↑(List.length y1.1.1):Int) ≤ (↑(List.length y1.1.1):Int)) then (some (((List.drop (1:Nat) (List.take (↑(List.length y1.1.1):Int).toNat y1.1.1),y1.1.2),List.getD y1.1.1 (0:Nat) (Ty.int i64).slice.dflt,true,()))) else (none)) else (none))) else none
def U5.val (x0:(Ty.den B8)):=(U5.raw fuel x0).getD (dfltA [B8,SI,.bool])
def U5.dom (x0:(Ty.den B8)):=(U5.raw fuel x0).isSome
def U5.sg:Sig:=⟨[B8],[B8,SI,.bool],false,fun x=>U5.dom x.1,fun x=>U5.val x.1⟩
theorem U5.eq (m:Nat) (x0:(Ty.den B8)):runS U5.E Go.Proofs.Tryz.f160 U5.sg (nL m) (x0,()) = U5.raw m x0:=by kernel_rfl
theorem U5.told(h:Base0) (hs:AllT U5.ls):Told 160 U5.sg :=
 told_n h fn160 hs (fun x=>U5.eq fuel x.1)
def L4.E:Env:=mkE []
def L4.raw (m:Nat) (x0:ByteArray):Option (Args [(.int .i32),I6]):=bif decide ((↑(ByteArray.size x0):Int) < (1:Int)) then (some (((65533:Int),(0:Int),()))) else (bif decide ((0:Int) < (↑(ByteArray.size x0):Int)) then (let z1:=(↑(x0.data.toList.getD (0:Nat) (0:UInt8)).toNat:Int); bif decide ((0:Int) ≤ z1) && decide (z1 < (256:Int)) then (bif decide (a12.getD z1.toNat (0:Int) ≥ (240:Int)) then (bif decide ((0:Int) < (↑(ByteArray.size x0):Int)) then (let z2:=BitVec.ofInt (32:Nat) ((i32.wrap (i32.wrap (a12.getD z1.toNat (0:Int)) * (2147483648:Int))).fdiv (2147483648:Int)); let z3:=BitVec.ofInt (32:Nat) (i32.wrap (↑(BitVec.ofInt (32:Nat) (i32.wrap z1) &&& ~~~z2).toNat:Int)) ||| BitVec.ofInt (32:Nat) (i32.wrap (↑(BitVec.ofInt (32:Nat) (65533:Int) &&& z2).toNat:Int)); some ((i32.wrap (↑z3.toNat:Int),(1:Int),()))) else (none)) else (let z4:=Int.fdiv (a12.getD z1.toNat (0:Int)) (16:Int); bif decide ((0:Int) ≤ z4) && decide (z4 < (16:Int)) then (bif decide ((↑(ByteArray.size x0):Int) < i64.wrap (u8.wrap (↑(BitVec.ofInt (8:Nat) (a12.getD z1.toNat (0:Int)) &&& BitVec.ofInt (8:Nat) (7:Int)).toNat:Int))) then (some (((65533:Int),(1:Int),()))) else (bif decide ((1:Int) < (↑(ByteArray.size x0):Int)) then (bif decide ((↑(x0.data.toList.getD (1:Nat) (0:UInt8)).toNat:Int) < (a91.getD z4.toNat ti267.ty.dflt).1) then (some (((65533:Int),(1:Int),()))) else (bif decide ((a91.getD z4.toNat ti267.ty.dflt).2.1 < (↑(x0.data.toList.getD (1:Nat) (0:UInt8)).toNat:Int)) then (some (((65533:Int),(1:Int),()))) else (bif decide (i64.wrap (u8.wrap (↑(BitVec.ofInt (8:Nat) (a12.getD z1.toNat (0:Int)) &&& BitVec.ofInt (8:Nat) (7:Int)).toNat:Int)) ≤ (2:Int)) then (let z5:=BitVec.ofInt (32:Nat) (i32.wrap (i32.wrap (u8.wrap (↑(BitVec.ofInt (8:Nat) z1 &&& BitVec.ofInt (8:Nat) (31:Int)).toNat:Int)) * (64:Int))) ||| BitVec.ofInt (32:Nat) (i32.wrap (u8.wrap (↑(BitVec.ofInt (8:Nat) (↑(x0.data.toList.getD (1:Nat) (0:UInt8)).toNat:Int) &&& BitVec.ofInt (8:Nat) (63:Int)).toNat:Int))); some ((i32.wrap (↑z5.toNat:Int),(2:Int),()))) else (bif decide ((2:Int) < (↑(ByteArray.size x0):Int)) then (bif decide ((↑(x0.data.toList.getD (2:Nat) (0:UInt8)).toNat:Int) < (128:Int)) then (some (((65533:Int),(1:Int),()))) else (bif decide ((191:Int) < (↑(x0.data.toList.getD (2:Nat) (0:UInt8)).toNat:Int)) then (some (((65533:Int),(1:Int),()))) else (bif decide (i64.wrap (u8.wrap (↑(BitVec.ofInt (8:Nat) (a12.getD z1.toNat (0:Int)) &&& BitVec.ofInt (8:Nat) (7:Int)).toNat:Int)) ≤ (3:Int)) then (let z6:=i32.wrap (i32.wrap (u8.wrap (↑(BitVec.ofInt (8:Nat) (↑(x0.data.toList.getD (1:Nat) (0:UInt8)).toNat:Int) &&& BitVec.ofInt (8:Nat) (63:Int)).toNat:Int)) * (64:Int)); let z7:=BitVec.ofInt (32:Nat) (i32.wrap (i32.wrap (u8.wrap (↑(BitVec.ofInt (8:Nat) z1 &&& BitVec.ofInt (8:Nat) (15:Int)).toNat:Int)) * (4096:Int))) ||| BitVec.ofInt (32:Nat) z6; let z8:=BitVec.ofInt (32:Nat) (i32.wrap (↑z7.toNat:Int)) ||| BitVec.ofInt (32:Nat) (i32.wrap (u8.wrap (↑(BitVec.ofInt (8:Nat) (↑(x0.data.toList.getD (2:Nat) (0:UInt8)).toNat:Int) &&& BitVec.ofInt (8:Nat) (63:Int)).toNat:Int))); some ((i32.wrap (↑z8.toNat:Int),(3:Int),()))) else (bif decide ((3:Int) < (↑(ByteArray.size x0):Int)) then (bif decide ((↑(x0.data.toList.getD (3:Nat) (0:UInt8)).toNat:Int) < (128:Int)) then (some (((65533:Int),(1:Int),()))) else (bif decide ((191:Int) < (↑(x0.data.toList.getD (3:Nat) (0:UInt8)).toNat:Int)) then (some (((65533:Int),(1:Int),()))) else (let z9:=i32.wrap (i32.wrap (u8.wrap (↑(BitVec.ofInt (8:Nat) (↑(x0.data.toList.getD (1:Nat) (0:UInt8)).toNat:Int) &&& BitVec.ofInt (8:Nat) (63:Int)).toNat:Int)) * (4096:Int)); let z10:=BitVec.ofInt (32:Nat) (i32.wrap (i32.wrap (u8.wrap (↑(BitVec.ofInt (8:Nat) z1 &&& BitVec.ofInt (8:Nat) (7:Int)).toNat:Int)) * (262144:Int))) ||| BitVec.ofInt (32:Nat) z9; let z11:=i32.wrap (i32.wrap (u8.wrap (↑(BitVec.ofInt (8:Nat) (↑(x0.data.toList.getD (2:Nat) (0:UInt8)).toNat:Int) &&& BitVec.ofInt (8:Nat) (63:Int)).toNat:Int)) * (64:Int)); let z12:=BitVec.ofInt (32:Nat) (i32.wrap (↑(BitVec.ofInt (32:Nat) (i32.wrap (↑z10.toNat:Int)) ||| BitVec.ofInt (32:Nat) z11).toNat:Int)) ||| BitVec.ofInt (32:Nat) (i32.wrap (u8.wrap (↑(BitVec.ofInt (8:Nat) (↑(x0.data.toList.getD (3:Nat) (0:UInt8)).toNat:Int) &&& BitVec.ofInt (8:Nat) (63:Int)).toNat:Int))); some ((i32.wrap (↑z12.toNat:Int),(4:Int),()))))) else (none))))) else (none))))) else (none))) else (none))) else (none)) else (none))
def L4.val (x0:ByteArray):=(L4.raw fuel x0).getD (dfltA [(.int .i32),I6])
def L4.dom (x0:ByteArray):=(L4.raw fuel x0).isSome
def L4.sg:Sig:=⟨[.str],[(.int .i32),I6],false,fun x=>L4.dom x.1,fun x=>L4.val x.1⟩
theorem L4.eq (m:Nat) (x0:ByteArray):runS L4.E Go.Proofs.Tryz.f233 L4.sg (nL m) (x0,()) = L4.raw m x0:=by kernel_rfl
theorem L4.told(h:Base0):Told 233 L4.sg :=
 told_n h fn233 (l:=[]) trivial (fun x=>L4.eq fuel x.1)
abbrev M0.ls:List (Nat × Sig):=[(233,L4.sg)]
def M0.E:Env:=mkE M0.ls
def M0.raw (m:Nat) (x0:ByteArray):Option (Args [(.int .i32),I6]):=bif !ByteArray.toList x0 == (ByteArray.mk (nl UInt8).toArray).toList then (bif decide ((0:Int) < (↑(ByteArray.size x0):Int)) then (bif decide ((↑(x0.data.toList.getD (0:Nat) (0:UInt8)).toNat:Int) < (128:Int)) then (bif decide ((0:Int) < (↑(ByteArray.size x0):Int)) then (some ((i32.wrap (↑(x0.data.toList.getD (0:Nat) (0:UInt8)).toNat:Int),(1:Int),()))) else (none)) else (let y1:=L4.val x0; bif L4.dom x0 then (some y1) else none)) else (none)) else (let y2:=L4.val x0; bif L4.dom x0 then (some y2) else none)
def M0.val (x0:ByteArray):=(M0.raw fuel x0).getD (dfltA [(.int .i32),I6])
def M0.dom (x0:ByteArray):=(M0.raw fuel x0).isSome
def M0.sg:Sig:=⟨[.str],[(.int .i32),I6],false,fun x=>M0.dom x.1,fun x=>M0.val x.1⟩
theorem M0.eq (m:Nat) (x0:ByteArray):runS M0.E Go.Proofs.Tryz.f204 M0.sg (nL m) (x0,()) = M0.raw m x0:=by kernel_rfl
theorem M0.told(h:Base0) (hs:AllT M0.ls):Told 204 M0.sg :=
 told_n h fn204 hs (fun x=>M0.eq fuel x.1)
def D8.E:Env:=⟨T,sigL [],inlL [],annL [(7001,⟨some [0],[],[],some [2]⟩),(42009,⟨some [0],[],[],some [0]⟩)],[],primL [],globL⟩
def D8.l0 (K0:Bool → Option (Args [.bool])) (K1:Option (Args [.bool])):Nat → ByteArray → Option (Args [.bool])
 | 0,_=>none
 | m + 1,v1=>bif decide ((↑(ByteArray.size v1):Int) > (0:Int)) then (bif decide ((0:Int) < (↑(ByteArray.size v1):Int)) then (bif decide ((↑(v1.data.toList.getD (0:Nat) (0:UInt8)).toNat:Int) < (128:Int)) then (bif decide ((1:Int) ≤ (↑(ByteArray.size v1):Int)) && decide ((↑(ByteArray.size v1):Int) ≤ (↑(ByteArray.size v1):Int)) then (bif decide ((↑(ByteArray.extract v1 (1:Nat) (↑(ByteArray.size v1):Int).toNat).size:Int) > (8:Int)) then (none) else (D8.l0 K0 K1 m (ByteArray.extract v1 (1:Nat) (↑(ByteArray.size v1):Int).toNat))) else (none)) else (let z2:=(↑(v1.data.toList.getD (0:Nat) (0:UInt8)).toNat:Int); bif decide ((0:Int) ≤ z2) && decide (z2 < (256:Int)) then (let z3:=Int.fdiv (a12.getD z2.toNat (0:Int)) (16:Int); bif decide ((0:Int) ≤ z3) && decide (z3 < (16:Int)) then (bif i64.wrap (u8.wrap (↑(BitVec.ofInt (8:Nat) (a12.getD z2.toNat (0:Int)) &&& BitVec.ofInt (8:Nat) (7:Int)).toNat:Int)) == (2:Int) then (bif decide ((↑(ByteArray.size v1):Int) < (2:Int)) then (K0 false) else (bif decide ((1:Int) < (↑(ByteArray.size v1):Int)) then (bif decide ((↑(v1.data.toList.getD (1:Nat) (0:UInt8)).toNat:Int) < (a91.getD z3.toNat ti267.ty.dflt).1) then (K0 false) else (bif decide ((1:Int) < (↑(ByteArray.size v1):Int)) then (bif decide ((a91.getD z3.toNat ti267.ty.dflt).2.1 < (↑(v1.data.toList.getD (1:Nat) (0:UInt8)).toNat:Int)) then (K0 false) else (bif decide ((2:Int) ≤ (↑(ByteArray.size v1):Int)) && decide ((↑(ByteArray.size v1):Int) ≤ (↑(ByteArray.size v1):Int)) then (D8.l0 K0 K1 m (ByteArray.extract v1 (2:Nat) (↑(ByteArray.size v1):Int).toNat)) else (none))) else (none))) else (none))) else (bif i64.wrap (u8.wrap (↑(BitVec.ofInt (8:Nat) (a12.getD z2.toNat (0:Int)) &&& BitVec.ofInt (8:Nat) (7:Int)).toNat:Int)) == (3:Int) then (bif decide ((↑(ByteArray.size v1):Int) < (3:Int)) then (K0 false) else (bif decide ((1:Int) < (↑(ByteArray.size v1):Int)) then (bif decide ((↑(v1.data.toList.getD (1:Nat) (0:UInt8)).toNat:Int) < (a91.getD z3.toNat ti267.ty.dflt).1) then (K0 false) else (bif decide ((1:Int) < (↑(ByteArray.size v1):Int)) then (bif decide ((a91.getD z3.toNat ti267.ty.dflt).2.1 < (↑(v1.data.toList.getD (1:Nat) (0:UInt8)).toNat:Int)) then (K0 false) else (bif decide ((2:Int) < (↑(ByteArray.size v1):Int)) then (bif decide ((↑(v1.data.toList.getD (2:Nat) (0:UInt8)).toNat:Int) < (128:Int)) then (K0 false) else (bif decide ((2:Int) < (↑(ByteArray.size v1):Int)) then (bif decide ((191:Int) < (↑(v1.data.toList.getD (2:Nat) (0:UInt8)).toNat:Int)) then (K0 false) else (bif decide ((3:Int) ≤ (↑(ByteArray.size v1):Int)) && decide ((↑(ByteArray.size v1):Int) ≤ (↑(ByteArray.size v1):Int)) then (D8.l0 K0 K1 m (ByteArray.extract v1 (3:Nat) (↑(ByteArray.size v1):Int).toNat)) else (none))) else (none))) else (none))) else (none))) else (none))) else (bif i64.wrap (u8.wrap (↑(BitVec.ofInt (8:Nat) (a12.getD z2.toNat (0:Int)) &&& BitVec.ofInt (8:Nat) (7:Int)).toNat:Int)) == (4:Int) then (bif decide ((↑(ByteArray.size v1):Int) < (4:Int)) then (K0 false) else (bif decide ((1:Int) < (↑(ByteArray.size v1):Int)) then (bif decide ((↑(v1.data.toList.getD (1:Nat) (0:UInt8)).toNat:Int) < (a91.getD z3.toNat ti267.ty.dflt).1) then (K0 false) else (bif decide ((1:Int) < (↑(ByteArray.size v1):Int)) then (bif decide ((a91.getD z3.toNat ti267.ty.dflt).2.1 < (↑(v1.data.toList.getD (1:Nat) (0:UInt8)).toNat:Int)) then (K0 false) else (bif decide ((2:Int) < (↑(ByteArray.size v1):Int)) then (bif decide ((↑(v1.data.toList.getD (2:Nat) (0:UInt8)).toNat:Int) < (128:Int)) then (K0 false) else (bif decide ((2:Int) < (↑(ByteArray.size v1):Int)) then (bif decide ((191:Int) < (↑(v1.data.toList.getD (2:Nat) (0:UInt8)).toNat:Int)) then (K0 false) else (bif decide ((3:Int) < (↑(ByteArray.size v1):Int)) then (bif decide ((↑(v1.data.toList.getD (3:Nat) (0:UInt8)).toNat:Int) < (128:Int)) then (K0 false) else (bif decide ((3:Int) < (↑(ByteArray.size v1):Int)) then (bif decide ((191:Int) < (↑(v1.data.toList.getD (3:Nat) (0:UInt8)).toNat:Int)) then (K0 false) else (bif decide ((4:Int) ≤ (↑(ByteArray.size v1):Int)) && decide ((↑(ByteArray.size v1):Int) ≤ (↑(ByteArray.size v1):Int)) then (D8.l0 K0 K1 m (ByteArray.extract v1 (4:Nat) (↑(ByteArray.size v1):Int).toNat)) else (none))) else (none))) else (none))) else (none))) else (none))) else (none))) else (none))) else (K0 false)))) else (none)) else (none))) else (none)) else (K1)
def D8.l0.t:St:=⟨jka 168 [zv .str],[],0⟩
def D8.l0.e0:St:=⟨jka 166 [jk,jk,zv .bool],[],0⟩
def D8.l0.e1:St:=⟨jka 168 [jk],[],0⟩
def D8.raw (m:Nat) (x0:ByteArray):Option (Args [.bool]):=D8.l0 (fun o4=>some ((o4,()))) (some ((true,()))) m x0
def D8.val (x0:ByteArray):=(D8.raw fuel x0).getD (dfltA [.bool])
def D8.dom (x0:ByteArray):=(D8.raw fuel x0).isSome
def D8.sg:Sig:=⟨[.str],[.bool],false,fun x=>D8.dom x.1,fun x=>D8.val x.1⟩
noncomputable def D8.q0 (m:Nat) (s:St) (k:X → St → Option (Args [.bool])):Option (Args [.bool]) :=
 match unSt D8.l0.t [.str] s with
  | some x=>D8.l0 (fun o0=>k .ret (mkSt D8.l0.e0 [.bool] (o0,()))) (k (.exit 0) (mkSt D8.l0.e1 [] ())) m x.1
  | none=>none
noncomputable def D8.L (m:Nat) (c:Code) (s:St) (k:X → St → Option (Args [.bool])):Option (Args [.bool]) :=
 match O9 c with
 | some r=>bif Nat.beq r 7001 then (D8.q0 m s k) else none
 | none=>none
theorem D8.cs_eq:loopsL Go.Proofs.Tryz.f205 [] = [(loopsL Go.Proofs.Tryz.f205 []).getD 0 .skip,(loopsL Go.Proofs.Tryz.f205 []).getD 1 .skip]:=by kernel_rfl
theorem D8.good:Good (D8.E) (fun c=>c ∈ loopsL Go.Proofs.Tryz.f205 []) D8.L:=by
 have cases:∀ c,c ∈ loopsL Go.Proofs.Tryz.f205 [] → c = (loopsL Go.Proofs.Tryz.f205 []).getD 0 .skip ∨ c = (loopsL Go.Proofs.Tryz.f205 []).getD 1 .skip:=by
  intro c hc; rw [D8.cs_eq] at hc; simpa only [List.mem_cons,List.not_mem_nil,or_false] using hc
 refine ⟨?_,?_,fun c hc=>T4 c hc⟩
 ·intro c s k r hc h
  rcases cases c hc with rfl | rfl
  ·have h':D8.q0 0 s k = some r:=Eq.trans (by kernel_rfl) h
   unfold D8.q0 at h'
   split at h'
   ·rename_i x hx
    have h2:(none:Option (Args [.bool])) = some r:=Eq.trans (by kernel_rfl) h'
    cases h2
   cases h'
  ·have h':(none:Option (Args [.bool])) = some r:=Eq.trans (by kernel_rfl) h
   cases h'
 ·intro m c s k r hc h
  rcases cases c hc with rfl | rfl
  ·have h':D8.q0 (m + 1) s k = some r:=Eq.trans (by kernel_rfl) h
   unfold D8.q0 at h'
   split at h'
   ·rename_i x hx
    rw [O8 hx]
    exact Eq.trans (by kernel_rfl) h'
   cases h'
  ·have h':(none:Option (Args [.bool])) = some r:=Eq.trans (by kernel_rfl) h
   cases h'
theorem D8.eq (m:Nat) (x0:ByteArray):runS D8.E Go.Proofs.Tryz.f205 D8.sg (D8.L m) (x0,()) = D8.raw m x0:=by kernel_rfl
theorem D8.told (h:Base0):Told 205 D8.sg :=
 T5 h fn205 (l:=[]) (il:=[]) (pl:=[]) trivial trivial trivial (L:=D8.L) D8.good (fun x=>D8.eq fuel x.1)
abbrev a04.ls:List (Nat × Sig):=[(204,M0.sg),(205,D8.sg)]
def a04.E:Env:=mkE a04.ls
def a04.raw (m:Nat) (x0:ByteArray):Option (Args [I6,.bool]):=let y1:=M0.val x0; bif M0.dom x0 then (bif y1.2.1 == (↑(ByteArray.size x0):Int) then (bif decide (y1.2.1 > (0:Int)) then (let y2:=D8.val x0; bif D8.dom x0 then (some ((i64.wrap y1.1,y2))) else none) else (some ((i64.wrap y1.1,false,())))) else (some ((i64.wrap y1.1,false,())))) else none
def a04.val (x0:ByteArray):=(a04.raw fuel x0).getD (dfltA [I6,.bool])
def a04.dom (x0:ByteArray):=(a04.raw fuel x0).isSome
def a04.sg:Sig:=⟨[.str],[I6,.bool],false,fun x=>a04.dom x.1,fun x=>a04.val x.1⟩
theorem a04.eq (m:Nat) (x0:ByteArray):runS a04.E Go.Proofs.Tryz.f178 a04.sg (nL m) (x0,()) = a04.raw m x0:=by kernel_rfl
theorem a04.told(h:Base0) (hs:AllT a04.ls):Told 178 a04.sg :=
 told_n h fn178 hs (fun x=>a04.eq fuel x.1)
def N5.E (sd:Ty.den M7 → Ty.den (.int .u8) → Bool) (sv:Ty.den M7 → Ty.den (.int .u8) → Args [M7,SI]):Env:=⟨T,sigL [(177,T6.sg),(178,a04.sg),(179,R6.sg),(152,⟨[M7,(.int .u8)],[M7,SI],false,fun x=>sd x.1 x.2.1,fun x=>sv x.1 x.2.1⟩)],inlL [],annL [],[],primL [],globL⟩
def N5.raw (sd:Ty.den M7 → Ty.den (.int .u8) → Bool) (sv:Ty.den M7 → Ty.den (.int .u8) → Args [M7,SI]) (m:Nat) (x0:(Ty.den M7)) (x1:Int):Option (Args [M7,SI]):=let y1:=T6.val x0; bif T6.dom x0 then (bif !y1.1 then (let z2:=ByteArray.mk (nl UInt8).toArray ++ bytesOf [x1]; let y3:=a04.val z2; bif a04.dom z2 then (bif y3.2.1 then (some (((ByteArray.mk (nl UInt8).toArray,()),[y3.1],()))) else (let y4:=R6.val z2; bif R6.dom z2 then (bif y4.1 then (some (((z2,()),nl (Ty.int i64).den,()))) else (some (((ByteArray.mk (nl UInt8).toArray,()),[(65533:Int)],())))) else none)) else none) else (bif decide (ByteArray.size x0.1 + (bytesOf [x1]).size ≤ lim) then (let z5:=x0.1 ++ bytesOf [x1]; let y6:=a04.val z5; bif a04.dom z5 then (bif y6.2.1 then (some (((ByteArray.mk (nl UInt8).toArray,()),[y6.1],()))) else (let y7:=R6.val z5; bif R6.dom z5 then (bif y7.1 then (some (((z5,()),nl (Ty.int i64).den,()))) else (bif ByteArray.toList x0.1 == (ByteArray.mk (nl UInt8).toArray).toList then (some (((ByteArray.mk (nl UInt8).toArray,()),[(65533:Int)],()))) else (let y8:=sv ((ByteArray.mk (nl UInt8).toArray,())) x1; bif sd ((ByteArray.mk (nl UInt8).toArray,())) x1 then (bif decide (((1:Nat) + List.length y8.2.1) * (8:Nat) ≤ (140737488355328:Nat)) && decide ((1:Nat) + List.length y8.2.1 ≤ lim) then (some ((y8.1,[(65533:Int)] ++ y8.2.1,()))) else (none)) else none))) else none)) else none) else (none))) else none
def N5.lv:Nat → (Ty.den M7 → Ty.den (.int .u8) → Bool) × (Ty.den M7 → Ty.den (.int .u8) → Args [M7,SI])
 | 0=>(fun _ _=>false,fun _ _=>dfltA [M7,SI])
 | k + 1=>(fun x0 x1=>(N5.raw (N5.lv k).1 (N5.lv k).2 fuel x0 x1).isSome,fun x0 x1=>(N5.raw (N5.lv k).1 (N5.lv k).2 fuel x0 x1).getD (dfltA [M7,SI]))
def N5.val (x0:(Ty.den M7)) (x1:Int):Args [M7,SI]:=(N5.lv 64).2 x0 x1
def N5.dom (x0:(Ty.den M7)) (x1:Int):Bool:=(N5.lv 64).1 x0 x1
def N5.sg:Sig:=⟨[M7,(.int .u8)],[M7,SI],false,fun x=>N5.dom x.1 x.2.1,fun x=>N5.val x.1 x.2.1⟩
theorem N5.eq (sd:Ty.den M7 → Ty.den (.int .u8) → Bool) (sv:Ty.den M7 → Ty.den (.int .u8) → Args [M7,SI]) (m:Nat) (x0:(Ty.den M7)) (x1:Int):runFn (N5.E sd sv) Go.Proofs.Tryz.f152 [M7,(.int .u8)] [M7,SI] false ((fun _ _ _ _=>none) m) (x0,(x1,())) = N5.raw sd sv m x0 x1:=by kernel_rfl
theorem N5.told_lv (h:Base0) (hs:AllT [(177,T6.sg),(178,a04.sg),(179,R6.sg)]):∀ k,Told 152 ⟨[M7,(.int .u8)],[M7,SI],false,fun x=>(N5.lv k).1 x.1 x.2.1,fun x=>(N5.lv k).2 x.1 x.2.1⟩
 | 0=>⟨fun _ _ _ _ _ _ _ hd=>(nomatch hd),fn152.2⟩
 | k + 1=>by
  have ih:=N5.told_lv h hs k
  exact T5 h fn152 (l:=[(177,T6.sg),(178,a04.sg),(179,R6.sg),(152,⟨[M7,(.int .u8)],[M7,SI],false,fun x=>(N5.lv k).1 x.1 x.2.1,fun x=>(N5.lv k).2 x.1 x.2.1⟩)]) (il:=[]) (pl:=[]) (args:=[M7,(.int .u8)]) (res:=[M7,SI]) (fresh:=false) (raw:=fun (x:Args [M7,(.int .u8)])=>N5.raw (N5.lv k).1 (N5.lv k).2 fuel x.1 x.2.1) ⟨hs.1,hs.2.1,hs.2.2.1,ih,trivial⟩ trivial trivial (L:=(fun _ _ _ _=>none)) a14 (fun (x:Args [M7,(.int .u8)])=>N5.eq (N5.lv k).1 (N5.lv k).2 fuel x.1 x.2.1)
theorem N5.told (h:Base0) (hs:AllT [(177,T6.sg),(178,a04.sg),(179,R6.sg)]):Told 152 N5.sg:=N5.told_lv h hs 64
abbrev S1.ls:List (Nat × Sig):=[(152,N5.sg)]
def S1.E:Env:=mkE S1.ls
def S1.raw (m:Nat) (x0:(Ty.den B9)) (x1:Int):Option (Args [B9,SI]):=let y1:=N5.val x0.2.1 (u8.wrap x1); bif N5.dom x0.2.1 (u8.wrap x1) then (some (((x0.1,y1.1,x0.2.2),y1.2))) else none
def S1.val (x0:(Ty.den B9)) (x1:Int):=(S1.raw fuel x0 x1).getD (dfltA [B9,SI])
def S1.dom (x0:(Ty.den B9)) (x1:Int):=(S1.raw fuel x0 x1).isSome
def S1.sg:Sig:=⟨[B9,I6],[B9,SI],false,fun x=>S1.dom x.1 x.2.1,fun x=>S1.val x.1 x.2.1⟩
theorem S1.eq (m:Nat) (x0:(Ty.den B9)) (x1:Int):runS S1.E Go.Proofs.Tryz.f262 S1.sg (nL m) (x0,(x1,())) = S1.raw m x0 x1:=by kernel_rfl
theorem S1.told(h:Base0) (hs:AllT S1.ls):Told 262 S1.sg :=
 told_n h fn262 hs (fun x=>S1.eq fuel x.1 x.2.1)
def V8.E:Env:=mkE []
def V8.raw (m:Nat) (x0:Int):Option (Args [SI]):=bif decide (Int.tmod x0 (28:Int) > (0:Int)) then (let z1:=[i64.wrap ((4352:Int) + i64.wrap (Int.tdiv x0 (588:Int))),i64.wrap ((4449:Int) + i64.wrap ((Int.tmod x0 (588:Int)).tdiv (28:Int)))] ++ [i64.wrap ((4519:Int) + Int.tmod x0 (28:Int))]; some ((z1,()))) else (some (([i64.wrap ((4352:Int) + i64.wrap (Int.tdiv x0 (588:Int))),i64.wrap ((4449:Int) + i64.wrap ((Int.tmod x0 (588:Int)).tdiv (28:Int)))],())))
def V8.val (x0:Int):=(V8.raw fuel x0).getD (dfltA [SI])
def V8.dom (x0:Int):=(V8.raw fuel x0).isSome
def V8.sg:Sig:=⟨[I6],[SI],false,fun x=>V8.dom x.1,fun x=>V8.val x.1⟩
theorem V8.eq (m:Nat) (x0:Int):runS V8.E Go.Proofs.Tryz.f196 V8.sg (nL m) (x0,()) = V8.raw m x0:=by kernel_rfl
theorem V8.told(h:Base0):Told 196 V8.sg :=
 told_n h fn196 (l:=[]) trivial (fun x=>V8.eq fuel x.1)
end Pt
end
section
open Go Go.Am
namespace Pt
def strings_Cut.val (x0 x1:ByteArray):Args [.str,.str,.bool] :=
 let r:=Go.Lib.cut x0.data.toList x1.data.toList
 (⟨r.1.toArray⟩,(⟨r.2.1.toArray⟩,(r.2.2,())))
def strings_Cut.dom (x0 _x1:ByteArray):Bool:=decide (x0.size < 4294967281)
def strings_Cut.sg:Sig:=⟨[.str,.str],[.str,.str,.bool],false,fun x=>strings_Cut.dom x.1 x.2.1,fun x=>strings_Cut.val x.1 x.2.1⟩
def strings_Split.val (x0 x1:ByteArray):Args [.slice .str]:=(Go.Lib.splitB x1 0 (Go.Lib.countB x0 x1) x0,())
def strings_Split.dom (x0 x1:ByteArray):Bool:=decide (x0.size < 4294967281) && decide (1 ≤ x1.size)
def strings_Split.sg:Sig:=⟨[.str,.str],[.slice .str],false,fun x=>strings_Split.dom x.1 x.2.1,fun x=>strings_Split.val x.1 x.2.1⟩
def strings_Repeat.val (x0:ByteArray) (x1:Int):Args [.str]:=(⟨(Go.Lib.repeatL x0.data.toList x1.toNat).toArray⟩,())
def strings_Repeat.dom (x0:ByteArray) (x1:Int):Bool:=decide (0 ≤ x1) && decide (x1 ≤ 9223372036854775807) && decide (x0.size * x1.toNat ≤ 140737488355328)
def strings_Repeat.sg:Sig:=⟨[.str,.int .i64],[.str],false,fun x=>strings_Repeat.dom x.1 x.2.1,fun x=>strings_Repeat.val x.1 x.2.1⟩
def M5.val (x0:ByteArray):Args [.str]:=(⟨(Go.Lib.toUpperA x0.data.toList).toArray⟩,())
def M5.dom (x0:ByteArray):Bool:=decide (x0.size ≤ 140737488355328) && x0.data.toList.all fun b=>decide (b.toNat < 128)
def M5.sg:Sig:=⟨[.str],[.str],false,fun x=>M5.dom x.1,fun x=>M5.val x.1⟩
def strsOf:Code → List ByteArray
 | .seq a b=>strsOf a ++ strsOf b
 | .region _ ops _=>ops.toList.filterMap fun o=>match o.op with
  | .assign (.const (.string s))=>some s
  | _=>none
 | _=>[]
def tabB:ByteArray:=(strsOf (bodyOf Go.Proofs.Tryz.f198)).getD 1 ByteArray.empty
def a94.val:Args [.str]:=(tabB,())
def a94.dom:Bool:=true
def a94.sg:Sig:=⟨[],[.str],false,fun _=>a94.dom,fun _=>a94.val⟩
end Pt
end
section
open Go Go.Am
open IntKind (i64 u64 u8 i32 u32)
namespace Pt
set_option maxRecDepth 100000
abbrev E4.ls:List (Nat × Sig):=[(225,M5.sg),(227,strings_Repeat.sg)]
def E4.E:Env:=⟨T,sigL E4.ls,inlL [(226,Go.Proofs.Tryz.f226),(254,Go.Proofs.Tryz.f254),(286,Go.Proofs.Tryz.f286),(310,Go.Proofs.Tryz.f310),(311,Go.Proofs.Tryz.f311),(323,Go.Proofs.Tryz.f323)],annL [(44011,⟨some [0,1,3,4,10,11,12,13,14,15,16],[],[],some [0,1,3,4,10,11,12,13]⟩),(66018,⟨some [0,1,3,4,10,11,12,13,17],[],[],some [0,1,3,4,10,11,12,13]⟩)],[],primL [],globL⟩
def E4.l0 (K0:Int → Bool → Bool → ByteArray → Int → (Ty.den SB) → Option (Args [.str])):Nat → Int → Bool → Bool → ByteArray → Int → Int → Int → Int → (Ty.den SB) → Option (Args [.str])
 | 0,_,_,_,_,_,_,_,_,_=>none
 | m + 1,v1,v2,v3,v4,v5,v6,v7,v8,v9=>bif decide (v1 ≥ v7) then (let z10:=u64.wrap (↑(BitVec.ofInt (64:Nat) v1 &&& BitVec.ofInt (64:Nat) v8).toNat:Int); bif decide ((0:Int) ≤ z10) && decide (z10 < (36:Int)) then (bif decide ((0:Int) ≤ i64.wrap (v5 - (1:Int))) && decide (i64.wrap (v5 - (1:Int)) < (65:Int)) then (bif decide ((i64.wrap (v5 - (1:Int))).toNat < List.length v9) then (bif decide ((0:Int) ≤ v6) then (let z11:=[(108:UInt8),(109:UInt8),(110:UInt8),(111:UInt8),(112:UInt8),(113:UInt8),(114:UInt8),(115:UInt8),(116:UInt8),(117:UInt8),(118:UInt8),(119:UInt8),(120:UInt8),(121:UInt8),(122:UInt8)]; let z12:=(54:UInt8) :: (55:UInt8) :: (56:UInt8) :: (57:UInt8) :: (97:UInt8) :: (98:UInt8) :: (99:UInt8) :: (100:UInt8) :: (101:UInt8) :: (102:UInt8) :: (103:UInt8) :: (104:UInt8) :: (105:UInt8) :: (106:UInt8) :: (107:UInt8) :: z11; E4.l0 K0 m (Int.fdiv v1 ((2:Int) ^ Min.min (Int.toNat v6) (64:Nat))) v2 v3 v4 (i64.wrap (v5 - (1:Int))) v6 v7 v8 (List.set v9 (i64.wrap (v5 - (1:Int))).toNat (↑(((48:UInt8) :: (49:UInt8) :: (50:UInt8) :: (51:UInt8) :: (52:UInt8) :: (53:UInt8) :: z12).toArray.toList.getD z10.toNat (0:UInt8)).toNat:Int))) else (none)) else (none)) else (none)) else (none)) else (K0 v1 v2 v3 v4 v5 v9)
def E4.l0.t:St:=⟨jka 85 [.one (.sc (.nilS)),zv (.int .u64),jk,zv .bool,zv .bool,jk,jk,jk,jk,jk,.one (.sc (.nilS)),zv .str,.one (.sc (.eptr 4 0 0 0)),zv I6,zv (.int .u64),zv (.int .u64),zv (.int .u64)],[.free,.free,.free,.free,.row (.int .u8) true 0 []],4⟩
def E4.l0.e0:St:=⟨jka 88 [.one (.sc (.nilS)),zv (.int .u64),jk,zv .bool,zv .bool,jk,jk,jk,jk,jk,.one (.sc (.nilS)),zv .str,.one (.sc (.eptr 4 0 0 0)),zv I6],[.free,.free,.free,.free,.row (.int .u8) true 0 []],4⟩
def E4.raw (m:Nat) (x0:Int):Option (Args [.str]):=bif decide (x0 < (0:Int)) then (E4.l0 (fun o13 o14 o15 o16 o17 o18=>bif decide ((0:Int) ≤ o13) && decide (o13 < (36:Int)) then (bif decide ((0:Int) ≤ i64.wrap (o17 - (1:Int))) && decide (i64.wrap (o17 - (1:Int)) < (65:Int)) then (bif decide ((i64.wrap (o17 - (1:Int))).toNat < List.length o18) then (bif o14 then (let z19:=i64.wrap (i64.wrap (o17 - (1:Int)) - (1:Int)); bif decide ((0:Int) ≤ z19) && decide (z19 < (65:Int)) then (let z20:=[(108:UInt8),(109:UInt8),(110:UInt8),(111:UInt8),(112:UInt8),(113:UInt8),(114:UInt8),(115:UInt8),(116:UInt8),(117:UInt8),(118:UInt8),(119:UInt8),(120:UInt8),(121:UInt8),(122:UInt8)]; let z21:=(54:UInt8) :: (55:UInt8) :: (56:UInt8) :: (57:UInt8) :: (97:UInt8) :: (98:UInt8) :: (99:UInt8) :: (100:UInt8) :: (101:UInt8) :: (102:UInt8) :: (103:UInt8) :: (104:UInt8) :: (105:UInt8) :: (106:UInt8) :: (107:UInt8) :: z20; let z22:=(List.set o18 (i64.wrap (o17 - (1:Int))).toNat (↑(((48:UInt8) :: (49:UInt8) :: (50:UInt8) :: (51:UInt8) :: (52:UInt8) :: (53:UInt8) :: z21).toArray.toList.getD (Int.toNat o13) (0:UInt8)).toNat:Int)).length; bif decide (z19.toNat < z22) then (bif o15 then (let z23:=(List.set o18 (i64.wrap (o17 - (1:Int))).toNat (↑(((48:UInt8) :: (49:UInt8) :: (50:UInt8) :: (51:UInt8) :: (52:UInt8) :: (53:UInt8) :: z21).toArray.toList.getD (Int.toNat o13) (0:UInt8)).toNat:Int)).set z19.toNat (45:Int); bif decide (z23.length = (65:Nat)) then (bif decide ((0:Int) ≤ z19) && decide (z19 ≤ (↑z23.length:Int)) && decide ((↑z23.length:Int) ≤ (↑z23.length:Int)) then (let z24:=(List.drop z19.toNat (List.take (↑z23.length:Int).toNat z23)).length; bif decide (z24 * (1:Nat) ≤ (140737488355328:Nat)) && decide (z24 ≤ lim) then (let y25:=M5.val o16; bif M5.dom o16 then (let z26:=i64.wrap ((4:Int) - (↑(ByteArray.size y25.1):Int)); let z27:=if z26 > (0:Int) then z26 else (0:Int); let y28:=strings_Repeat.val (ByteArray.mk #[(48:UInt8)]) z27; bif strings_Repeat.dom (ByteArray.mk #[(48:UInt8)]) z27 then (bif decide (ByteArray.size y28.1 + ByteArray.size y25.1 ≤ lim) then (some ((y28.1 ++ y25.1,()))) else (none)) else none) else none) else (none)) else (none)) else (none)) else (let z29:=(List.set o18 (i64.wrap (o17 - (1:Int))).toNat (↑(((48:UInt8) :: (49:UInt8) :: (50:UInt8) :: (51:UInt8) :: (52:UInt8) :: (53:UInt8) :: z21).toArray.toList.getD (Int.toNat o13) (0:UInt8)).toNat:Int)).set z19.toNat (45:Int); bif decide (z29.length = (65:Nat)) then (bif decide ((0:Int) ≤ z19) && decide (z19 ≤ (↑z29.length:Int)) && decide ((↑z29.length:Int) ≤ (↑z29.length:Int)) then (let z30:=bytesOf (List.drop z19.toNat (List.take (↑z29.length:Int).toNat z29)); let y31:=M5.val z30; bif M5.dom z30 then (let z32:=i64.wrap ((4:Int) - (↑(ByteArray.size y31.1):Int)); let z33:=if z32 > (0:Int) then z32 else (0:Int); let y34:=strings_Repeat.val (ByteArray.mk #[(48:UInt8)]) z33; bif strings_Repeat.dom (ByteArray.mk #[(48:UInt8)]) z33 then (bif decide (ByteArray.size y34.1 + ByteArray.size y31.1 ≤ lim) then (some ((y34.1 ++ y31.1,()))) else (none)) else none) else none) else (none)) else (none))) else (none)) else (none)) else (bif o15 then (let z35:=[(108:UInt8),(109:UInt8),(110:UInt8),(111:UInt8),(112:UInt8),(113:UInt8),(114:UInt8),(115:UInt8),(116:UInt8),(117:UInt8),(118:UInt8),(119:UInt8),(120:UInt8),(121:UInt8),(122:UInt8)]; let z36:=(54:UInt8) :: (55:UInt8) :: (56:UInt8) :: (57:UInt8) :: (97:UInt8) :: (98:UInt8) :: (99:UInt8) :: (100:UInt8) :: (101:UInt8) :: (102:UInt8) :: (103:UInt8) :: (104:UInt8) :: (105:UInt8) :: (106:UInt8) :: (107:UInt8) :: z35; let z37:=(List.set o18 (i64.wrap (o17 - (1:Int))).toNat (↑(((48:UInt8) :: (49:UInt8) :: (50:UInt8) :: (51:UInt8) :: (52:UInt8) :: (53:UInt8) :: z36).toArray.toList.getD (Int.toNat o13) (0:UInt8)).toNat:Int)).length; bif decide (z37 = (65:Nat)) then (bif decide ((0:Int) ≤ i64.wrap (o17 - (1:Int))) && decide (i64.wrap (o17 - (1:Int)) ≤ (↑z37:Int)) && decide ((↑z37:Int) ≤ (↑z37:Int)) then (let z38:=(i64.wrap (o17 - (1:Int))).toNat; let z39:=List.drop z38 (List.take (↑z37:Int).toNat (List.set o18 z38 (↑(((48:UInt8) :: (49:UInt8) :: (50:UInt8) :: (51:UInt8) :: (52:UInt8) :: (53:UInt8) :: z36).toArray.toList.getD (Int.toNat o13) (0:UInt8)).toNat:Int))); bif decide (z39.length * (1:Nat) ≤ (140737488355328:Nat)) && decide (z39.length ≤ lim) then (let y40:=M5.val o16; bif M5.dom o16 then (let z41:=i64.wrap ((4:Int) - (↑(ByteArray.size y40.1):Int)); let z42:=if z41 > (0:Int) then z41 else (0:Int); let y43:=strings_Repeat.val (ByteArray.mk #[(48:UInt8)]) z42; bif strings_Repeat.dom (ByteArray.mk #[(48:UInt8)]) z42 then (bif decide (ByteArray.size y43.1 + ByteArray.size y40.1 ≤ lim) then (some ((y43.1 ++ y40.1,()))) else (none)) else none) else none) else (none)) else (none)) else (none)) else (let z44:=[(108:UInt8),(109:UInt8),(110:UInt8),(111:UInt8),(112:UInt8),(113:UInt8),(114:UInt8),(115:UInt8),(116:UInt8),(117:UInt8),(118:UInt8),(119:UInt8),(120:UInt8),(121:UInt8),(122:UInt8)]; let z45:=(54:UInt8) :: (55:UInt8) :: (56:UInt8) :: (57:UInt8) :: (97:UInt8) :: (98:UInt8) :: (99:UInt8) :: (100:UInt8) :: (101:UInt8) :: (102:UInt8) :: (103:UInt8) :: (104:UInt8) :: (105:UInt8) :: (106:UInt8) :: (107:UInt8) :: z44; let z46:=(List.set o18 (i64.wrap (o17 - (1:Int))).toNat (↑(((48:UInt8) :: (49:UInt8) :: (50:UInt8) :: (51:UInt8) :: (52:UInt8) :: (53:UInt8) :: z45).toArray.toList.getD (Int.toNat o13) (0:UInt8)).toNat:Int)).length; bif decide (z46 = (65:Nat)) then (bif decide ((0:Int) ≤ i64.wrap (o17 - (1:Int))) && decide (i64.wrap (o17 - (1:Int)) ≤ (↑z46:Int)) && decide ((↑z46:Int) ≤ (↑z46:Int)) then (let z47:=(i64.wrap (o17 - (1:Int))).toNat; let z48:=List.drop z47 (List.take (↑z46:Int).toNat (List.set o18 z47 (↑(((48:UInt8) :: (49:UInt8) :: (50:UInt8) :: (51:UInt8) :: (52:UInt8) :: (53:UInt8) :: z45).toArray.toList.getD (Int.toNat o13) (0:UInt8)).toNat:Int))); let y49:=M5.val (bytesOf z48); bif M5.dom (bytesOf z48) then (let z50:=i64.wrap ((4:Int) - (↑(ByteArray.size y49.1):Int)); let z51:=if z50 > (0:Int) then z50 else (0:Int); let y52:=strings_Repeat.val (ByteArray.mk #[(48:UInt8)]) z51; bif strings_Repeat.dom (ByteArray.mk #[(48:UInt8)]) z51 then (bif decide (ByteArray.size y52.1 + ByteArray.size y49.1 ≤ lim) then (some ((y52.1 ++ y49.1,()))) else (none)) else none) else none) else (none)) else (none)))) else (none)) else (none)) else (none)) m (u64.wrap ((0:Int) - u64.wrap x0)) (decide (x0 < (0:Int))) false (ByteArray.mk (nl UInt8).toArray) ((65:Int)) ((4:Int)) ((16:Int)) ((15:Int)) (List.replicate (65:Nat) (0:Int))) else (E4.l0 (fun o53 o54 o55 o56 o57 o58=>bif decide ((0:Int) ≤ o53) && decide (o53 < (36:Int)) then (bif decide ((0:Int) ≤ i64.wrap (o57 - (1:Int))) && decide (i64.wrap (o57 - (1:Int)) < (65:Int)) then (bif decide ((i64.wrap (o57 - (1:Int))).toNat < List.length o58) then (bif o54 then (let z59:=i64.wrap (i64.wrap (o57 - (1:Int)) - (1:Int)); bif decide ((0:Int) ≤ z59) && decide (z59 < (65:Int)) then (let z60:=[(108:UInt8),(109:UInt8),(110:UInt8),(111:UInt8),(112:UInt8),(113:UInt8),(114:UInt8),(115:UInt8),(116:UInt8),(117:UInt8),(118:UInt8),(119:UInt8),(120:UInt8),(121:UInt8),(122:UInt8)]; let z61:=(54:UInt8) :: (55:UInt8) :: (56:UInt8) :: (57:UInt8) :: (97:UInt8) :: (98:UInt8) :: (99:UInt8) :: (100:UInt8) :: (101:UInt8) :: (102:UInt8) :: (103:UInt8) :: (104:UInt8) :: (105:UInt8) :: (106:UInt8) :: (107:UInt8) :: z60; let z62:=(List.set o58 (i64.wrap (o57 - (1:Int))).toNat (↑(((48:UInt8) :: (49:UInt8) :: (50:UInt8) :: (51:UInt8) :: (52:UInt8) :: (53:UInt8) :: z61).toArray.toList.getD (Int.toNat o53) (0:UInt8)).toNat:Int)).length; bif decide (z59.toNat < z62) then (bif o55 then (let z63:=(List.set o58 (i64.wrap (o57 - (1:Int))).toNat (↑(((48:UInt8) :: (49:UInt8) :: (50:UInt8) :: (51:UInt8) :: (52:UInt8) :: (53:UInt8) :: z61).toArray.toList.getD (Int.toNat o53) (0:UInt8)).toNat:Int)).set z59.toNat (45:Int); bif decide (z63.length = (65:Nat)) then (bif decide ((0:Int) ≤ z59) && decide (z59 ≤ (↑z63.length:Int)) && decide ((↑z63.length:Int) ≤ (↑z63.length:Int)) then (let z64:=(List.drop z59.toNat (List.take (↑z63.length:Int).toNat z63)).length; bif decide (z64 * (1:Nat) ≤ (140737488355328:Nat)) && decide (z64 ≤ lim) then (let y65:=M5.val o56; bif M5.dom o56 then (let z66:=i64.wrap ((4:Int) - (↑(ByteArray.size y65.1):Int)); let z67:=if z66 > (0:Int) then z66 else (0:Int); let y68:=strings_Repeat.val (ByteArray.mk #[(48:UInt8)]) z67; bif strings_Repeat.dom (ByteArray.mk #[(48:UInt8)]) z67 then (bif decide (ByteArray.size y68.1 + ByteArray.size y65.1 ≤ lim) then (some ((y68.1 ++ y65.1,()))) else (none)) else none) else none) else (none)) else (none)) else (none)) else (let z69:=(List.set o58 (i64.wrap (o57 - (1:Int))).toNat (↑(((48:UInt8) :: (49:UInt8) :: (50:UInt8) :: (51:UInt8) :: (52:UInt8) :: (53:UInt8) :: z61).toArray.toList.getD (Int.toNat o53) (0:UInt8)).toNat:Int)).set z59.toNat (45:Int); bif decide (z69.length = (65:Nat)) then (bif decide ((0:Int) ≤ z59) && decide (z59 ≤ (↑z69.length:Int)) && decide ((↑z69.length:Int) ≤ (↑z69.length:Int)) then (let z70:=bytesOf (List.drop z59.toNat (List.take (↑z69.length:Int).toNat z69)); let y71:=M5.val z70; bif M5.dom z70 then (let z72:=i64.wrap ((4:Int) - (↑(ByteArray.size y71.1):Int)); let z73:=if z72 > (0:Int) then z72 else (0:Int); let y74:=strings_Repeat.val (ByteArray.mk #[(48:UInt8)]) z73; bif strings_Repeat.dom (ByteArray.mk #[(48:UInt8)]) z73 then (bif decide (ByteArray.size y74.1 + ByteArray.size y71.1 ≤ lim) then (some ((y74.1 ++ y71.1,()))) else (none)) else none) else none) else (none)) else (none))) else (none)) else (none)) else (bif o55 then (let z75:=[(108:UInt8),(109:UInt8),(110:UInt8),(111:UInt8),(112:UInt8),(113:UInt8),(114:UInt8),(115:UInt8),(116:UInt8),(117:UInt8),(118:UInt8),(119:UInt8),(120:UInt8),(121:UInt8),(122:UInt8)]; let z76:=(54:UInt8) :: (55:UInt8) :: (56:UInt8) :: (57:UInt8) :: (97:UInt8) :: (98:UInt8) :: (99:UInt8) :: (100:UInt8) :: (101:UInt8) :: (102:UInt8) :: (103:UInt8) :: (104:UInt8) :: (105:UInt8) :: (106:UInt8) :: (107:UInt8) :: z75; let z77:=(List.set o58 (i64.wrap (o57 - (1:Int))).toNat (↑(((48:UInt8) :: (49:UInt8) :: (50:UInt8) :: (51:UInt8) :: (52:UInt8) :: (53:UInt8) :: z76).toArray.toList.getD (Int.toNat o53) (0:UInt8)).toNat:Int)).length; bif decide (z77 = (65:Nat)) then (bif decide ((0:Int) ≤ i64.wrap (o57 - (1:Int))) && decide (i64.wrap (o57 - (1:Int)) ≤ (↑z77:Int)) && decide ((↑z77:Int) ≤ (↑z77:Int)) then (let z78:=(i64.wrap (o57 - (1:Int))).toNat; let z79:=List.drop z78 (List.take (↑z77:Int).toNat (List.set o58 z78 (↑(((48:UInt8) :: (49:UInt8) :: (50:UInt8) :: (51:UInt8) :: (52:UInt8) :: (53:UInt8) :: z76).toArray.toList.getD (Int.toNat o53) (0:UInt8)).toNat:Int))); bif decide (z79.length * (1:Nat) ≤ (140737488355328:Nat)) && decide (z79.length ≤ lim) then (let y80:=M5.val o56; bif M5.dom o56 then (let z81:=i64.wrap ((4:Int) - (↑(ByteArray.size y80.1):Int)); let z82:=if z81 > (0:Int) then z81 else (0:Int); let y83:=strings_Repeat.val (ByteArray.mk #[(48:UInt8)]) z82; bif strings_Repeat.dom (ByteArray.mk #[(48:UInt8)]) z82 then (bif decide (ByteArray.size y83.1 + ByteArray.size y80.1 ≤ lim) then (some ((y83.1 ++ y80.1,()))) else (none)) else none) else none) else (none)) else (none)) else (none)) else (let z84:=[(108:UInt8),(109:UInt8),(110:UInt8),(111:UInt8),(112:UInt8),(113:UInt8),(114:UInt8),(115:UInt8),(116:UInt8),(117:UInt8),(118:UInt8),(119:UInt8),(120:UInt8),(121:UInt8),(122:UInt8)]; let z85:=(54:UInt8) :: (55:UInt8) :: (56:UInt8) :: (57:UInt8) :: (97:UInt8) :: (98:UInt8) :: (99:UInt8) :: (100:UInt8) :: (101:UInt8) :: (102:UInt8) :: (103:UInt8) :: (104:UInt8) :: (105:UInt8) :: (106:UInt8) :: (107:UInt8) :: z84; let z86:=(List.set o58 (i64.wrap (o57 - (1:Int))).toNat (↑(((48:UInt8) :: (49:UInt8) :: (50:UInt8) :: (51:UInt8) :: (52:UInt8) :: (53:UInt8) :: z85).toArray.toList.getD (Int.toNat o53) (0:UInt8)).toNat:Int)).length; bif decide (z86 = (65:Nat)) then (bif decide ((0:Int) ≤ i64.wrap (o57 - (1:Int))) && decide (i64.wrap (o57 - (1:Int)) ≤ (↑z86:Int)) && decide ((↑z86:Int) ≤ (↑z86:Int)) then (let z87:=(i64.wrap (o57 - (1:Int))).toNat; let z88:=List.drop z87 (List.take (↑z86:Int).toNat (List.set o58 z87 (↑(((48:UInt8) :: (49:UInt8) :: (50:UInt8) :: (51:UInt8) :: (52:UInt8) :: (53:UInt8) :: z85).toArray.toList.getD (Int.toNat o53) (0:UInt8)).toNat:Int))); let y89:=M5.val (bytesOf z88); bif M5.dom (bytesOf z88) then (let z90:=i64.wrap ((4:Int) - (↑(ByteArray.size y89.1):Int)); let z91:=if z90 > (0:Int) then z90 else (0:Int); let y92:=strings_Repeat.val (ByteArray.mk #[(48:UInt8)]) z91; bif strings_Repeat.dom (ByteArray.mk #[(48:UInt8)]) z91 then (bif decide (ByteArray.size y92.1 + ByteArray.size y89.1 ≤ lim) then (some ((y92.1 ++ y89.1,()))) else (none)) else none) else none) else (none)) else (none)))) else (none)) else (none)) else (none)) m (u64.wrap x0) (decide (x0 < (0:Int))) false (ByteArray.mk (nl UInt8).toArray) ((65:Int)) ((4:Int)) ((16:Int)) ((15:Int)) (List.replicate (65:Nat) (0:Int)))
def E4.val (x0:Int):=(E4.raw fuel x0).getD (dfltA [.str])
def E4.dom (x0:Int):=(E4.raw fuel x0).isSome
def E4.sg:Sig:=⟨[I6],[.str],false,fun x=>E4.dom x.1,fun x=>E4.val x.1⟩
noncomputable def E4.q0 (m:Nat) (s:St) (k:X → St → Option (Args [.str])):Option (Args [.str]) :=
 match unSt E4.l0.t [(.int .u64),.bool,.bool,.str,I6,(.int .u64),(.int .u64),(.int .u64),SB] s with
  | some x=>E4.l0 (fun o0 o1 o2 o3 o4 o5=>k (.exit 0) (mkSt E4.l0.e0 [(.int .u64),.bool,.bool,.str,I6,SB] (o0,(o1,(o2,(o3,(o4,(o5,())))))))) m x.1 x.2.1 x.2.2.1 x.2.2.2.1 x.2.2.2.2.1 x.2.2.2.2.2.1 x.2.2.2.2.2.2.1 x.2.2.2.2.2.2.2.1 x.2.2.2.2.2.2.2.2.1
  | none=>none
noncomputable def E4.L (m:Nat) (c:Code) (s:St) (k:X → St → Option (Args [.str])):Option (Args [.str]) :=
 match O9 c with
 | some r=>bif Nat.beq r 44011 then (E4.q0 m s k) else none
 | none=>none
theorem E4.cs_eq:loopsL Go.Proofs.Tryz.f199 [(226,Go.Proofs.Tryz.f226),(254,Go.Proofs.Tryz.f254),(286,Go.Proofs.Tryz.f286),(310,Go.Proofs.Tryz.f310),(311,Go.Proofs.Tryz.f311),(323,Go.Proofs.Tryz.f323)] = [(loopsL Go.Proofs.Tryz.f199 [(226,Go.Proofs.Tryz.f226),(254,Go.Proofs.Tryz.f254),(286,Go.Proofs.Tryz.f286),(310,Go.Proofs.Tryz.f310),(311,Go.Proofs.Tryz.f311),(323,Go.Proofs.Tryz.f323)]).getD 0 .skip,(loopsL Go.Proofs.Tryz.f199 [(226,Go.Proofs.Tryz.f226),(254,Go.Proofs.Tryz.f254),(286,Go.Proofs.Tryz.f286),(310,Go.Proofs.Tryz.f310),(311,Go.Proofs.Tryz.f311),(323,Go.Proofs.Tryz.f323)]).getD 1 .skip]:=by kernel_rfl
theorem E4.good:Good (E4.E) (fun c=>c ∈ loopsL Go.Proofs.Tryz.f199 [(226,Go.Proofs.Tryz.f226),(254,Go.Proofs.Tryz.f254),(286,Go.Proofs.Tryz.f286),(310,Go.Proofs.Tryz.f310),(311,Go.Proofs.Tryz.f311),(323,Go.Proofs.Tryz.f323)]) E4.L:=by
 have cases:∀ c,c ∈ loopsL Go.Proofs.Tryz.f199 [(226,Go.Proofs.Tryz.f226),(254,Go.Proofs.Tryz.f254),(286,Go.Proofs.Tryz.f286),(310,Go.Proofs.Tryz.f310),(311,Go.Proofs.Tryz.f311),(323,Go.Proofs.Tryz.f323)] → c = (loopsL Go.Proofs.Tryz.f199 [(226,Go.Proofs.Tryz.f226),(254,Go.Proofs.Tryz.f254),(286,Go.Proofs.Tryz.f286),(310,Go.Proofs.Tryz.f310),(311,Go.Proofs.Tryz.f311),(323,Go.Proofs.Tryz.f323)]).getD 0 .skip ∨ c = (loopsL Go.Proofs.Tryz.f199 [(226,Go.Proofs.Tryz.f226),(254,Go.Proofs.Tryz.f254),(286,Go.Proofs.Tryz.f286),(310,Go.Proofs.Tryz.f310),(311,Go.Proofs.Tryz.f311),(323,Go.Proofs.Tryz.f323)]).getD 1 .skip:=by
  intro c hc; rw [E4.cs_eq] at hc; simpa only [List.mem_cons,List.not_mem_nil,or_false] using hc
 refine ⟨?_,?_,fun c hc=>T4 c hc⟩
 ·intro c s k r hc h
  rcases cases c hc with rfl | rfl
  ·have h':E4.q0 0 s k = some r:=Eq.trans (by kernel_rfl) h
   unfold E4.q0 at h'
   split at h'
   ·rename_i x hx
    have h2:(none:Option (Args [.str])) = some r:=Eq.trans (by kernel_rfl) h'
    cases h2
   cases h'
  ·have h':(none:Option (Args [.str])) = some r:=Eq.trans (by kernel_rfl) h
   cases h'
 ·intro m c s k r hc h
  rcases cases c hc with rfl | rfl
  ·have h':E4.q0 (m + 1) s k = some r:=Eq.trans (by kernel_rfl) h
   unfold E4.q0 at h'
   split at h'
   ·rename_i x hx
    rw [O8 hx]
    exact Eq.trans (by kernel_rfl) h'
   cases h'
  ·have h':(none:Option (Args [.str])) = some r:=Eq.trans (by kernel_rfl) h
   cases h'
theorem E4.eq (m:Nat) (x0:Int):runS E4.E Go.Proofs.Tryz.f199 E4.sg (E4.L m) (x0,()) = E4.raw m x0:=by kernel_rfl
theorem E4.told (h:Base0) (hs:AllT E4.ls):Told 199 E4.sg :=
 T5 h fn199 (il:=[(226,Go.Proofs.Tryz.f226),(254,Go.Proofs.Tryz.f254),(286,Go.Proofs.Tryz.f286),(310,Go.Proofs.Tryz.f310),(311,Go.Proofs.Tryz.f311),(323,Go.Proofs.Tryz.f323)]) (pl:=[]) hs ⟨fn226,⟨fn254,⟨fn286,⟨fn310,⟨fn311,⟨fn323,trivial⟩⟩⟩⟩⟩⟩ trivial (L:=E4.L) E4.good (fun x=>E4.eq fuel x.1)
def a18.E:Env:=mkE []
def a18.raw (m:Nat) (x0:Int):Option (Args [(.int .u8)]):=some ((u8.wrap (↑(BitVec.ofInt (8:Nat) x0 ||| BitVec.ofInt (8:Nat) (32:Int)).toNat:Int),()))
def a18.val (x0:Int):=(a18.raw fuel x0).getD (dfltA [(.int .u8)])
def a18.dom (x0:Int):=(a18.raw fuel x0).isSome
def a18.sg:Sig:=⟨[(.int .u8)],[(.int .u8)],false,fun x=>a18.dom x.1,fun x=>a18.val x.1⟩
theorem a18.eq (m:Nat) (x0:Int):runS a18.E Go.Proofs.Tryz.f314 a18.sg (nL m) (x0,()) = a18.raw m x0:=by kernel_rfl
theorem a18.told(h:Base0):Told 314 a18.sg :=
 told_n h fn314 (l:=[]) trivial (fun x=>a18.eq fuel x.1)
end Pt
end
end
