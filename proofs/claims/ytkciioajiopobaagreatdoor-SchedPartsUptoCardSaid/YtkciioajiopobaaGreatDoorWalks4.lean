/- What functions of the given program compute, each by the abstract machine. Conditions: none beyond the statement's own. -/
import Derived.Test.YtkciioajiopobaaGreatDoorTypes1
import Derived.Test.YtkciioajiopobaaGreatDoorWalks1
import Derived.Test.YtkciioajiopobaaGreatDoorWalks3
set_option linter.all false
noncomputable section
section
open Go Go.Am
open IntKind (i64 u64 u8 i32 u32)
namespace Pt
set_option maxRecDepth 100000
abbrev C3.ls:List (Nat × Sig):=[(228,strings_Split.sg),(314,a18.sg)]
def C3.E:Env:=⟨T,sigL C3.ls,inlL [(229,Go.Proofs.Tryz.f229),(259,Go.Proofs.Tryz.f259),(260,Go.Proofs.Tryz.f260),(294,Go.Proofs.Tryz.f294),(295,Go.Proofs.Tryz.f295),(296,Go.Proofs.Tryz.f296),(297,Go.Proofs.Tryz.f297),(317,Go.Proofs.Tryz.f317),(293,Go.Proofs.Tryz.f293)],annL [(16004,⟨some [3,4,14,15],[],[],some [4]⟩),(102036,⟨some [1,8,9,10,11,12,13,99,100,101],[],[],some [6,7,9,12,13]⟩)],[],primL [],globL⟩
def C3.l1 (K0:ByteArray → Bool → Int → (Ty.den SI) → Option (Args [SI])):Nat → Int → Bool → ByteArray → Int → Int → Bool → Int → (Ty.den SB) → Int → Int → (Ty.den SI) → Option (Args [SI])
 | 0,_,_,_,_,_,_,_,_,_,_,_=>none
 | m + 1,v8,v9,v10,v11,v12,v13,v14,v15,v16,v17,v18=>bif decide (v17 < v16) then (bif decide ((0:Int) ≤ v17) && decide (v17 < (↑(List.length v15):Int)) then (bif List.getD v15 (Int.toNat v17) (0:Int) == (95:Int) then (bif v9 then (C3.l1 K0 m v8 v9 v10 v11 v12 true v14 v15 v16 (i64.wrap (v17 + (1:Int))) v18) else (bif decide ((48:Int) ≤ List.getD v15 (Int.toNat v17) (0:Int)) then (bif decide (List.getD v15 (Int.toNat v17) (0:Int) ≤ (57:Int)) then (bif decide (u8.wrap (List.getD v15 (Int.toNat v17) (0:Int) - (48:Int)) ≥ u8.wrap v8) then (none) else (bif decide (v14 ≥ v11) then (none) else (let z19:=u64.wrap (v14 * u64.wrap v8); bif decide (u64.wrap (z19 + u64.wrap (u8.wrap (List.getD v15 (Int.toNat v17) (0:Int) - (48:Int)))) < z19) then (none) else (bif decide (u64.wrap (z19 + u64.wrap (u8.wrap (List.getD v15 (Int.toNat v17) (0:Int) - (48:Int)))) > v12) then (none) else (C3.l1 K0 m v8 v9 v10 v11 v12 v13 (u64.wrap (z19 + u64.wrap (u8.wrap (List.getD v15 (Int.toNat v17) (0:Int) - (48:Int))))) v15 v16 (i64.wrap (v17 + (1:Int))) v18))))) else (bif decide ((97:Int) ≤ u8.wrap (↑(BitVec.ofInt (8:Nat) (List.getD v15 (Int.toNat v17) (0:Int)) ||| BitVec.ofInt (8:Nat) (32:Int)).toNat:Int)) then (bif decide (u8.wrap (↑(BitVec.ofInt (8:Nat) (List.getD v15 (Int.toNat v17) (0:Int)) ||| BitVec.ofInt (8:Nat) (32:Int)).toNat:Int) ≤ (122:Int)) then (let z20:=u8.wrap (u8.wrap (u8.wrap (↑(BitVec.ofInt (8:Nat) (List.getD v15 (Int.toNat v17) (0:Int)) ||| BitVec.ofInt (8:Nat) (32:Int)).toNat:Int) - (97:Int)) + (10:Int)); bif decide (z20 ≥ u8.wrap v8) then (none) else (bif decide (v14 ≥ v11) then (none) else (let z21:=u64.wrap (v14 * u64.wrap v8); bif decide (u64.wrap (z21 + u64.wrap z20) < z21) then (none) else (bif decide (u64.wrap (z21 + u64.wrap z20) > v12) then (none) else (C3.l1 K0 m v8 v9 v10 v11 v12 v13 (u64.wrap (z21 + u64.wrap z20)) v15 v16 (i64.wrap (v17 + (1:Int))) v18))))) else (none)) else (none))) else (bif decide ((97:Int) ≤ u8.wrap (↑(BitVec.ofInt (8:Nat) (List.getD v15 (Int.toNat v17) (0:Int)) ||| BitVec.ofInt (8:Nat) (32:Int)).toNat:Int)) then (bif decide (u8.wrap (↑(BitVec.ofInt (8:Nat) (List.getD v15 (Int.toNat v17) (0:Int)) ||| BitVec.ofInt (8:Nat) (32:Int)).toNat:Int) ≤ (122:Int)) then (let z22:=u8.wrap (u8.wrap (u8.wrap (↑(BitVec.ofInt (8:Nat) (List.getD v15 (Int.toNat v17) (0:Int)) ||| BitVec.ofInt (8:Nat) (32:Int)).toNat:Int) - (97:Int)) + (10:Int)); bif decide (z22 ≥ u8.wrap v8) then (none) else (bif decide (v14 ≥ v11) then (none) else (let z23:=u64.wrap (v14 * u64.wrap v8); bif decide (u64.wrap (z23 + u64.wrap z22) < z23) then (none) else (bif decide (u64.wrap (z23 + u64.wrap z22) > v12) then (none) else (C3.l1 K0 m v8 v9 v10 v11 v12 v13 (u64.wrap (z23 + u64.wrap z22)) v15 v16 (i64.wrap (v17 + (1:Int))) v18))))) else (none)) else (none)))) else (bif decide ((48:Int) ≤ List.getD v15 (Int.toNat v17) (0:Int)) then (bif decide (List.getD v15 (Int.toNat v17) (0:Int) ≤ (57:Int)) then (bif decide (u8.wrap (List.getD v15 (Int.toNat v17) (0:Int) - (48:Int)) ≥ u8.wrap v8) then (none) else (bif decide (v14 ≥ v11) then (none) else (let z24:=u64.wrap (v14 * u64.wrap v8); bif decide (u64.wrap (z24 + u64.wrap (u8.wrap (List.getD v15 (Int.toNat v17) (0:Int) - (48:Int)))) < z24) then (none) else (bif decide (u64.wrap (z24 + u64.wrap (u8.wrap (List.getD v15 (Int.toNat v17) (0:Int) - (48:Int)))) > v12) then (none) else (C3.l1 K0 m v8 v9 v10 v11 v12 v13 (u64.wrap (z24 + u64.wrap (u8.wrap (List.getD v15 (Int.toNat v17) (0:Int) - (48:Int))))) v15 v16 (i64.wrap (v17 + (1:Int))) v18))))) else (bif decide ((97:Int) ≤ u8.wrap (↑(BitVec.ofInt (8:Nat) (List.getD v15 (Int.toNat v17) (0:Int)) ||| BitVec.ofInt (8:Nat) (32:Int)).toNat:Int)) then (bif decide (u8.wrap (↑(BitVec.ofInt (8:Nat) (List.getD v15 (Int.toNat v17) (0:Int)) ||| BitVec.ofInt (8:Nat) (32:Int)).toNat:Int) ≤ (122:Int)) then (let z25:=u8.wrap (u8.wrap (u8.wrap (↑(BitVec.ofInt (8:Nat) (List.getD v15 (Int.toNat v17) (0:Int)) ||| BitVec.ofInt (8:Nat) (32:Int)).toNat:Int) - (97:Int)) + (10:Int)); bif decide (z25 ≥ u8.wrap v8) then (none) else (bif decide (v14 ≥ v11) then (none) else (let z26:=u64.wrap (v14 * u64.wrap v8); bif decide (u64.wrap (z26 + u64.wrap z25) < z26) then (none) else (bif decide (u64.wrap (z26 + u64.wrap z25) > v12) then (none) else (C3.l1 K0 m v8 v9 v10 v11 v12 v13 (u64.wrap (z26 + u64.wrap z25)) v15 v16 (i64.wrap (v17 + (1:Int))) v18))))) else (none)) else (none))) else (bif decide ((97:Int) ≤ u8.wrap (↑(BitVec.ofInt (8:Nat) (List.getD v15 (Int.toNat v17) (0:Int)) ||| BitVec.ofInt (8:Nat) (32:Int)).toNat:Int)) then (bif decide (u8.wrap (↑(BitVec.ofInt (8:Nat) (List.getD v15 (Int.toNat v17) (0:Int)) ||| BitVec.ofInt (8:Nat) (32:Int)).toNat:Int) ≤ (122:Int)) then (let z27:=u8.wrap (u8.wrap (u8.wrap (↑(BitVec.ofInt (8:Nat) (List.getD v15 (Int.toNat v17) (0:Int)) ||| BitVec.ofInt (8:Nat) (32:Int)).toNat:Int) - (97:Int)) + (10:Int)); bif decide (z27 ≥ u8.wrap v8) then (none) else (bif decide (v14 ≥ v11) then (none) else (let z28:=u64.wrap (v14 * u64.wrap v8); bif decide (u64.wrap (z28 + u64.wrap z27) < z28) then (none) else (bif decide (u64.wrap (z28 + u64.wrap z27) > v12) then (none) else (C3.l1 K0 m v8 v9 v10 v11 v12 v13 (u64.wrap (z28 + u64.wrap z27)) v15 v16 (i64.wrap (v17 + (1:Int))) v18))))) else (none)) else (none)))) else (none)) else (K0 v10 v13 v14 v18)
def C3.l1.t:St:=⟨jka 70 [jk,zv I6,jk,jk,jk,jk,jk,jk,zv .bool,zv .str,zv (.int .u64),zv (.int .u64),zv .bool,zv (.int .u64),jk,jk,jk,jk,jk,jk,jk,jk,jk,jk,jk,jk,jk,jk,jk,jk,jk,jk,jk,jk,jk,jk,jk,jk,jk,jk,jk,jk,jk,jk,jk,jk,jk,jk,jk,jk,jk,jk,jk,jk,jk,jk,jk,jk,jk,jk,jk,jk,jk,jk,jk,jk,jk,jk,jk,jk,jk,jk,jk,jk,jk,jk,jk,jk,jk,jk,jk,jk,jk,jk,jk,jk,jk,jk,jk,jk,jk,jk,jk,jk,jk,jk,jk,jk,jk,zv SB,zv I6,zv I6],[.free,.row I6 true 0 [],.free,.free,.free],5⟩
def C3.l1.e0:St:=⟨jka 158 [jk,jk,jk,jk,jk,jk,jk,jk,jk,zv .str,jk,jk,zv .bool,zv (.int .u64)],[.free,.row I6 true 0 [],.free,.free,.free],5⟩
def C3.l0 (K0:(Ty.den SI) → Option (Args [SI])):Nat → (Ty.den (.slice .str)) → Int → Int → (Ty.den SI) → Option (Args [SI])
 | 0,_,_,_,_=>none
 | m + 1,v3,v4,v5,v6=>bif decide (v5 < v4) then (bif decide ((0:Int) ≤ v5) && decide (v5 < (↑(List.length v3):Int)) then (bif ByteArray.toList (List.getD v3 (Int.toNat v5) Ty.str.dflt) == (ByteArray.mk (nl UInt8).toArray).toList then (none) else (bif decide ((0:Int) < (↑(ByteArray.size (List.getD v3 (Int.toNat v5) Ty.str.dflt)):Int)) then (bif (↑((List.getD v3 (Int.toNat v5) Ty.str.dflt).data.toList.getD (0:Nat) (0:UInt8)).toNat:Int) == (43:Int) then (let z7:=(↑(ByteArray.size (List.getD v3 (Int.toNat v5) Ty.str.dflt)):Int); bif decide ((1:Int) ≤ z7) && decide (z7 ≤ z7) then (bif (ByteArray.extract (List.getD v3 (Int.toNat v5) Ty.str.dflt) (1:Nat) z7.toNat).toList == (ByteArray.mk (nl UInt8).toArray).toList then (none) else (let z29:=ByteArray.extract (List.getD v3 (Int.toNat v5) Ty.str.dflt) (1:Nat) z7.toNat; C3.l1 (fun o30 o31 o32 o33=>bif o31 then (none) else (bif decide (o32 ≥ (2147483648:Int)) then (none) else (bif decide ((0:Int) ≤ v5) && decide (v5 < (↑(List.length o33):Int)) then (bif decide (Int.toNat v5 < List.length o33) then (C3.l0 K0 m v3 v4 (i64.wrap (v5 + (1:Int))) (List.set o33 (Int.toNat v5) (i64.wrap o32))) else (none)) else (none)))) m ((16:Int)) false z29 ((1152921504606846976:Int)) ((4294967295:Int)) false ((0:Int)) (ofBytes z29) ((↑(ofBytes z29).length:Int)) ((0:Int)) v6)) else (none)) else (bif (↑((List.getD v3 (Int.toNat v5) Ty.str.dflt).data.toList.getD (0:Nat) (0:UInt8)).toNat:Int) == (45:Int) then (let z34:=(↑(ByteArray.size (List.getD v3 (Int.toNat v5) Ty.str.dflt)):Int); bif decide ((1:Int) ≤ z34) && decide (z34 ≤ z34) then (bif (ByteArray.extract (List.getD v3 (Int.toNat v5) Ty.str.dflt) (1:Nat) z34.toNat).toList == (ByteArray.mk (nl UInt8).toArray).toList then (none) else (let z35:=ByteArray.extract (List.getD v3 (Int.toNat v5) Ty.str.dflt) (1:Nat) z34.toNat; C3.l1 (fun o36 o37 o38 o39=>bif o37 then (none) else (bif decide (o38 > (2147483648:Int)) then (none) else (bif decide ((0:Int) ≤ v5) && decide (v5 < (↑(List.length o39):Int)) then (bif decide (Int.toNat v5 < List.length o39) then (C3.l0 K0 m v3 v4 (i64.wrap (v5 + (1:Int))) (List.set o39 (Int.toNat v5) (i64.wrap ((0:Int) - i64.wrap o38)))) else (none)) else (none)))) m ((16:Int)) false z35 ((1152921504606846976:Int)) ((4294967295:Int)) false ((0:Int)) (ofBytes z35) ((↑(ofBytes z35).length:Int)) ((0:Int)) v6)) else (none)) else (bif ByteArray.toList (List.getD v3 (Int.toNat v5) Ty.str.dflt) == (ByteArray.mk (nl UInt8).toArray).toList then (none) else (let z40:=List.getD v3 (Int.toNat v5) Ty.str.dflt; C3.l1 (fun o41 o42 o43 o44=>bif o42 then (none) else (bif decide (o43 ≥ (2147483648:Int)) then (none) else (bif decide ((0:Int) ≤ v5) && decide (v5 < (↑(List.length o44):Int)) then (bif decide (Int.toNat v5 < List.length o44) then (C3.l0 K0 m v3 v4 (i64.wrap (v5 + (1:Int))) (List.set o44 (Int.toNat v5) (i64.wrap o43))) else (none)) else (none)))) m ((16:Int)) false z40 ((1152921504606846976:Int)) ((4294967295:Int)) false ((0:Int)) (ofBytes z40) ((↑(ofBytes z40).length:Int)) ((0:Int)) v6)))) else (none))) else (none)) else (K0 v6)
def C3.l0.t:St:=⟨jka 16 [jk,jk,jk,zv (.slice .str),.one (.sc (.own 1 0)),jk,jk,jk,jk,jk,jk,jk,jk,jk,zv I6,zv I6],[.free,.row I6 true 0 []],0⟩
def C3.l0.e0:St:=⟨jka 27 [jk,jk,jk,jk,.one (.sc (.own 1 0))],[.free,.row I6 true 0 []],0⟩
def C3.raw (m:Nat) (x0:ByteArray):Option (Args [SI]):=let y1:=strings_Split.val x0 (ByteArray.mk #[(44:UInt8)]); bif strings_Split.dom x0 (ByteArray.mk #[(44:UInt8)]) then (let z2:=decide ((0:Int) ≤ (↑(List.length y1.1):Int)) && decide ((↑(List.length y1.1):Int) ≤ (↑(List.length y1.1):Int)) && decide ((↑(List.length y1.1):Int) * (8:Int) ≤ (140737488355328:Int)) && decide ((↑(List.length y1.1):Int) ≤ (1099511627776:Int)); bif z2 then (C3.l0 (fun o45=>some ((o45,()))) m y1.1 ((↑(List.length y1.1):Int)) ((0:Int)) (List.replicate (↑(List.length y1.1):Int).toNat (0:Int))) else (none)) else none
def C3.val (x0:ByteArray):=(C3.raw fuel x0).getD (dfltA [SI])
def C3.dom (x0:ByteArray):=(C3.raw fuel x0).isSome
def C3.sg:Sig:=⟨[.str],[SI],false,fun x=>C3.dom x.1,fun x=>C3.val x.1⟩
noncomputable def C3.q0 (m:Nat) (s:St) (k:X → St → Option (Args [SI])):Option (Args [SI]) :=
 match unSt C3.l0.t [(.slice .str),I6,I6,SI] s with
  | some x=>C3.l0 (fun o0=>k (.exit 0) (mkSt C3.l0.e0 [SI] (o0,()))) m x.1 x.2.1 x.2.2.1 x.2.2.2.1
  | none=>none
noncomputable def C3.q1 (m:Nat) (s:St) (k:X → St → Option (Args [SI])):Option (Args [SI]) :=
 match unSt C3.l1.t [I6,.bool,.str,(.int .u64),(.int .u64),.bool,(.int .u64),SB,I6,I6,SI] s with
  | some x=>C3.l1 (fun o0 o1 o2 o3=>k (.exit 3) (mkSt C3.l1.e0 [.str,.bool,(.int .u64),SI] (o0,(o1,(o2,(o3,())))))) m x.1 x.2.1 x.2.2.1 x.2.2.2.1 x.2.2.2.2.1 x.2.2.2.2.2.1 x.2.2.2.2.2.2.1 x.2.2.2.2.2.2.2.1 x.2.2.2.2.2.2.2.2.1 x.2.2.2.2.2.2.2.2.2.1 x.2.2.2.2.2.2.2.2.2.2.1
  | none=>none
noncomputable def C3.L (m:Nat) (c:Code) (s:St) (k:X → St → Option (Args [SI])):Option (Args [SI]) :=
 match O9 c with
 | some r=>bif Nat.beq r 16004 then (C3.q0 m s k) else bif Nat.beq r 102036 then (C3.q1 m s k) else none
 | none=>none
theorem C3.cs_eq:loopsL Go.Proofs.Tryz.f200 [(229,Go.Proofs.Tryz.f229),(259,Go.Proofs.Tryz.f259),(260,Go.Proofs.Tryz.f260),(294,Go.Proofs.Tryz.f294),(295,Go.Proofs.Tryz.f295),(296,Go.Proofs.Tryz.f296),(297,Go.Proofs.Tryz.f297),(317,Go.Proofs.Tryz.f317),(293,Go.Proofs.Tryz.f293)] = [(loopsL Go.Proofs.Tryz.f200 [(229,Go.Proofs.Tryz.f229),(259,Go.Proofs.Tryz.f259),(260,Go.Proofs.Tryz.f260),(294,Go.Proofs.Tryz.f294),(295,Go.Proofs.Tryz.f295),(296,Go.Proofs.Tryz.f296),(297,Go.Proofs.Tryz.f297),(317,Go.Proofs.Tryz.f317),(293,Go.Proofs.Tryz.f293)]).getD 0 .skip,(loopsL Go.Proofs.Tryz.f200 [(229,Go.Proofs.Tryz.f229),(259,Go.Proofs.Tryz.f259),(260,Go.Proofs.Tryz.f260),(294,Go.Proofs.Tryz.f294),(295,Go.Proofs.Tryz.f295),(296,Go.Proofs.Tryz.f296),(297,Go.Proofs.Tryz.f297),(317,Go.Proofs.Tryz.f317),(293,Go.Proofs.Tryz.f293)]).getD 1 .skip]:=by kernel_rfl
theorem C3.good:Good (C3.E) (fun c=>c ∈ loopsL Go.Proofs.Tryz.f200 [(229,Go.Proofs.Tryz.f229),(259,Go.Proofs.Tryz.f259),(260,Go.Proofs.Tryz.f260),(294,Go.Proofs.Tryz.f294),(295,Go.Proofs.Tryz.f295),(296,Go.Proofs.Tryz.f296),(297,Go.Proofs.Tryz.f297),(317,Go.Proofs.Tryz.f317),(293,Go.Proofs.Tryz.f293)]) C3.L:=by
 have cases:∀ c,c ∈ loopsL Go.Proofs.Tryz.f200 [(229,Go.Proofs.Tryz.f229),(259,Go.Proofs.Tryz.f259),(260,Go.Proofs.Tryz.f260),(294,Go.Proofs.Tryz.f294),(295,Go.Proofs.Tryz.f295),(296,Go.Proofs.Tryz.f296),(297,Go.Proofs.Tryz.f297),(317,Go.Proofs.Tryz.f317),(293,Go.Proofs.Tryz.f293)] → c = (loopsL Go.Proofs.Tryz.f200 [(229,Go.Proofs.Tryz.f229),(259,Go.Proofs.Tryz.f259),(260,Go.Proofs.Tryz.f260),(294,Go.Proofs.Tryz.f294),(295,Go.Proofs.Tryz.f295),(296,Go.Proofs.Tryz.f296),(297,Go.Proofs.Tryz.f297),(317,Go.Proofs.Tryz.f317),(293,Go.Proofs.Tryz.f293)]).getD 0 .skip ∨ c = (loopsL Go.Proofs.Tryz.f200 [(229,Go.Proofs.Tryz.f229),(259,Go.Proofs.Tryz.f259),(260,Go.Proofs.Tryz.f260),(294,Go.Proofs.Tryz.f294),(295,Go.Proofs.Tryz.f295),(296,Go.Proofs.Tryz.f296),(297,Go.Proofs.Tryz.f297),(317,Go.Proofs.Tryz.f317),(293,Go.Proofs.Tryz.f293)]).getD 1 .skip:=by
  intro c hc; rw [C3.cs_eq] at hc; simpa only [List.mem_cons,List.not_mem_nil,or_false] using hc
 refine ⟨?_,?_,fun c hc=>T4 c hc⟩
 ·intro c s k r hc h
  rcases cases c hc with rfl | rfl
  ·have h':C3.q0 0 s k = some r:=Eq.trans (by kernel_rfl) h
   unfold C3.q0 at h'
   split at h'
   ·rename_i x hx
    have h2:(none:Option (Args [SI])) = some r:=Eq.trans (by kernel_rfl) h'
    cases h2
   cases h'
  ·have h':C3.q1 0 s k = some r:=Eq.trans (by kernel_rfl) h
   unfold C3.q1 at h'
   split at h'
   ·rename_i x hx
    have h2:(none:Option (Args [SI])) = some r:=Eq.trans (by kernel_rfl) h'
    cases h2
   cases h'
 ·intro m c s k r hc h
  rcases cases c hc with rfl | rfl
  ·have h':C3.q0 (m + 1) s k = some r:=Eq.trans (by kernel_rfl) h
   unfold C3.q0 at h'
   split at h'
   ·rename_i x hx
    rw [O8 hx]
    exact Eq.trans (by kernel_rfl) h'
   cases h'
  ·have h':C3.q1 (m + 1) s k = some r:=Eq.trans (by kernel_rfl) h
   unfold C3.q1 at h'
   split at h'
   ·rename_i x hx
    rw [O8 hx]
    exact Eq.trans (by kernel_rfl) h'
   cases h'
theorem C3.eq (m:Nat) (x0:ByteArray):runS C3.E Go.Proofs.Tryz.f200 C3.sg (C3.L m) (x0,()) = C3.raw m x0:=by kernel_rfl
theorem C3.told (h:Base0) (hs:AllT C3.ls):Told 200 C3.sg :=
 T5 h fn200 (il:=[(229,Go.Proofs.Tryz.f229),(259,Go.Proofs.Tryz.f259),(260,Go.Proofs.Tryz.f260),(294,Go.Proofs.Tryz.f294),(295,Go.Proofs.Tryz.f295),(296,Go.Proofs.Tryz.f296),(297,Go.Proofs.Tryz.f297),(317,Go.Proofs.Tryz.f317),(293,Go.Proofs.Tryz.f293)]) (pl:=[]) hs ⟨fn229,⟨fn259,⟨fn260,⟨fn294,⟨fn295,⟨fn296,⟨fn297,⟨fn317,⟨fn293,trivial⟩⟩⟩⟩⟩⟩⟩⟩⟩ trivial (L:=C3.L) C3.good (fun x=>C3.eq fuel x.1)
abbrev R0.ls:List (Nat × Sig):=[(196,V8.sg),(197,strings_Cut.sg),(198,a94.sg),(199,E4.sg),(200,C3.sg)]
def R0.E:Env:=mkE R0.ls
def R0.raw (m:Nat) (x0:Int):Option (Args [SI]):=bif decide (x0 < (0:Int)) then (some (([x0],()))) else (bif decide (x0 ≥ (44032:Int)) then (bif decide (x0 ≤ (55203:Int)) then (let y1:=V8.val (i64.wrap (x0 - (44032:Int))); bif V8.dom (i64.wrap (x0 - (44032:Int))) then (some y1) else none) else (bif decide (x0 ≥ (65281:Int)) then (bif decide (x0 ≤ (65374:Int)) then (some (([i64.wrap (x0 - (65248:Int))],()))) else (let y2:=E4.val x0; bif E4.dom x0 then (bif decide ((1:Nat) + ByteArray.size y2.1 ≤ lim) then (bif decide ((ByteArray.mk #[(32:UInt8)] ++ y2.1).size + (1:Nat) ≤ lim) then (bif !(Go.Lib.cut tabB.data.toList (ByteArray.mk #[(32:UInt8)] ++ y2.1 ++ ByteArray.mk #[(61:UInt8)]).data.toList).2.2 then (some (([x0],()))) else (let z3:=ByteArray.mk (Go.Lib.cut tabB.data.toList (ByteArray.mk #[(32:UInt8)] ++ y2.1 ++ ByteArray.mk #[(61:UInt8)]).data.toList).2.1.toArray; let y4:=strings_Cut.val z3 (ByteArray.mk #[(32:UInt8)]); bif strings_Cut.dom z3 (ByteArray.mk #[(32:UInt8)]) then (let y5:=C3.val y4.1; bif C3.dom y4.1 then (some y5) else none) else none)) else (none)) else (none)) else none)) else (let y6:=E4.val x0; bif E4.dom x0 then (bif decide ((1:Nat) + ByteArray.size y6.1 ≤ lim) then (bif decide ((ByteArray.mk #[(32:UInt8)] ++ y6.1).size + (1:Nat) ≤ lim) then (bif !(Go.Lib.cut tabB.data.toList (ByteArray.mk #[(32:UInt8)] ++ y6.1 ++ ByteArray.mk #[(61:UInt8)]).data.toList).2.2 then (some (([x0],()))) else (let z7:=ByteArray.mk (Go.Lib.cut tabB.data.toList (ByteArray.mk #[(32:UInt8)] ++ y6.1 ++ ByteArray.mk #[(61:UInt8)]).data.toList).2.1.toArray; let y8:=strings_Cut.val z7 (ByteArray.mk #[(32:UInt8)]); bif strings_Cut.dom z7 (ByteArray.mk #[(32:UInt8)]) then (let y9:=C3.val y8.1; bif C3.dom y8.1 then (some y9) else none) else none)) else (none)) else (none)) else none))) else (bif decide (x0 ≥ (65281:Int)) then (bif decide (x0 ≤ (65374:Int)) then (some (([i64.wrap (x0 - (65248:Int))],()))) else (let y10:=E4.val x0; bif E4.dom x0 then (bif decide ((1:Nat) + ByteArray.size y10.1 ≤ lim) then (bif decide ((ByteArray.mk #[(32:UInt8)] ++ y10.1).size + (1:Nat) ≤ lim) then (bif !(Go.Lib.cut tabB.data.toList (ByteArray.mk #[(32:UInt8)] ++ y10.1 ++ ByteArray.mk #[(61:UInt8)]).data.toList).2.2 then (some (([x0],()))) else (let z11:=ByteArray.mk (Go.Lib.cut tabB.data.toList (ByteArray.mk #[(32:UInt8)] ++ y10.1 ++ ByteArray.mk #[(61:UInt8)]).data.toList).2.1.toArray; let y12:=strings_Cut.val z11 (ByteArray.mk #[(32:UInt8)]); bif strings_Cut.dom z11 (ByteArray.mk #[(32:UInt8)]) then (let y13:=C3.val y12.1; bif C3.dom y12.1 then (some y13) else none) else none)) else (none)) else (none)) else none)) else (let y14:=E4.val x0; bif E4.dom x0 then (bif decide ((1:Nat) + ByteArray.size y14.1 ≤ lim) then (bif decide ((ByteArray.mk #[(32:UInt8)] ++ y14.1).size + (1:Nat) ≤ lim) then (bif !(Go.Lib.cut tabB.data.toList (ByteArray.mk #[(32:UInt8)] ++ y14.1 ++ ByteArray.mk #[(61:UInt8)]).data.toList).2.2 then (some (([x0],()))) else (let z15:=ByteArray.mk (Go.Lib.cut tabB.data.toList (ByteArray.mk #[(32:UInt8)] ++ y14.1 ++ ByteArray.mk #[(61:UInt8)]).data.toList).2.1.toArray; let y16:=strings_Cut.val z15 (ByteArray.mk #[(32:UInt8)]); bif strings_Cut.dom z15 (ByteArray.mk #[(32:UInt8)]) then (let y17:=C3.val y16.1; bif C3.dom y16.1 then (some y17) else none) else none)) else (none)) else (none)) else none)))
def R0.val (x0:Int):=(R0.raw fuel x0).getD (dfltA [SI])
def R0.dom (x0:Int):=(R0.raw fuel x0).isSome
def R0.sg:Sig:=⟨[I6],[SI],false,fun x=>R0.dom x.1,fun x=>R0.val x.1⟩
theorem R0.eq (m:Nat) (x0:Int):runS R0.E Go.Proofs.Tryz.f175 R0.sg (nL m) (x0,()) = R0.raw m x0:=by kernel_rfl
theorem R0.told(h:Base0) (hs:AllT R0.ls):Told 175 R0.sg :=
 told_n h fn175 hs (fun x=>R0.eq fuel x.1)
end Pt
end
section
open Go Go.Am
namespace Pt
set_option maxRecDepth 100000
def R9.E:Env:=mkE []
def R9.raw (m:Nat) (x0:Int) (x1:Int) (x2:Int):Option (Args [.bool]):=bif decide (x0 ≥ x1) then (some ((decide (x0 ≤ x2),()))) else (some ((false,())))
def R9.val (x0:Int) (x1:Int) (x2:Int):=(R9.raw fuel x0 x1 x2).getD (dfltA [.bool])
def R9.dom (x0:Int) (x1:Int) (x2:Int):=(R9.raw fuel x0 x1 x2).isSome
def R9.sg:Sig:=⟨[I6,I6,I6],[.bool],false,fun x=>R9.dom x.1 x.2.1 x.2.2.1,fun x=>R9.val x.1 x.2.1 x.2.2.1⟩
theorem R9.eq (m:Nat) (x0:Int) (x1:Int) (x2:Int):runS R9.E Go.Proofs.Tryz.f246 R9.sg (nL m) (x0,(x1,(x2,()))) = R9.raw m x0 x1 x2:=by kernel_rfl
theorem R9.told(h:Base0):Told 246 R9.sg :=
 told_n h fn246 (l:=[]) trivial (fun x=>R9.eq fuel x.1 x.2.1 x.2.2.1)
def a74.E:Env:=mkE []
def a74.raw (m:Nat) :Option (Args [(.slice Y3)]):=let z1:=[(((111:Int),(770:Int),()),(244:Int),()),(((111:Int),(771:Int),()),(245:Int),()),(((111:Int),(772:Int),()),(333:Int),())]; let z2:=(((110:Int),(807:Int),()),(326:Int),()) :: (((111:Int),(768:Int),()),(242:Int),()) :: (((111:Int),(769:Int),()),(243:Int),()) :: z1; let z3:=(((110:Int),(769:Int),()),(324:Int),()) :: (((110:Int),(771:Int),()),(241:Int),()) :: (((110:Int),(780:Int),()),(328:Int),()) :: z2; let z4:=(((108:Int),(769:Int),()),(314:Int),()) :: (((108:Int),(780:Int),()),(318:Int),()) :: (((108:Int),(807:Int),()),(316:Int),()) :: z3; let z5:=(((105:Int),(808:Int),()),(303:Int),()) :: (((106:Int),(770:Int),()),(309:Int),()) :: (((107:Int),(807:Int),()),(311:Int),()) :: z4; let z6:=(((105:Int),(776:Int),()),(239:Int),()) :: (((105:Int),(777:Int),()),(7881:Int),()) :: (((105:Int),(803:Int),()),(7883:Int),()) :: z5; let z7:=(((105:Int),(771:Int),()),(297:Int),()) :: (((105:Int),(772:Int),()),(299:Int),()) :: (((105:Int),(774:Int),()),(301:Int),()) :: z6; let z8:=(((105:Int),(768:Int),()),(236:Int),()) :: (((105:Int),(769:Int),()),(237:Int),()) :: (((105:Int),(770:Int),()),(238:Int),()) :: z7; let z9:=(((103:Int),(775:Int),()),(289:Int),()) :: (((103:Int),(807:Int),()),(291:Int),()) :: (((104:Int),(770:Int),()),(293:Int),()) :: z8; let z10:=(((101:Int),(808:Int),()),(281:Int),()) :: (((103:Int),(770:Int),()),(285:Int),()) :: (((103:Int),(774:Int),()),(287:Int),()) :: z9; let z11:=(((101:Int),(777:Int),()),(7867:Int),()) :: (((101:Int),(780:Int),()),(283:Int),()) :: (((101:Int),(803:Int),()),(7865:Int),()) :: z10; let z12:=(((101:Int),(774:Int),()),(277:Int),()) :: (((101:Int),(775:Int),()),(279:Int),()) :: (((101:Int),(776:Int),()),(235:Int),()) :: z11; let z13:=(((101:Int),(770:Int),()),(234:Int),()) :: (((101:Int),(771:Int),()),(7869:Int),()) :: (((101:Int),(772:Int),()),(275:Int),()) :: z12; let z14:=(((100:Int),(780:Int),()),(271:Int),()) :: (((101:Int),(768:Int),()),(232:Int),()) :: (((101:Int),(769:Int),()),(233:Int),()) :: z13; let z15:=(((99:Int),(775:Int),()),(267:Int),()) :: (((99:Int),(780:Int),()),(269:Int),()) :: (((99:Int),(807:Int),()),(231:Int),()) :: z14; let z16:=(((97:Int),(808:Int),()),(261:Int),()) :: (((99:Int),(769:Int),()),(263:Int),()) :: (((99:Int),(770:Int),()),(265:Int),()) :: z15; let z17:=(((97:Int),(777:Int),()),(7843:Int),()) :: (((97:Int),(778:Int),()),(229:Int),()) :: (((97:Int),(803:Int),()),(7841:Int),()) :: z16; let z18:=(((97:Int),(772:Int),()),(257:Int),()) :: (((97:Int),(774:Int),()),(259:Int),()) :: (((97:Int),(776:Int),()),(228:Int),()) :: z17; let z19:=(((97:Int),(769:Int),()),(225:Int),()) :: (((97:Int),(770:Int),()),(226:Int),()) :: (((97:Int),(771:Int),()),(227:Int),()) :: z18; let z20:=(((90:Int),(775:Int),()),(379:Int),()) :: (((90:Int),(780:Int),()),(381:Int),()) :: (((97:Int),(768:Int),()),(224:Int),()) :: z19; let z21:=(((89:Int),(777:Int),()),(7926:Int),()) :: (((89:Int),(803:Int),()),(7924:Int),()) :: (((90:Int),(769:Int),()),(377:Int),()) :: z20; let z22:=(((89:Int),(770:Int),()),(374:Int),()) :: (((89:Int),(771:Int),()),(7928:Int),()) :: (((89:Int),(776:Int),()),(376:Int),()) :: z21; let z23:=(((87:Int),(770:Int),()),(372:Int),()) :: (((89:Int),(768:Int),()),(7922:Int),()) :: (((89:Int),(769:Int),()),(221:Int),()) :: z22; let z24:=(((85:Int),(795:Int),()),(431:Int),()) :: (((85:Int),(803:Int),()),(7908:Int),()) :: (((85:Int),(808:Int),()),(370:Int),()) :: z23; let z25:=(((85:Int),(777:Int),()),(7910:Int),()) :: (((85:Int),(778:Int),()),(366:Int),()) :: (((85:Int),(779:Int),()),(368:Int),()) :: z24; let z26:=(((85:Int),(772:Int),()),(362:Int),()) :: (((85:Int),(774:Int),()),(364:Int),()) :: (((85:Int),(776:Int),()),(220:Int),()) :: z25; let z27:=(((85:Int),(769:Int),()),(218:Int),()) :: (((85:Int),(770:Int),()),(219:Int),()) :: (((85:Int),(771:Int),()),(360:Int),()) :: z26; let z28:=(((84:Int),(780:Int),()),(356:Int),()) :: (((84:Int),(807:Int),()),(354:Int),()) :: (((85:Int),(768:Int),()),(217:Int),()) :: z27; let z29:=(((83:Int),(770:Int),()),(348:Int),()) :: (((83:Int),(780:Int),()),(352:Int),()) :: (((83:Int),(807:Int),()),(350:Int),()) :: z28; let z30:=(((82:Int),(780:Int),()),(344:Int),()) :: (((82:Int),(807:Int),()),(342:Int),()) :: (((83:Int),(769:Int),()),(346:Int),()) :: z29; let z31:=(((79:Int),(795:Int),()),(416:Int),()) :: (((79:Int),(803:Int),()),(7884:Int),()) :: (((82:Int),(769:Int),()),(340:Int),()) :: z30; let z32:=(((79:Int),(776:Int),()),(214:Int),()) :: (((79:Int),(777:Int),()),(7886:Int),()) :: (((79:Int),(779:Int),()),(336:Int),()) :: z31; let z33:=(((79:Int),(771:Int),()),(213:Int),()) :: (((79:Int),(772:Int),()),(332:Int),()) :: (((79:Int),(774:Int),()),(334:Int),()) :: z32; let z34:=(((79:Int),(768:Int),()),(210:Int),()) :: (((79:Int),(769:Int),()),(211:Int),()) :: (((79:Int),(770:Int),()),(212:Int),()) :: z33; let z35:=(((78:Int),(771:Int),()),(209:Int),()) :: (((78:Int),(780:Int),()),(327:Int),()) :: (((78:Int),(807:Int),()),(325:Int),()) :: z34; let z36:=(((76:Int),(780:Int),()),(317:Int),()) :: (((76:Int),(807:Int),()),(315:Int),()) :: (((78:Int),(769:Int),()),(323:Int),()) :: z35; let z37:=(((74:Int),(770:Int),()),(308:Int),()) :: (((75:Int),(807:Int),()),(310:Int),()) :: (((76:Int),(769:Int),()),(313:Int),()) :: z36; let z38:=(((73:Int),(777:Int),()),(7880:Int),()) :: (((73:Int),(803:Int),()),(7882:Int),()) :: (((73:Int),(808:Int),()),(302:Int),()) :: z37; let z39:=(((73:Int),(774:Int),()),(300:Int),()) :: (((73:Int),(775:Int),()),(304:Int),()) :: (((73:Int),(776:Int),()),(207:Int),()) :: z38; let z40:=(((73:Int),(770:Int),()),(206:Int),()) :: (((73:Int),(771:Int),()),(296:Int),()) :: (((73:Int),(772:Int),()),(298:Int),()) :: z39; let z41:=(((72:Int),(770:Int),()),(292:Int),()) :: (((73:Int),(768:Int),()),(204:Int),()) :: (((73:Int),(769:Int),()),(205:Int),()) :: z40; let z42:=(((71:Int),(774:Int),()),(286:Int),()) :: (((71:Int),(775:Int),()),(288:Int),()) :: (((71:Int),(807:Int),()),(290:Int),()) :: z41; let z43:=(((69:Int),(803:Int),()),(7864:Int),()) :: (((69:Int),(808:Int),()),(280:Int),()) :: (((71:Int),(770:Int),()),(284:Int),()) :: z42; let z44:=(((69:Int),(776:Int),()),(203:Int),()) :: (((69:Int),(777:Int),()),(7866:Int),()) :: (((69:Int),(780:Int),()),(282:Int),()) :: z43; let z45:=(((69:Int),(772:Int),()),(274:Int),()) :: (((69:Int),(774:Int),()),(276:Int),()) :: (((69:Int),(775:Int),()),(278:Int),()) :: z44; let z46:=(((69:Int),(769:Int),()),(201:Int),()) :: (((69:Int),(770:Int),()),(202:Int),()) :: (((69:Int),(771:Int),()),(7868:Int),()) :: z45; let z47:=(((67:Int),(807:Int),()),(199:Int),()) :: (((68:Int),(780:Int),()),(270:Int),()) :: (((69:Int),(768:Int),()),(200:Int),()) :: z46; let z48:=(((67:Int),(770:Int),()),(264:Int),()) :: (((67:Int),(775:Int),()),(266:Int),()) :: (((67:Int),(780:Int),()),(268:Int),()) :: z47; let z49:=(((65:Int),(803:Int),()),(7840:Int),()) :: (((65:Int),(808:Int),()),(260:Int),()) :: (((67:Int),(769:Int),()),(262:Int),()) :: z48; let z50:=(((65:Int),(776:Int),()),(196:Int),()) :: (((65:Int),(777:Int),()),(7842:Int),()) :: (((65:Int),(778:Int),()),(197:Int),()) :: z49; let z51:=(((65:Int),(771:Int),()),(195:Int),()) :: (((65:Int),(772:Int),()),(256:Int),()) :: (((65:Int),(774:Int),()),(258:Int),()) :: z50; let z52:=(((65:Int),(768:Int),()),(192:Int),()) :: (((65:Int),(769:Int),()),(193:Int),()) :: (((65:Int),(770:Int),()),(194:Int),()) :: z51; some ((z52,()))
def a74.val :=(a74.raw fuel ).getD (dfltA [(.slice Y3)])
def a74.dom :=(a74.raw fuel ).isSome
def a74.sg:Sig:=⟨[],[(.slice Y3)],false,fun x=>a74.dom ,fun x=>a74.val ⟩
theorem a74.eq (m:Nat) :runS a74.E Go.Proofs.Tryz.f270 a74.sg (nL m) () = a74.raw m :=by kernel_rfl
theorem a74.told(h:Base0):Told 270 a74.sg :=
 told_n h fn270 (l:=[]) trivial (fun x=>a74.eq fuel )
end Pt
end
section
open Go Go.Am
open IntKind (i64 u64 u8 i32 u32)
namespace Pt
set_option maxRecDepth 100000
def O2.E:Env:=⟨T,sigL [],inlL [],annL [(9003,⟨some [3,6,7,8],[],[],some [2,3]⟩)],[],primL [],globL⟩
def O2.l0 (K0:Int → Int → Option (Args [I6])) (K1:Int → Option (Args [I6])):Nat → Int → (Ty.den SI) → Int → Int → Option (Args [I6])
 | 0,_,_,_,_=>none
 | m + 1,v1,v2,v3,v4=>bif decide (v4 < v3) then (bif decide ((0:Int) ≤ v4) && decide (v4 < (↑(List.length v2):Int)) then (bif List.getD v2 (Int.toNat v4) (0:Int) != v1 then (K0 (List.getD v2 (Int.toNat v4) (0:Int)) v1) else (O2.l0 K0 K1 m v1 v2 v3 (i64.wrap (v4 + (1:Int))))) else (none)) else (K1 v1)
def O2.l0.t:St:=⟨jka 9 [jk,jk,jk,zv I6,jk,jk,zv SI,zv I6,zv I6],[],0⟩
def O2.l0.e0:St:=⟨jka 14 [jk,jk,zv I6,zv I6],[],0⟩
def O2.l0.e1:St:=⟨jka 14 [jk,jk,jk,zv I6],[],0⟩
def O2.raw (m:Nat) (x0:(Ty.den SI)):Option (Args [I6]):=O2.l0 (fun o5 o6=>some ((o5,()))) (fun o7=>some ((o7,()))) m ((0:Int)) x0 ((↑(List.length x0):Int)) ((0:Int))
def O2.val (x0:(Ty.den SI)):=(O2.raw fuel x0).getD (dfltA [I6])
def O2.dom (x0:(Ty.den SI)):=(O2.raw fuel x0).isSome
def O2.sg:Sig:=⟨[SI],[I6],false,fun x=>O2.dom x.1,fun x=>O2.val x.1⟩
noncomputable def O2.q0 (m:Nat) (s:St) (k:X → St → Option (Args [I6])):Option (Args [I6]) :=
 match unSt O2.l0.t [I6,SI,I6,I6] s with
  | some x=>O2.l0 (fun o0 o1=>k .ret (mkSt O2.l0.e0 [I6,I6] (o0,(o1,())))) (fun o0=>k (.exit 0) (mkSt O2.l0.e1 [I6] (o0,()))) m x.1 x.2.1 x.2.2.1 x.2.2.2.1
  | none=>none
noncomputable def O2.L (m:Nat) (c:Code) (s:St) (k:X → St → Option (Args [I6])):Option (Args [I6]) :=
 match O9 c with
 | some r=>bif Nat.beq r 9003 then (O2.q0 m s k) else none
 | none=>none
theorem O2.cs_eq:loopsL Go.Proofs.Tryz.f302 [] = [(loopsL Go.Proofs.Tryz.f302 []).getD 0 .skip]:=by kernel_rfl
theorem O2.good:Good (O2.E) (fun c=>c ∈ loopsL Go.Proofs.Tryz.f302 []) O2.L:=by
 have cases:∀ c,c ∈ loopsL Go.Proofs.Tryz.f302 [] → c = (loopsL Go.Proofs.Tryz.f302 []).getD 0 .skip:=by
  intro c hc; rw [O2.cs_eq] at hc; simpa only [List.mem_cons,List.not_mem_nil,or_false] using hc
 refine ⟨?_,?_,fun c hc=>T4 c hc⟩
 ·intro c s k r hc h
  rcases cases c hc with rfl
  ·have h':O2.q0 0 s k = some r:=Eq.trans (by kernel_rfl) h
   unfold O2.q0 at h'
   split at h'
   ·rename_i x hx
    have h2:(none:Option (Args [I6])) = some r:=Eq.trans (by kernel_rfl) h'
    cases h2
   cases h'
 ·intro m c s k r hc h
  rcases cases c hc with rfl
  ·have h':O2.q0 (m + 1) s k = some r:=Eq.trans (by kernel_rfl) h
   unfold O2.q0 at h'
   split at h'
   ·rename_i x hx
    rw [O8 hx]
    exact Eq.trans (by kernel_rfl) h'
   cases h'
theorem O2.eq (m:Nat) (x0:(Ty.den SI)):runS O2.E Go.Proofs.Tryz.f302 O2.sg (O2.L m) (x0,()) = O2.raw m x0:=by kernel_rfl
theorem O2.told (h:Base0):Told 302 O2.sg :=
 T5 h fn302 (l:=[]) (il:=[]) (pl:=[]) trivial trivial trivial (L:=O2.L) O2.good (fun x=>O2.eq fuel x.1)
end Pt
end
section
open Go Go.Am
namespace Pt
set_option maxRecDepth 100000
abbrev Y4.ls:List (Nat × Sig):=[(100,L2.sg),(302,O2.sg)]
def Y4.E:Env:=mkE Y4.ls
def Y4.raw (m:Nat) (x0:(Ty.den O3)) (x1:(Ty.den O3)):Option (Args [I6]):=let y1:=L2.val x0.1 x1.1; bif L2.dom x0.1 x1.1 then (let y2:=L2.val x0.2.1 x1.2.1; bif L2.dom x0.2.1 x1.2.1 then (let y3:=O2.val ([y1.1,y2.1]); bif O2.dom ([y1.1,y2.1]) then (some y3) else none) else none) else none
def Y4.val (x0:(Ty.den O3)) (x1:(Ty.den O3)):=(Y4.raw fuel x0 x1).getD (dfltA [I6])
def Y4.dom (x0:(Ty.den O3)) (x1:(Ty.den O3)):=(Y4.raw fuel x0 x1).isSome
def Y4.sg:Sig:=⟨[O3,O3],[I6],false,fun x=>Y4.dom x.1 x.2.1,fun x=>Y4.val x.1 x.2.1⟩
theorem Y4.eq (m:Nat) (x0:(Ty.den O3)) (x1:(Ty.den O3)):runS Y4.E Go.Proofs.Tryz.f271 Y4.sg (nL m) (x0,(x1,())) = Y4.raw m x0 x1:=by kernel_rfl
theorem Y4.told(h:Base0) (hs:AllT Y4.ls):Told 271 Y4.sg :=
 told_n h fn271 hs (fun x=>Y4.eq fuel x.1 x.2.1)
def a62.E:Env:=mkE []
def a62.raw (m:Nat) :Option (Args [(.slice Y3)]):=let z1:=[(((12486:Int),(12441:Int),()),(12487:Int),()),(((12488:Int),(12441:Int),()),(12489:Int),()),(((12495:Int),(12441:Int),()),(12496:Int),())]; let z2:=(((12479:Int),(12441:Int),()),(12480:Int),()) :: (((12481:Int),(12441:Int),()),(12482:Int),()) :: (((12484:Int),(12441:Int),()),(12485:Int),()) :: z1; let z3:=(((12473:Int),(12441:Int),()),(12474:Int),()) :: (((12475:Int),(12441:Int),()),(12476:Int),()) :: (((12477:Int),(12441:Int),()),(12478:Int),()) :: z2; let z4:=(((12467:Int),(12441:Int),()),(12468:Int),()) :: (((12469:Int),(12441:Int),()),(12470:Int),()) :: (((12471:Int),(12441:Int),()),(12472:Int),()) :: z3; let z5:=(((12461:Int),(12441:Int),()),(12462:Int),()) :: (((12463:Int),(12441:Int),()),(12464:Int),()) :: (((12465:Int),(12441:Int),()),(12466:Int),()) :: z4; let z6:=(((12392:Int),(12441:Int),()),(12393:Int),()) :: (((12399:Int),(12441:Int),()),(12400:Int),()) :: (((12459:Int),(12441:Int),()),(12460:Int),()) :: z5; let z7:=(((12385:Int),(12441:Int),()),(12386:Int),()) :: (((12388:Int),(12441:Int),()),(12389:Int),()) :: (((12390:Int),(12441:Int),()),(12391:Int),()) :: z6; let z8:=(((12379:Int),(12441:Int),()),(12380:Int),()) :: (((12381:Int),(12441:Int),()),(12382:Int),()) :: (((12383:Int),(12441:Int),()),(12384:Int),()) :: z7; let z9:=(((12373:Int),(12441:Int),()),(12374:Int),()) :: (((12375:Int),(12441:Int),()),(12376:Int),()) :: (((12377:Int),(12441:Int),()),(12378:Int),()) :: z8; let z10:=(((12367:Int),(12441:Int),()),(12368:Int),()) :: (((12369:Int),(12441:Int),()),(12370:Int),()) :: (((12371:Int),(12441:Int),()),(12372:Int),()) :: z9; let z11:=(((7885:Int),(770:Int),()),(7897:Int),()) :: (((12363:Int),(12441:Int),()),(12364:Int),()) :: (((12365:Int),(12441:Int),()),(12366:Int),()) :: z10; let z12:=(((7864:Int),(770:Int),()),(7878:Int),()) :: (((7865:Int),(770:Int),()),(7879:Int),()) :: (((7884:Int),(770:Int),()),(7896:Int),()) :: z11; let z13:=(((7840:Int),(774:Int),()),(7862:Int),()) :: (((7841:Int),(770:Int),()),(7853:Int),()) :: (((7841:Int),(774:Int),()),(7863:Int),()) :: z12; let z14:=(((970:Int),(769:Int),()),(912:Int),()) :: (((971:Int),(769:Int),()),(944:Int),()) :: (((7840:Int),(770:Int),()),(7852:Int),()) :: z13; let z15:=(((965:Int),(769:Int),()),(973:Int),()) :: (((965:Int),(776:Int),()),(971:Int),()) :: (((969:Int),(769:Int),()),(974:Int),()) :: z14; let z16:=(((953:Int),(769:Int),()),(943:Int),()) :: (((953:Int),(776:Int),()),(970:Int),()) :: (((959:Int),(769:Int),()),(972:Int),()) :: z15; let z17:=(((945:Int),(769:Int),()),(940:Int),()) :: (((949:Int),(769:Int),()),(941:Int),()) :: (((951:Int),(769:Int),()),(942:Int),()) :: z16; let z18:=(((933:Int),(769:Int),()),(910:Int),()) :: (((933:Int),(776:Int),()),(939:Int),()) :: (((937:Int),(769:Int),()),(911:Int),()) :: z17; let z19:=(((921:Int),(769:Int),()),(906:Int),()) :: (((921:Int),(776:Int),()),(938:Int),()) :: (((927:Int),(769:Int),()),(908:Int),()) :: z18; let z20:=(((913:Int),(769:Int),()),(902:Int),()) :: (((917:Int),(769:Int),()),(904:Int),()) :: (((919:Int),(769:Int),()),(905:Int),()) :: z19; let z21:=(((432:Int),(771:Int),()),(7919:Int),()) :: (((432:Int),(777:Int),()),(7917:Int),()) :: (((432:Int),(803:Int),()),(7921:Int),()) :: z20; let z22:=(((431:Int),(803:Int),()),(7920:Int),()) :: (((432:Int),(768:Int),()),(7915:Int),()) :: (((432:Int),(769:Int),()),(7913:Int),()) :: z21; let z23:=(((431:Int),(769:Int),()),(7912:Int),()) :: (((431:Int),(771:Int),()),(7918:Int),()) :: (((431:Int),(777:Int),()),(7916:Int),()) :: z22; let z24:=(((417:Int),(777:Int),()),(7903:Int),()) :: (((417:Int),(803:Int),()),(7907:Int),()) :: (((431:Int),(768:Int),()),(7914:Int),()) :: z23; let z25:=(((417:Int),(768:Int),()),(7901:Int),()) :: (((417:Int),(769:Int),()),(7899:Int),()) :: (((417:Int),(771:Int),()),(7905:Int),()) :: z24; let z26:=(((416:Int),(771:Int),()),(7904:Int),()) :: (((416:Int),(777:Int),()),(7902:Int),()) :: (((416:Int),(803:Int),()),(7906:Int),()) :: z25; let z27:=(((259:Int),(777:Int),()),(7859:Int),()) :: (((416:Int),(768:Int),()),(7900:Int),()) :: (((416:Int),(769:Int),()),(7898:Int),()) :: z26; let z28:=(((259:Int),(768:Int),()),(7857:Int),()) :: (((259:Int),(769:Int),()),(7855:Int),()) :: (((259:Int),(771:Int),()),(7861:Int),()) :: z27; let z29:=(((258:Int),(769:Int),()),(7854:Int),()) :: (((258:Int),(771:Int),()),(7860:Int),()) :: (((258:Int),(777:Int),()),(7858:Int),()) :: z28; let z30:=(((244:Int),(771:Int),()),(7895:Int),()) :: (((244:Int),(777:Int),()),(7893:Int),()) :: (((258:Int),(768:Int),()),(7856:Int),()) :: z29; let z31:=(((234:Int),(777:Int),()),(7875:Int),()) :: (((244:Int),(768:Int),()),(7891:Int),()) :: (((244:Int),(769:Int),()),(7889:Int),()) :: z30; let z32:=(((234:Int),(768:Int),()),(7873:Int),()) :: (((234:Int),(769:Int),()),(7871:Int),()) :: (((234:Int),(771:Int),()),(7877:Int),()) :: z31; let z33:=(((226:Int),(769:Int),()),(7845:Int),()) :: (((226:Int),(771:Int),()),(7851:Int),()) :: (((226:Int),(777:Int),()),(7849:Int),()) :: z32; let z34:=(((212:Int),(771:Int),()),(7894:Int),()) :: (((212:Int),(777:Int),()),(7892:Int),()) :: (((226:Int),(768:Int),()),(7847:Int),()) :: z33; let z35:=(((202:Int),(777:Int),()),(7874:Int),()) :: (((212:Int),(768:Int),()),(7890:Int),()) :: (((212:Int),(769:Int),()),(7888:Int),()) :: z34; let z36:=(((202:Int),(768:Int),()),(7872:Int),()) :: (((202:Int),(769:Int),()),(7870:Int),()) :: (((202:Int),(771:Int),()),(7876:Int),()) :: z35; let z37:=(((194:Int),(769:Int),()),(7844:Int),()) :: (((194:Int),(771:Int),()),(7850:Int),()) :: (((194:Int),(777:Int),()),(7848:Int),()) :: z36; let z38:=(((122:Int),(775:Int),()),(380:Int),()) :: (((122:Int),(780:Int),()),(382:Int),()) :: (((194:Int),(768:Int),()),(7846:Int),()) :: z37; let z39:=(((121:Int),(777:Int),()),(7927:Int),()) :: (((121:Int),(803:Int),()),(7925:Int),()) :: (((122:Int),(769:Int),()),(378:Int),()) :: z38; let z40:=(((121:Int),(770:Int),()),(375:Int),()) :: (((121:Int),(771:Int),()),(7929:Int),()) :: (((121:Int),(776:Int),()),(255:Int),()) :: z39; let z41:=(((119:Int),(770:Int),()),(373:Int),()) :: (((121:Int),(768:Int),()),(7923:Int),()) :: (((121:Int),(769:Int),()),(253:Int),()) :: z40; let z42:=(((117:Int),(795:Int),()),(432:Int),()) :: (((117:Int),(803:Int),()),(7909:Int),()) :: (((117:Int),(808:Int),()),(371:Int),()) :: z41; let z43:=(((117:Int),(777:Int),()),(7911:Int),()) :: (((117:Int),(778:Int),()),(367:Int),()) :: (((117:Int),(779:Int),()),(369:Int),()) :: z42; let z44:=(((117:Int),(772:Int),()),(363:Int),()) :: (((117:Int),(774:Int),()),(365:Int),()) :: (((117:Int),(776:Int),()),(252:Int),()) :: z43; let z45:=(((117:Int),(769:Int),()),(250:Int),()) :: (((117:Int),(770:Int),()),(251:Int),()) :: (((117:Int),(771:Int),()),(361:Int),()) :: z44; let z46:=(((116:Int),(780:Int),()),(357:Int),()) :: (((116:Int),(807:Int),()),(355:Int),()) :: (((117:Int),(768:Int),()),(249:Int),()) :: z45; let z47:=(((115:Int),(770:Int),()),(349:Int),()) :: (((115:Int),(780:Int),()),(353:Int),()) :: (((115:Int),(807:Int),()),(351:Int),()) :: z46; let z48:=(((114:Int),(780:Int),()),(345:Int),()) :: (((114:Int),(807:Int),()),(343:Int),()) :: (((115:Int),(769:Int),()),(347:Int),()) :: z47; let z49:=(((111:Int),(795:Int),()),(417:Int),()) :: (((111:Int),(803:Int),()),(7885:Int),()) :: (((114:Int),(769:Int),()),(341:Int),()) :: z48; let z50:=(((111:Int),(776:Int),()),(246:Int),()) :: (((111:Int),(777:Int),()),(7887:Int),()) :: (((111:Int),(779:Int),()),(337:Int),()) :: z49; some (((((111:Int),(774:Int),()),(335:Int),()) :: z50,()))
def a62.val :=(a62.raw fuel ).getD (dfltA [(.slice Y3)])
def a62.dom :=(a62.raw fuel ).isSome
def a62.sg:Sig:=⟨[],[(.slice Y3)],false,fun x=>a62.dom ,fun x=>a62.val ⟩
theorem a62.eq (m:Nat) :runS a62.E Go.Proofs.Tryz.f272 a62.sg (nL m) () = a62.raw m :=by kernel_rfl
theorem a62.told(h:Base0):Told 272 a62.sg :=
 told_n h fn272 (l:=[]) trivial (fun x=>a62.eq fuel )
abbrev R4.ls:List (Nat × Sig):=[(271,Y4.sg)]
def R4.E:Env:=mkE R4.ls
def R4.raw (m:Nat) (x0:(Ty.den Y3)) (x1:(Ty.den O3)):Option (Args [I6]):=let y1:=Y4.val x0.1 x1; bif Y4.dom x0.1 x1 then (some y1) else none
def R4.val (x0:(Ty.den Y3)) (x1:(Ty.den O3)):=(R4.raw fuel x0 x1).getD (dfltA [I6])
def R4.dom (x0:(Ty.den Y3)) (x1:(Ty.den O3)):=(R4.raw fuel x0 x1).isSome
def R4.sg:Sig:=⟨[Y3,O3],[I6],false,fun x=>R4.dom x.1 x.2.1,fun x=>R4.val x.1 x.2.1⟩
theorem R4.eq (m:Nat) (x0:(Ty.den Y3)) (x1:(Ty.den O3)):runS R4.E Go.Proofs.Tryz.f274 R4.sg (nL m) (x0,(x1,())) = R4.raw m x0 x1:=by kernel_rfl
theorem R4.told(h:Base0) (hs:AllT R4.ls):Told 274 R4.sg :=
 told_n h fn274 hs (fun x=>R4.eq fuel x.1 x.2.1)
end Pt
end
section
open Go Go.Am
open IntKind (i64 u64 u8 i32 u32)
namespace Pt
set_option maxRecDepth 100000
abbrev a8.ls:List (Nat × Sig):=[(274,R4.sg)]
def a8.E:Env:=⟨T,sigL a8.ls,inlL [],annL [(15003,⟨some [0,2,4,8,9,10],[],[(4,O3)],some [0,2,4,8,9]⟩)],[274],primL [],globL⟩
def a8.l0 (K0:(Ty.den (.slice Y3)) → (Ty.den .fn) → Int → Int → (Ty.den O3) → Option (Args [I6,.bool])):Nat → (Ty.den (.slice Y3)) → (Ty.den .fn) → Int → Int → Int → (Ty.den O3) → Option (Args [I6,.bool])
 | 0,_,_,_,_,_,_=>none
 | m + 1,v1,v2,v3,v4,v5,v6=>bif decide (v4 < v5) then (let z7:=i64.wrap ((u64.wrap (i64.wrap (v4 + v5))).fdiv (2:Int)); bif decide ((0:Int) ≤ z7) && decide (z7 < (↑(List.length v1):Int)) then (bif v2 == Option.some (274:Go.FuncId) then (let z8:=List.getD v1 z7.toNat Y3.dflt; let y9:=R4.val z8 v6; bif R4.dom z8 v6 then (bif decide (y9.1 < (0:Int)) then (a8.l0 K0 m v1 v2 v3 (i64.wrap (z7 + (1:Int))) v5 v6) else (a8.l0 K0 m v1 v2 v3 v4 z7 v6)) else none) else (none)) else (none)) else (K0 v1 v2 v3 v4 v6)
def a8.l0.t:St:=⟨jka 38 [zv (.slice Y3),jk,.one (.sc (.lf .fn none)),jk,.one (.sc (.ptr 0 0)),jk,jk,jk,zv I6,zv I6,zv I6],[.cells (dc O3)],0⟩
def a8.l0.e0:St:=⟨jka 39 [zv (.slice Y3),jk,.one (.sc (.lf .fn none)),jk,.one (.sc (.ptr 0 0)),jk,jk,jk,zv I6,zv I6],[.cells (dc O3)],0⟩
def a8.raw (m:Nat) (x0:(Ty.den (.slice Y3))) (x1:(Ty.den O3)) (x2:(Ty.den .fn)):Option (Args [I6,.bool]):=a8.l0 (fun o10 o11 o12 o13 o14=>bif decide (o13 < o12) then (bif decide ((0:Int) ≤ o13) && decide (o13 < (↑(List.length o10):Int)) then (bif o11 == Option.some (274:Go.FuncId) then (let z15:=List.getD o10 (Int.toNat o13) Y3.dflt; let y16:=R4.val z15 o14; bif R4.dom z15 o14 then (some ((o13,y16.1 == (0:Int),()))) else none) else (none)) else (none)) else (some ((o13,false,())))) m x0 x2 ((↑(List.length x0):Int)) ((0:Int)) ((↑(List.length x0):Int)) x1
def a8.val (x0:(Ty.den (.slice Y3))) (x1:(Ty.den O3)) (x2:(Ty.den .fn)):=(a8.raw fuel x0 x1 x2).getD (dfltA [I6,.bool])
def a8.dom (x0:(Ty.den (.slice Y3))) (x1:(Ty.den O3)) (x2:(Ty.den .fn)):=(a8.raw fuel x0 x1 x2).isSome
def a8.sg:Sig:=⟨[(.slice Y3),O3,.fn],[I6,.bool],false,fun x=>a8.dom x.1 x.2.1 x.2.2.1,fun x=>a8.val x.1 x.2.1 x.2.2.1⟩
noncomputable def a8.q0 (m:Nat) (s:St) (k:X → St → Option (Args [I6,.bool])):Option (Args [I6,.bool]) :=
 match unSt a8.l0.t [(.slice Y3),.fn,I6,I6,I6,O3] s with
  | some x=>a8.l0 (fun o0 o1 o2 o3 o4=>k (.exit 0) (mkSt a8.l0.e0 [(.slice Y3),.fn,I6,I6,O3] (o0,(o1,(o2,(o3,(o4,()))))))) m x.1 x.2.1 x.2.2.1 x.2.2.2.1 x.2.2.2.2.1 x.2.2.2.2.2.1
  | none=>none
noncomputable def a8.L (m:Nat) (c:Code) (s:St) (k:X → St → Option (Args [I6,.bool])):Option (Args [I6,.bool]) :=
 match O9 c with
 | some r=>bif Nat.beq r 15003 then (a8.q0 m s k) else none
 | none=>none
theorem a8.cs_eq:loopsL Go.Proofs.Tryz.f273 [] = [(loopsL Go.Proofs.Tryz.f273 []).getD 0 .skip]:=by kernel_rfl
theorem a8.good:Good (a8.E) (fun c=>c ∈ loopsL Go.Proofs.Tryz.f273 []) a8.L:=by
 have cases:∀ c,c ∈ loopsL Go.Proofs.Tryz.f273 [] → c = (loopsL Go.Proofs.Tryz.f273 []).getD 0 .skip:=by
  intro c hc; rw [a8.cs_eq] at hc; simpa only [List.mem_cons,List.not_mem_nil,or_false] using hc
 refine ⟨?_,?_,fun c hc=>T4 c hc⟩
 ·intro c s k r hc h
  rcases cases c hc with rfl
  ·have h':a8.q0 0 s k = some r:=Eq.trans (by kernel_rfl) h
   unfold a8.q0 at h'
   split at h'
   ·rename_i x hx
    have h2:(none:Option (Args [I6,.bool])) = some r:=Eq.trans (by kernel_rfl) h'
    cases h2
   cases h'
 ·intro m c s k r hc h
  rcases cases c hc with rfl
  ·have h':a8.q0 (m + 1) s k = some r:=Eq.trans (by kernel_rfl) h
   unfold a8.q0 at h'
   split at h'
   ·rename_i x hx
    rw [O8 hx]
    exact Eq.trans (by kernel_rfl) h'
   cases h'
theorem a8.eq (m:Nat) (x0:(Ty.den (.slice Y3))) (x1:(Ty.den O3)) (x2:(Ty.den .fn)):runS a8.E Go.Proofs.Tryz.f273 a8.sg (a8.L m) (x0,(x1,(x2,()))) = a8.raw m x0 x1 x2:=by kernel_rfl
theorem a8.told (h:Base0) (hs:AllT a8.ls):Told 273 a8.sg :=
 T5 h fn273 (il:=[]) (pl:=[]) hs trivial trivial (L:=a8.L) a8.good (fun x=>a8.eq fuel x.1 x.2.1 x.2.2.1)
end Pt
end
end
