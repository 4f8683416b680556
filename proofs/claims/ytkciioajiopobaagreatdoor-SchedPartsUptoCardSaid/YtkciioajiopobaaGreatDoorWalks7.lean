/- What functions of the given program compute, each by the abstract machine. Conditions: none beyond the statement's own. -/
import Derived.Test.YtkciioajiopobaaGreatDoorTypes1
import Derived.Test.YtkciioajiopobaaGreatDoorWalks1
import Derived.Test.YtkciioajiopobaaGreatDoorWalks6
set_option linter.all false
noncomputable section
section
open Go Go.Am
open IntKind (i64 u64 u8 i32 u32)
namespace Pt
set_option maxRecDepth 100000
abbrev L0.ls:List (Nat × Sig):=[(138,Y5.sg),(139,a05.sg),(140,a15.sg)]
def L0.E:Env:=⟨T,sigL L0.ls,inlL [],annL [(52009,⟨some [2,4,49,50,51],[],[(4,a7)],some [2,4]⟩)],[],primL [],globL⟩
def L0.l0 (K0:Bool → Bool → (Ty.den D7) → (Ty.den B1) → Bool → Bool → Int → (Ty.den a7) → (Ty.den SB) → Option (Args [a7,.bool])):Nat → (Ty.den SI) → Int → Int → Bool → Bool → (Ty.den D7) → (Ty.den B1) → Bool → Bool → Int → (Ty.den a7) → (Ty.den SB) → Option (Args [a7,.bool])
 | 0,_,_,_,_,_,_,_,_,_,_,_,_=>none
 | m + 1,v3,v4,v5,v6,v7,v8,v9,v10,v11,v12,v13,v14=>bif decide (v5 < v4) then (bif decide ((0:Int) ≤ v5) && decide (v5 < (↑(List.length v3):Int)) then (let z15:=List.length v14 + [u8.wrap (List.getD v3 (Int.toNat v5) (0:Int))].length; bif decide (z15 * (1:Nat) ≤ (140737488355328:Nat)) && decide (z15 ≤ lim) then (L0.l0 K0 m v3 v4 (i64.wrap (v5 + (1:Int))) v6 v7 v8 v9 v10 v11 v12 v13 (v14 ++ [u8.wrap (List.getD v3 (Int.toNat v5) (0:Int))])) else (none)) else (none)) else (K0 v6 v7 v8 v9 v10 v11 v12 v13 v14)
def L0.l0.t:St:=⟨jka 21 [jk,jk,.one (.sc (.ptr 0 0)),jk,.one (.sc (.ptr 1 0)),jk,jk,jk,jk,jk,jk,jk,jk,jk,jk,jk,jk,jk,jk,jk,jk,jk,jk,jk,jk,jk,jk,jk,jk,jk,jk,jk,jk,jk,jk,jk,jk,jk,jk,jk,jk,jk,jk,jk,jk,jk,jk,jk,jk,zv SI,zv I6,zv I6],[.cells ([zl .bool,zl .bool] ++ (dc D7) ++ (dc B1) ++ [.own 5 0,zl .bool,zl .bool,zl I6]),.cells (dc a7),.free,.free,.free,.row (.int .u8) true 0 []],0⟩
def L0.l0.e0:St:=⟨jka 68 [jk,jk,.one (.sc (.ptr 0 0)),jk,.one (.sc (.ptr 1 0))],[.cells ([zl .bool,zl .bool] ++ (dc D7) ++ (dc B1) ++ [.own 5 0,zl .bool,zl .bool,zl I6]),.cells (dc a7),.free,.free,.free,.row (.int .u8) true 0 []],0⟩
def L0.raw (m:Nat) (x0:(Ty.den a7)) (x1:Int):Option (Args [a7,.bool]):=bif decide ((↑(List.length x0.2.2.2.2.1):Int) > (0:Int)) then (let y1:=Y5.val x0.2.2.1 x0.2.2.2.2.1; bif Y5.dom x0.2.2.1 x0.2.2.2.2.1 then (bif decide ((0:Int) ≤ y1.2.1) && decide (y1.2.1 ≤ (↑(List.length x0.2.2.2.2.1):Int)) && decide ((↑(List.length x0.2.2.2.2.1):Int) ≤ (↑(List.length x0.2.2.2.2.1):Int)) then (some (((x0.1,x0.2.1,y1.1,x0.2.2.2.1,List.drop (Int.toNat y1.2.1) (List.take (↑(List.length x0.2.2.2.2.1):Int).toNat x0.2.2.2.2.1),x0.2.2.2.2.2),decide (y1.2.1 > (0:Int)),()))) else (none)) else none) else (let y2:=a05.val x0.2.2.2.1; bif a05.dom x0.2.2.2.1 then (bif y2.2.2.1 then (bif decide ((0:Int) ≤ (↑(List.length y2.2.1):Int)) && decide ((↑(List.length y2.2.1):Int) * (1:Int) ≤ (140737488355328:Int)) && decide ((↑(List.length y2.2.1):Int) ≤ (1099511627776:Int)) then (let z16:=(((0:Int),(ByteArray.mk (nl UInt8).toArray,()),(nl Int,()),(nl Int,(false,(0:Int),false,false,()),()),nl Int,()),nl Int,false,false,()); let z17:=((nl (List (Ty.int i64).den),false,()),(nl (List (Ty.int i64).den),false,()),(nl (List (Ty.int i64).den),false,()),(nl (List (Ty.int i64).den),false,()),(nl (List (Ty.int i64).den),false,()),()); let z18:=((false,(z16,z16,z16,z16,z16,()),((nl (List (Ty.int i64).den),false,()),z17),()),nl Int,(false,false,()),(0:Int),()); L0.l0 (fun o19 o20 o21 o22 o23 o24 o25 o26 o27=>some (((o19,o20,o21,o22,o27,(o23,o24,()),o25,()),true,()))) m y2.2.1 ((↑(List.length y2.2.1):Int)) ((0:Int)) x0.1 x0.2.1 x0.2.2.1 y2.1 x0.2.2.2.2.2.1.1 x0.2.2.2.2.2.1.2.1 x0.2.2.2.2.2.2.1 ((false,false,(nl Int,false,(0:Int),nl Int,()),z18)) (List.replicate (0:Nat) (0:Int))) else (none)) else (let y28:=a15.val x0.2.2.2.1; bif a15.dom x0.2.2.2.1 then (some (((x0.1,x0.2.1,x0.2.2.1,x0.2.2.2.1,x0.2.2.2.2.1,(x0.2.2.2.2.2.1.1,y28),x0.2.2.2.2.2.2),y28))) else none)) else none)
def L0.val (x0:(Ty.den a7)) (x1:Int):=(L0.raw fuel x0 x1).getD (dfltA [a7,.bool])
def L0.dom (x0:(Ty.den a7)) (x1:Int):=(L0.raw fuel x0 x1).isSome
def L0.sg:Sig:=⟨[a7,I6],[a7,.bool],false,fun x=>L0.dom x.1 x.2.1,fun x=>L0.val x.1 x.2.1⟩
noncomputable def L0.q0 (m:Nat) (s:St) (k:X → St → Option (Args [a7,.bool])):Option (Args [a7,.bool]) :=
 match unSt L0.l0.t [SI,I6,I6,.bool,.bool,D7,B1,.bool,.bool,I6,a7,SB] s with
  | some x=>L0.l0 (fun o0 o1 o2 o3 o4 o5 o6 o7 o8=>k (.exit 0) (mkSt L0.l0.e0 [.bool,.bool,D7,B1,.bool,.bool,I6,a7,SB] (o0,(o1,(o2,(o3,(o4,(o5,(o6,(o7,(o8,()))))))))))) m x.1 x.2.1 x.2.2.1 x.2.2.2.1 x.2.2.2.2.1 x.2.2.2.2.2.1 x.2.2.2.2.2.2.1 x.2.2.2.2.2.2.2.1 x.2.2.2.2.2.2.2.2.1 x.2.2.2.2.2.2.2.2.2.1 x.2.2.2.2.2.2.2.2.2.2.1 x.2.2.2.2.2.2.2.2.2.2.2.1
  | none=>none
noncomputable def L0.L (m:Nat) (c:Code) (s:St) (k:X → St → Option (Args [a7,.bool])):Option (Args [a7,.bool]) :=
 match O9 c with
 | some r=>bif Nat.beq r 52009 then (L0.q0 m s k) else none
 | none=>none
theorem L0.cs_eq:loopsL Go.Proofs.Tryz.f116 [] = [(loopsL Go.Proofs.Tryz.f116 []).getD 0 .skip]:=by kernel_rfl
theorem L0.good:Good (L0.E) (fun c=>c ∈ loopsL Go.Proofs.Tryz.f116 []) L0.L:=by
 have cases:∀ c,c ∈ loopsL Go.Proofs.Tryz.f116 [] → c = (loopsL Go.Proofs.Tryz.f116 []).getD 0 .skip:=by
  intro c hc; rw [L0.cs_eq] at hc; simpa only [List.mem_cons,List.not_mem_nil,or_false] using hc
 refine ⟨?_,?_,fun c hc=>T4 c hc⟩
 ·intro c s k r hc h
  rcases cases c hc with rfl
  ·have h':L0.q0 0 s k = some r:=Eq.trans (by kernel_rfl) h
   unfold L0.q0 at h'
   split at h'
   ·rename_i x hx
    have h2:(none:Option (Args [a7,.bool])) = some r:=Eq.trans (by kernel_rfl) h'
    cases h2
   cases h'
 ·intro m c s k r hc h
  rcases cases c hc with rfl
  ·have h':L0.q0 (m + 1) s k = some r:=Eq.trans (by kernel_rfl) h
   unfold L0.q0 at h'
   split at h'
   ·rename_i x hx
    rw [O8 hx]
    exact Eq.trans (by kernel_rfl) h'
   cases h'
theorem L0.eq (m:Nat) (x0:(Ty.den a7)) (x1:Int):runS L0.E Go.Proofs.Tryz.f116 L0.sg (L0.L m) (x0,(x1,())) = L0.raw m x0 x1:=by kernel_rfl
theorem L0.told (h:Base0) (hs:AllT L0.ls):Told 116 L0.sg :=
 T5 h fn116 (il:=[]) (pl:=[]) hs trivial trivial (L:=L0.L) L0.good (fun x=>L0.eq fuel x.1 x.2.1)
abbrev Y9.ls:List (Nat × Sig):=[(156,D3.sg)]
def Y9.E:Env:=mkE Y9.ls
def Y9.raw (m:Nat) (x0:(Ty.den B1)):Option (Args [B1]):=let y1:=D3.val x0; bif D3.dom x0 then (some (((y1.1.1,y1.1.2.1,(y1.1.2.2.1.1,y1.1.2.2.1.2.1,y1.1.2.2.1.2.2.1,y1.1.2.2.1.2.2.2.1,y1.1.2.2.1.2.2.2.2.1,(nl (Ty.int i64).slice.den,y1.1.2.2.1.2.2.2.2.2.1.2),()),()),()))) else none
def Y9.val (x0:(Ty.den B1)):=(Y9.raw fuel x0).getD (dfltA [B1])
def Y9.dom (x0:(Ty.den B1)):=(Y9.raw fuel x0).isSome
def Y9.sg:Sig:=⟨[B1],[B1],false,fun x=>Y9.dom x.1,fun x=>Y9.val x.1⟩
theorem Y9.eq (m:Nat) (x0:(Ty.den B1)):runS Y9.E Go.Proofs.Tryz.f141 Y9.sg (nL m) (x0,()) = Y9.raw m x0:=by kernel_rfl
theorem Y9.told(h:Base0) (hs:AllT Y9.ls):Told 141 Y9.sg :=
 told_n h fn141 hs (fun x=>Y9.eq fuel x.1)
abbrev S7.ls:List (Nat × Sig):=[(141,Y9.sg)]
def S7.E:Env:=mkE S7.ls
def S7.raw (m:Nat) (x0:(Ty.den a7)) (x1:Int):Option (Args [a7]):=let y1:=Y9.val x0.2.2.2.1; bif Y9.dom x0.2.2.2.1 then (some (((x0.1,x0.2.1,x0.2.2.1,y1.1,nl (Ty.int u8).den,(x0.2.2.2.2.2.1.1,true,()),x0.2.2.2.2.2.2),()))) else none
def S7.val (x0:(Ty.den a7)) (x1:Int):=(S7.raw fuel x0 x1).getD (dfltA [a7])
def S7.dom (x0:(Ty.den a7)) (x1:Int):=(S7.raw fuel x0 x1).isSome
def S7.sg:Sig:=⟨[a7,I6],[a7],false,fun x=>S7.dom x.1 x.2.1,fun x=>S7.val x.1 x.2.1⟩
theorem S7.eq (m:Nat) (x0:(Ty.den a7)) (x1:Int):runS S7.E Go.Proofs.Tryz.f117 S7.sg (nL m) (x0,(x1,())) = S7.raw m x0 x1:=by kernel_rfl
theorem S7.told(h:Base0) (hs:AllT S7.ls):Told 117 S7.sg :=
 told_n h fn117 hs (fun x=>S7.eq fuel x.1 x.2.1)
end Pt
end
section
open Go Go.Am
namespace Pt
set_option maxRecDepth 100000
def a36.E:Env:=mkE []
def a36.raw (m:Nat) (x0:(Ty.den a7)) (x1:Int):Option (Args [.bool]):=some x0.2.2.2.2.2.1.2
def a36.val (x0:(Ty.den a7)) (x1:Int):=(a36.raw fuel x0 x1).getD (dfltA [.bool])
def a36.dom (x0:(Ty.den a7)) (x1:Int):=(a36.raw fuel x0 x1).isSome
def a36.sg:Sig:=⟨[a7,I6],[.bool],false,fun x=>a36.dom x.1 x.2.1,fun x=>a36.val x.1 x.2.1⟩
theorem a36.eq (m:Nat) (x0:(Ty.den a7)) (x1:Int):runS a36.E Go.Proofs.Tryz.f118 a36.sg (nL m) (x0,(x1,())) = a36.raw m x0 x1:=by kernel_rfl
theorem a36.told(h:Base0):Told 118 a36.sg :=
 told_n h fn118 (l:=[]) trivial (fun x=>a36.eq fuel x.1 x.2.1)
def a90.sg:Sig:=hsg L8.sg
def a90.val (x0:Ty.den a7) (x1:Ty.den I6):Args [a7,.bool]:=a90.sg.val (x0,(x1,()))
def a90.dom (x0:Ty.den a7) (x1:Ty.den I6):Bool:=a90.sg.dom (x0,(x1,()))
def a82.sg:Sig:=hsg M6.sg
def a82.val (x0:Ty.den a7) (x1:Ty.den I6):Args [a7]:=a82.sg.val (x0,(x1,()))
def a82.dom (x0:Ty.den a7) (x1:Ty.den I6):Bool:=a82.sg.dom (x0,(x1,()))
def a78.sg:Sig:=hsg a39.sg
def a78.val (x0:Ty.den a7) (x1:Ty.den I6):Args [.bool]:=a78.sg.val (x0,(x1,()))
def a78.dom (x0:Ty.den a7) (x1:Ty.den I6):Bool:=a78.sg.dom (x0,(x1,()))
def a80.sg:Sig:=hsg L1.sg
def a80.val (x0:Ty.den a7) (x1:Ty.den I6):Args [a7,.bool]:=a80.sg.val (x0,(x1,()))
def a80.dom (x0:Ty.den a7) (x1:Ty.den I6):Bool:=a80.sg.dom (x0,(x1,()))
def a86.sg:Sig:=hsg M1.sg
def a86.val (x0:Ty.den a7) (x1:Ty.den I6):Args [a7]:=a86.sg.val (x0,(x1,()))
def a86.dom (x0:Ty.den a7) (x1:Ty.den I6):Bool:=a86.sg.dom (x0,(x1,()))
def a77.sg:Sig:=hsg D4.sg
def a77.val (x0:Ty.den a7) (x1:Ty.den I6):Args [.bool]:=a77.sg.val (x0,(x1,()))
def a77.dom (x0:Ty.den a7) (x1:Ty.den I6):Bool:=a77.sg.dom (x0,(x1,()))
def a87.sg:Sig:=hsg L0.sg
def a87.val (x0:Ty.den a7) (x1:Ty.den I6):Args [a7,.bool]:=a87.sg.val (x0,(x1,()))
def a87.dom (x0:Ty.den a7) (x1:Ty.den I6):Bool:=a87.sg.dom (x0,(x1,()))
def a89.sg:Sig:=hsg S7.sg
def a89.val (x0:Ty.den a7) (x1:Ty.den I6):Args [a7]:=a89.sg.val (x0,(x1,()))
def a89.dom (x0:Ty.den a7) (x1:Ty.den I6):Bool:=a89.sg.dom (x0,(x1,()))
def a79.sg:Sig:=hsg a36.sg
def a79.val (x0:Ty.den a7) (x1:Ty.den I6):Args [.bool]:=a79.sg.val (x0,(x1,()))
def a79.dom (x0:Ty.den a7) (x1:Ty.den I6):Bool:=a79.sg.dom (x0,(x1,()))
abbrev a54.ls:List (Nat × Sig):=[(109,a90.sg),(110,a82.sg),(111,a78.sg),(112,a80.sg),(113,a86.sg),(114,a77.sg),(116,a87.sg),(117,a89.sg),(118,a79.sg)]
def a54.E:Env:=⟨T,sigL a54.ls,inlL [],annL [],[109,110,111,112,113,114,116,117,118],primL [],globL⟩
def a54.raw (m:Nat) :Option (Args [w22]):=let z1:=((Option.some (109:Nat),Option.some (110:Nat),Option.some (111:Nat),()),(Option.some (112:Nat),Option.some (113:Nat),Option.some (114:Nat),()),(Option.some (116:Nat),Option.some (117:Nat),Option.some (118:Nat),()),()); some ((z1,()))
def a54.val :=(a54.raw fuel ).getD (dfltA [w22])
def a54.dom :=(a54.raw fuel ).isSome
def a54.sg:Sig:=⟨[],[w22],false,fun x=>a54.dom ,fun x=>a54.val ⟩
theorem a54.eq (m:Nat) :runS a54.E Go.Proofs.Tryz.f90 a54.sg (nL m) () = a54.raw m :=by kernel_rfl
theorem a54.told (h:Base0) (hs:AllT a54.ls):Told 90 a54.sg :=
 T5 h fn90 (il:=[]) (pl:=[]) hs trivial trivial (L:=(fun _ _ _ _=>none)) a14 (fun x=>a54.eq fuel )
abbrev a50.ls:List (Nat × Sig):=[(90,a54.sg)]
def a50.E:Env:=mkE a50.ls
def a50.raw (m:Nat) (x0:Int):Option (Args [w08,.bool]):=bif decide (x0 < (0:Int)) then (some (((none,none,none,()),false,()))) else (bif decide (x0 ≥ (7:Int)) then (some (((none,none,none,()),false,()))) else (bif x0 == (0:Int) then (some (((Option.some (109:Nat),Option.some (110:Nat),Option.some (111:Nat),()),true,()))) else (bif x0 == (6:Int) then (some (((Option.some (116:Nat),Option.some (117:Nat),Option.some (118:Nat),()),true,()))) else (some (((Option.some (112:Nat),Option.some (113:Nat),Option.some (114:Nat),()),true,()))))))
def a50.val (x0:Int):=(a50.raw fuel x0).getD (dfltA [w08,.bool])
def a50.dom (x0:Int):=(a50.raw fuel x0).isSome
def a50.sg:Sig:=⟨[I6],[w08,.bool],false,fun x=>a50.dom x.1,fun x=>a50.val x.1⟩
theorem a50.eq (m:Nat) (x0:Int):runS a50.E Go.Proofs.Tryz.f66 a50.sg (nL m) (x0,()) = a50.raw m x0:=by kernel_rfl
theorem a50.told(h:Base0) (hs:AllT a50.ls):Told 66 a50.sg :=
 told_n h fn66 hs (fun x=>a50.eq fuel x.1)
abbrev R7.ls:List (Nat × Sig):=[(56,M8.sg),(66,a50.sg),(109,L8.sg),(110,M6.sg),(111,a39.sg),(112,L1.sg),(113,M1.sg),(114,D4.sg),(116,L0.sg),(117,S7.sg),(118,a36.sg)]
def R7.E:Env:=⟨T,sigL R7.ls,inlL [],annL [],[109,110,111,112,113,114,116,117,118],primL [],globL⟩
def R7.raw (m:Nat) (x0:(Ty.den a7)) (x1:Int):Option (Args [a7,.bool]):=let y1:=M8.val x0; bif M8.dom x0 then (let y2:=a50.val x1; bif a50.dom x1 then (bif !y2.2.1 then (some ((y1.1,false,()))) else (bif y2.1.2.2.1 == Option.some (109:Go.FuncId) then (let y3:=L8.val y1.1 x1; bif L8.dom y1.1 x1 then (none) else none) else (bif y2.1.2.2.1 == Option.some (110:Go.FuncId) then (let y4:=M6.val y1.1 x1; bif M6.dom y1.1 x1 then (none) else none) else (bif y2.1.2.2.1 == Option.some (111:Go.FuncId) then (bif y1.1.2.2.2.2.2.1.1 then (some ((y1.1,false,()))) else (bif y1.1.2.1 then (bif y2.1.2.1 == Option.some (109:Go.FuncId) then (let y5:=L8.val y1.1 x1; bif L8.dom y1.1 x1 then (none) else none) else (bif y2.1.2.1 == Option.some (110:Go.FuncId) then (let y6:=M6.val y1.1 x1; bif M6.dom y1.1 x1 then (some ((y6.1,true,()))) else none) else (bif y2.1.2.1 == Option.some (111:Go.FuncId) then (none) else (bif y2.1.2.1 == Option.some (112:Go.FuncId) then (let y7:=L1.val y1.1 x1; bif L1.dom y1.1 x1 then (none) else none) else (bif y2.1.2.1 == Option.some (113:Go.FuncId) then (let y8:=M1.val y1.1 x1; bif M1.dom y1.1 x1 then (some ((y8.1,true,()))) else none) else (bif y2.1.2.1 == Option.some (114:Go.FuncId) then (let y9:=D4.val y1.1 x1; bif D4.dom y1.1 x1 then (none) else none) else (bif y2.1.2.1 == Option.some (116:Go.FuncId) then (let y10:=L0.val y1.1 x1; bif L0.dom y1.1 x1 then (none) else none) else (bif y2.1.2.1 == Option.some (117:Go.FuncId) then (let y11:=S7.val y1.1 x1; bif S7.dom y1.1 x1 then (some ((y11.1,true,()))) else none) else (bif y2.1.2.1 == Option.some (118:Go.FuncId) then (none) else (none)))))))))) else (bif y2.1.1 == Option.some (109:Go.FuncId) then (let y12:=L8.val y1.1 x1; bif L8.dom y1.1 x1 then (some y12) else none) else (bif y2.1.1 == Option.some (110:Go.FuncId) then (let y13:=M6.val y1.1 x1; bif M6.dom y1.1 x1 then (none) else none) else (bif y2.1.1 == Option.some (111:Go.FuncId) then (none) else (bif y2.1.1 == Option.some (112:Go.FuncId) then (let y14:=L1.val y1.1 x1; bif L1.dom y1.1 x1 then (some y14) else none) else (bif y2.1.1 == Option.some (113:Go.FuncId) then (let y15:=M1.val y1.1 x1; bif M1.dom y1.1 x1 then (none) else none) else (bif y2.1.1 == Option.some (114:Go.FuncId) then (let y16:=D4.val y1.1 x1; bif D4.dom y1.1 x1 then (none) else none) else (bif y2.1.1 == Option.some (116:Go.FuncId) then (let y17:=L0.val y1.1 x1; bif L0.dom y1.1 x1 then (some y17) else none) else (bif y2.1.1 == Option.some (117:Go.FuncId) then (let y18:=S7.val y1.1 x1; bif S7.dom y1.1 x1 then (none) else none) else (bif y2.1.1 == Option.some (118:Go.FuncId) then (none) else (none)))))))))))) else (bif y2.1.2.2.1 == Option.some (112:Go.FuncId) then (let y19:=L1.val y1.1 x1; bif L1.dom y1.1 x1 then (none) else none) else (bif y2.1.2.2.1 == Option.some (113:Go.FuncId) then (let y20:=M1.val y1.1 x1; bif M1.dom y1.1 x1 then (none) else none) else (bif y2.1.2.2.1 == Option.some (114:Go.FuncId) then (let y21:=D4.val y1.1 x1; bif D4.dom y1.1 x1 then (bif y21.1 then (some ((y1.1,false,()))) else (bif y1.1.2.1 then (bif y2.1.2.1 == Option.some (109:Go.FuncId) then (let y22:=L8.val y1.1 x1; bif L8.dom y1.1 x1 then (none) else none) else (bif y2.1.2.1 == Option.some (110:Go.FuncId) then (let y23:=M6.val y1.1 x1; bif M6.dom y1.1 x1 then (some ((y23.1,true,()))) else none) else (bif y2.1.2.1 == Option.some (111:Go.FuncId) then (none) else (bif y2.1.2.1 == Option.some (112:Go.FuncId) then (let y24:=L1.val y1.1 x1; bif L1.dom y1.1 x1 then (none) else none) else (bif y2.1.2.1 == Option.some (113:Go.FuncId) then (let y25:=M1.val y1.1 x1; bif M1.dom y1.1 x1 then (some ((y25.1,true,()))) else none) else (bif y2.1.2.1 == Option.some (114:Go.FuncId) then (let y26:=D4.val y1.1 x1; bif D4.dom y1.1 x1 then (none) else none) else (bif y2.1.2.1 == Option.some (116:Go.FuncId) then (let y27:=L0.val y1.1 x1; bif L0.dom y1.1 x1 then (none) else none) else (bif y2.1.2.1 == Option.some (117:Go.FuncId) then (let y28:=S7.val y1.1 x1; bif S7.dom y1.1 x1 then (some ((y28.1,true,()))) else none) else (bif y2.1.2.1 == Option.some (118:Go.FuncId) then (none) else (none)))))))))) else (bif y2.1.1 == Option.some (109:Go.FuncId) then (let y29:=L8.val y1.1 x1; bif L8.dom y1.1 x1 then (some y29) else none) else (bif y2.1.1 == Option.some (110:Go.FuncId) then (let y30:=M6.val y1.1 x1; bif M6.dom y1.1 x1 then (none) else none) else (bif y2.1.1 == Option.some (111:Go.FuncId) then (none) else (bif y2.1.1 == Option.some (112:Go.FuncId) then (let y31:=L1.val y1.1 x1; bif L1.dom y1.1 x1 then (some y31) else none) else (bif y2.1.1 == Option.some (113:Go.FuncId) then (let y32:=M1.val y1.1 x1; bif M1.dom y1.1 x1 then (none) else none) else (bif y2.1.1 == Option.some (114:Go.FuncId) then (let y33:=D4.val y1.1 x1; bif D4.dom y1.1 x1 then (none) else none) else (bif y2.1.1 == Option.some (116:Go.FuncId) then (let y34:=L0.val y1.1 x1; bif L0.dom y1.1 x1 then (some y34) else none) else (bif y2.1.1 == Option.some (117:Go.FuncId) then (let y35:=S7.val y1.1 x1; bif S7.dom y1.1 x1 then (none) else none) else (bif y2.1.1 == Option.some (118:Go.FuncId) then (none) else (none)))))))))))) else none) else (bif y2.1.2.2.1 == Option.some (116:Go.FuncId) then (let y36:=L0.val y1.1 x1; bif L0.dom y1.1 x1 then (none) else none) else (bif y2.1.2.2.1 == Option.some (117:Go.FuncId) then (let y37:=S7.val y1.1 x1; bif S7.dom y1.1 x1 then (none) else none) else (bif y2.1.2.2.1 == Option.some (118:Go.FuncId) then (bif y1.1.2.2.2.2.2.1.2.1 then (some ((y1.1,false,()))) else (bif y1.1.2.1 then (bif y2.1.2.1 == Option.some (109:Go.FuncId) then (let y38:=L8.val y1.1 x1; bif L8.dom y1.1 x1 then (none) else none) else (bif y2.1.2.1 == Option.some (110:Go.FuncId) then (let y39:=M6.val y1.1 x1; bif M6.dom y1.1 x1 then (some ((y39.1,true,()))) else none) else (bif y2.1.2.1 == Option.some (111:Go.FuncId) then (none) else (bif y2.1.2.1 == Option.some (112:Go.FuncId) then (let y40:=L1.val y1.1 x1; bif L1.dom y1.1 x1 then (none) else none) else (bif y2.1.2.1 == Option.some (113:Go.FuncId) then (let y41:=M1.val y1.1 x1; bif M1.dom y1.1 x1 then (some ((y41.1,true,()))) else none) else (bif y2.1.2.1 == Option.some (114:Go.FuncId) then (let y42:=D4.val y1.1 x1; bif D4.dom y1.1 x1 then (none) else none) else (bif y2.1.2.1 == Option.some (116:Go.FuncId) then (let y43:=L0.val y1.1 x1; bif L0.dom y1.1 x1 then (none) else none) else (bif y2.1.2.1 == Option.some (117:Go.FuncId) then (let y44:=S7.val y1.1 x1; bif S7.dom y1.1 x1 then (some ((y44.1,true,()))) else none) else (bif y2.1.2.1 == Option.some (118:Go.FuncId) then (none) else (none)))))))))) else (bif y2.1.1 == Option.some (109:Go.FuncId) then (let y45:=L8.val y1.1 x1; bif L8.dom y1.1 x1 then (some y45) else none) else (bif y2.1.1 == Option.some (110:Go.FuncId) then (let y46:=M6.val y1.1 x1; bif M6.dom y1.1 x1 then (none) else none) else (bif y2.1.1 == Option.some (111:Go.FuncId) then (none) else (bif y2.1.1 == Option.some (112:Go.FuncId) then (let y47:=L1.val y1.1 x1; bif L1.dom y1.1 x1 then (some y47) else none) else (bif y2.1.1 == Option.some (113:Go.FuncId) then (let y48:=M1.val y1.1 x1; bif M1.dom y1.1 x1 then (none) else none) else (bif y2.1.1 == Option.some (114:Go.FuncId) then (let y49:=D4.val y1.1 x1; bif D4.dom y1.1 x1 then (none) else none) else (bif y2.1.1 == Option.some (116:Go.FuncId) then (let y50:=L0.val y1.1 x1; bif L0.dom y1.1 x1 then (some y50) else none) else (bif y2.1.1 == Option.some (117:Go.FuncId) then (let y51:=S7.val y1.1 x1; bif S7.dom y1.1 x1 then (none) else none) else (bif y2.1.1 == Option.some (118:Go.FuncId) then (none) else (none)))))))))))) else (none))))))))))) else none) else none
def R7.val (x0:(Ty.den a7)) (x1:Int):=(R7.raw fuel x0 x1).getD (dfltA [a7,.bool])
def R7.dom (x0:(Ty.den a7)) (x1:Int):=(R7.raw fuel x0 x1).isSome
def R7.sg:Sig:=⟨[a7,I6],[a7,.bool],false,fun x=>R7.dom x.1 x.2.1,fun x=>R7.val x.1 x.2.1⟩
theorem R7.eq (m:Nat) (x0:(Ty.den a7)) (x1:Int):runS R7.E Go.Proofs.Tryz.f27 R7.sg (nL m) (x0,(x1,())) = R7.raw m x0 x1:=by kernel_rfl
theorem R7.told (h:Base0) (hs:AllT R7.ls):Told 27 R7.sg :=
 T5 h fn27 (il:=[]) (pl:=[]) hs trivial trivial (L:=(fun _ _ _ _=>none)) a14 (fun x=>R7.eq fuel x.1 x.2.1)
abbrev T2.ls:List (Nat × Sig):=[(27,R7.sg)]
def T2.E:Env:=mkE T2.ls
def T2.raw (m:Nat) (x0:(Ty.den a7)) (x1:Int):Option (Args [.bool]):=let y1:=R7.val x0 x1; bif R7.dom x0 x1 then (some y1.2) else none
def T2.val (x0:(Ty.den a7)) (x1:Int):=(T2.raw fuel x0 x1).getD (dfltA [.bool])
def T2.dom (x0:(Ty.den a7)) (x1:Int):=(T2.raw fuel x0 x1).isSome
def T2.sg:Sig:=⟨[a7,I6],[.bool],false,fun x=>T2.dom x.1 x.2.1,fun x=>T2.val x.1 x.2.1⟩
theorem T2.eq (m:Nat) (x0:(Ty.den a7)) (x1:Int):runS T2.E Go.Proofs.Tryz.f89 T2.sg (nL m) (x0,(x1,())) = T2.raw m x0 x1:=by kernel_rfl
theorem T2.told(h:Base0) (hs:AllT T2.ls):Told 89 T2.sg :=
 told_n h fn89 hs (fun x=>T2.eq fuel x.1 x.2.1)
end Pt
end
section
open Go Go.Am
namespace Pt
def parts7:List Int:=[0,1,2,3,4,5,6]
def T1.val (x0:Ty.den a7):Args [.slice I6]:=(parts7.filter fun i=>(T2.val x0 i).1,())
def T1.dom (x0:Ty.den a7):Bool:=parts7.all fun i=>T2.dom x0 i
def T1.sg:Sig:=⟨[a7],[.slice I6],false,fun x=>T1.dom x.1,fun x=>T1.val x.1⟩
end Pt
end
section
open Go Go.Am
namespace Pt
set_option maxRecDepth 100000
abbrev S0.ls:List (Nat × Sig):=[(66,a50.sg),(111,a39.sg),(114,D4.sg),(118,a36.sg)]
def S0.E:Env:=⟨T,sigL S0.ls,inlL [],annL [],[111,114,118],primL [],globL⟩
def S0.raw (m:Nat) (x0:(Ty.den a7)) (x1:Int):Option (Args [.bool]):=let y1:=a50.val x1; bif a50.dom x1 then (bif y1.2.1 then (bif y1.1.2.2.1 == Option.some (111:Go.FuncId) then (some ((x0.2.2.2.2.2.1.1,()))) else (bif y1.1.2.2.1 == Option.some (114:Go.FuncId) then (let y2:=D4.val x0 x1; bif D4.dom x0 x1 then (some y2) else none) else (bif y1.1.2.2.1 == Option.some (118:Go.FuncId) then (some x0.2.2.2.2.2.1.2) else (none)))) else (some ((false,())))) else none
def S0.val (x0:(Ty.den a7)) (x1:Int):=(S0.raw fuel x0 x1).getD (dfltA [.bool])
def S0.dom (x0:(Ty.den a7)) (x1:Int):=(S0.raw fuel x0 x1).isSome
def S0.sg:Sig:=⟨[a7,I6],[.bool],false,fun x=>S0.dom x.1 x.2.1,fun x=>S0.val x.1 x.2.1⟩
theorem S0.eq (m:Nat) (x0:(Ty.den a7)) (x1:Int):runS S0.E Go.Proofs.Tryz.f62 S0.sg (nL m) (x0,(x1,())) = S0.raw m x0 x1:=by kernel_rfl
theorem S0.told (h:Base0) (hs:AllT S0.ls):Told 62 S0.sg :=
 T5 h fn62 (il:=[]) (pl:=[]) hs trivial trivial (L:=(fun _ _ _ _=>none)) a14 (fun x=>S0.eq fuel x.1 x.2.1)
end Pt
end
section
open Go Go.Am
open IntKind (i64 u64 u8 i32 u32)
namespace Pt
set_option maxRecDepth 100000
abbrev L5.ls:List (Nat × Sig):=[(62,S0.sg)]
def L5.E:Env:=⟨T,sigL L5.ls,inlL [],annL [(5002,⟨some [1,4],[],[(1,a7)],some [2]⟩)],[],primL [],globL⟩
def L5.l0 (K0:Bool → Option (Args [.bool])) (K1:Option (Args [.bool])):Nat → Int → (Ty.den a7) → Option (Args [.bool])
 | 0,_,_=>none
 | m + 1,v1,v2=>bif decide (v1 < (7:Int)) then (let y3:=S0.val v2 v1; bif S0.dom v2 v1 then (bif !y3.1 then (K0 false) else (L5.l0 K0 K1 m (i64.wrap (v1 + (1:Int))) v2)) else none) else (K1)
def L5.l0.t:St:=⟨jka 7 [jk,.one (.sc (.ptr 0 0)),jk,jk,zv I6],[.cells (dc a7)],0⟩
def L5.l0.e0:St:=⟨jka 9 [jk,jk,zv .bool],[],0⟩
def L5.l0.e1:St:=⟨jka 11 [jk],[],0⟩
def L5.raw (m:Nat) (x0:(Ty.den a7)):Option (Args [.bool]):=L5.l0 (fun o4=>some ((o4,()))) (some ((true,()))) m ((0:Int)) x0
def L5.val (x0:(Ty.den a7)):=(L5.raw fuel x0).getD (dfltA [.bool])
def L5.dom (x0:(Ty.den a7)):=(L5.raw fuel x0).isSome
def L5.sg:Sig:=⟨[a7],[.bool],false,fun x=>L5.dom x.1,fun x=>L5.val x.1⟩
noncomputable def L5.q0 (m:Nat) (s:St) (k:X → St → Option (Args [.bool])):Option (Args [.bool]) :=
 match unSt L5.l0.t [I6,a7] s with
  | some x=>L5.l0 (fun o0=>k .ret (mkSt L5.l0.e0 [.bool] (o0,()))) (k (.exit 0) (mkSt L5.l0.e1 [] ())) m x.1 x.2.1
  | none=>none
noncomputable def L5.L (m:Nat) (c:Code) (s:St) (k:X → St → Option (Args [.bool])):Option (Args [.bool]) :=
 match O9 c with
 | some r=>bif Nat.beq r 5002 then (L5.q0 m s k) else none
 | none=>none
theorem L5.cs_eq:loopsL Go.Proofs.Tryz.f25 [] = [(loopsL Go.Proofs.Tryz.f25 []).getD 0 .skip]:=by kernel_rfl
theorem L5.good:Good (L5.E) (fun c=>c ∈ loopsL Go.Proofs.Tryz.f25 []) L5.L:=by
 have cases:∀ c,c ∈ loopsL Go.Proofs.Tryz.f25 [] → c = (loopsL Go.Proofs.Tryz.f25 []).getD 0 .skip:=by
  intro c hc; rw [L5.cs_eq] at hc; simpa only [List.mem_cons,List.not_mem_nil,or_false] using hc
 refine ⟨?_,?_,fun c hc=>T4 c hc⟩
 ·intro c s k r hc h
  rcases cases c hc with rfl
  ·have h':L5.q0 0 s k = some r:=Eq.trans (by kernel_rfl) h
   unfold L5.q0 at h'
   split at h'
   ·rename_i x hx
    have h2:(none:Option (Args [.bool])) = some r:=Eq.trans (by kernel_rfl) h'
    cases h2
   cases h'
 ·intro m c s k r hc h
  rcases cases c hc with rfl
  ·have h':L5.q0 (m + 1) s k = some r:=Eq.trans (by kernel_rfl) h
   unfold L5.q0 at h'
   split at h'
   ·rename_i x hx
    rw [O8 hx]
    exact Eq.trans (by kernel_rfl) h'
   cases h'
theorem L5.eq (m:Nat) (x0:(Ty.den a7)):runS L5.E Go.Proofs.Tryz.f25 L5.sg (L5.L m) (x0,()) = L5.raw m x0:=by kernel_rfl
theorem L5.told (h:Base0) (hs:AllT L5.ls):Told 25 L5.sg :=
 T5 h fn25 (il:=[]) (pl:=[]) hs trivial trivial (L:=L5.L) L5.good (fun x=>L5.eq fuel x.1)
end Pt
end
section
open Go Go.Am
namespace Pt
set_option maxRecDepth 100000
def a16.E:Env:=mkE []
def a16.raw (m:Nat) (x0:(Ty.den a7)):Option (Args [D7]):=some ((x0.2.2.1,()))
def a16.val (x0:(Ty.den a7)):=(a16.raw fuel x0).getD (dfltA [D7])
def a16.dom (x0:(Ty.den a7)):=(a16.raw fuel x0).isSome
def a16.sg:Sig:=⟨[a7],[D7],false,fun x=>a16.dom x.1,fun x=>a16.val x.1⟩
theorem a16.eq (m:Nat) (x0:(Ty.den a7)):runS a16.E Go.Proofs.Tryz.f23 a16.sg (nL m) (x0,()) = a16.raw m x0:=by kernel_rfl
theorem a16.told(h:Base0):Told 23 a16.sg :=
 told_n h fn23 (l:=[]) trivial (fun x=>a16.eq fuel x.1)
abbrev S9.ls:List (Nat × Sig):=[(86,N7.sg)]
def S9.E:Env:=mkE S9.ls
def S9.raw (m:Nat) (x0:(Ty.den D7)):Option (Args [.bool]):=let y1:=N7.val x0; bif N7.dom x0 then (bif (↑(List.length y1.1.1):Int) == (0:Int) then (some ((!y1.1.2.1,()))) else (some ((false,())))) else none
def S9.val (x0:(Ty.den D7)):=(S9.raw fuel x0).getD (dfltA [.bool])
def S9.dom (x0:(Ty.den D7)):=(S9.raw fuel x0).isSome
def S9.sg:Sig:=⟨[D7],[.bool],false,fun x=>S9.dom x.1,fun x=>S9.val x.1⟩
theorem S9.eq (m:Nat) (x0:(Ty.den D7)):runS S9.E Go.Proofs.Tryz.f63 S9.sg (nL m) (x0,()) = S9.raw m x0:=by kernel_rfl
theorem S9.told(h:Base0) (hs:AllT S9.ls):Told 63 S9.sg :=
 told_n h fn63 hs (fun x=>S9.eq fuel x.1)
def a19.E:Env:=mkE []
def a19.raw (m:Nat) (x0:(Ty.den a7)):Option (Args [I6]):=some (((↑(List.length x0.2.2.2.2.1):Int),()))
def a19.val (x0:(Ty.den a7)):=(a19.raw fuel x0).getD (dfltA [I6])
def a19.dom (x0:(Ty.den a7)):=(a19.raw fuel x0).isSome
def a19.sg:Sig:=⟨[a7],[I6],false,fun x=>a19.dom x.1,fun x=>a19.val x.1⟩
theorem a19.eq (m:Nat) (x0:(Ty.den a7)):runS a19.E Go.Proofs.Tryz.f64 a19.sg (nL m) (x0,()) = a19.raw m x0:=by kernel_rfl
theorem a19.told(h:Base0):Told 64 a19.sg :=
 told_n h fn64 (l:=[]) trivial (fun x=>a19.eq fuel x.1)
end Pt
end
section
open Go Go.Am
namespace Pt
def a17.val (x0:Ty.den a7):Args [.int .i64] :=
 (bif (L5.val x0).1 then 0 else bif (!(T1.val x0).1.isEmpty) then 0 else
  (bif !(S0.val x0 0).1 && (S9.val (a16.val x0).1).1 then 1 else 0) + (bif decide ((a19.val x0).1 > 0) then 2 else 0),())
def a17.dom (x0:Ty.den a7):Bool :=
 T1.dom x0 && L5.dom x0 && S0.dom x0 0 && a16.dom x0 && S9.dom (a16.val x0).1 && a19.dom x0
def a17.sg:Sig:=⟨[a7],[.int .i64],false,fun x=>a17.dom x.1,fun x=>a17.val x.1⟩
end Pt
end
section
open Go Go.Am
namespace Pt
set_option maxRecDepth 100000
def a41.E:Env:=mkE []
def a41.raw (m:Nat) (x0:(Ty.den a7)):Option (Args [I6]):=some x0.2.2.2.2.2.2
def a41.val (x0:(Ty.den a7)):=(a41.raw fuel x0).getD (dfltA [I6])
def a41.dom (x0:(Ty.den a7)):=(a41.raw fuel x0).isSome
def a41.sg:Sig:=⟨[a7],[I6],false,fun x=>a41.dom x.1,fun x=>a41.val x.1⟩
theorem a41.eq (m:Nat) (x0:(Ty.den a7)):runS a41.E Go.Proofs.Tryz.f29 a41.sg (nL m) (x0,()) = a41.raw m x0:=by kernel_rfl
theorem a41.told(h:Base0):Told 29 a41.sg :=
 told_n h fn29 (l:=[]) trivial (fun x=>a41.eq fuel x.1)
end Pt
end
section
open Go Go.Am
open IntKind (i64 u64 u8 i32 u32)
namespace Pt
set_option maxRecDepth 100000
abbrev D9.ls:List (Nat × Sig):=[(27,R7.sg)]
def D9.E:Env:=⟨T,sigL D9.ls,inlL [],annL [(14003,⟨some [2,4,6,11,12,13],[],[(2,a7),(4,a7)],some [2,4,6]⟩)],[],primL [],globL⟩
def D9.l0 (K0:Int → (Ty.den a7) → (Ty.den a7) → Option (Args [a7,I6])):Nat → Int → (Ty.den SI) → Int → Int → (Ty.den a7) → (Ty.den a7) → Option (Args [a7,I6])
 | 0,_,_,_,_,_,_=>none
 | m + 1,v1,v2,v3,v4,v5,v6=>bif decide (v4 < v3) then (bif decide ((0:Int) ≤ v4) && decide (v4 < (↑(List.length v2):Int)) then (let y7:=R7.val v5 (List.getD v2 (Int.toNat v4) (0:Int)); bif R7.dom v5 (List.getD v2 (Int.toNat v4) (0:Int)) then (bif y7.2.1 then (D9.l0 K0 m (i64.wrap (v1 + (1:Int))) v2 v3 (i64.wrap (v4 + (1:Int))) y7.1 v6) else (D9.l0 K0 m v1 v2 v3 (i64.wrap (v4 + (1:Int))) y7.1 v6)) else none) else (none)) else (K0 v1 v5 v6)
def D9.l0.t:St:=⟨jka 16 [jk,jk,.one (.sc (.ptr 0 0)),jk,.one (.sc (.ptr 1 0)),jk,zv I6,jk,jk,jk,jk,zv SI,zv I6,zv I6],[.cells (dc a7),.cells (dc a7)],0⟩
def D9.l0.e0:St:=⟨jka 23 [jk,jk,.one (.sc (.ptr 0 0)),jk,.one (.sc (.ptr 1 0)),jk,zv I6],[.cells (dc a7),.cells (dc a7)],0⟩
def D9.raw (m:Nat) (x0:(Ty.den a7)) (x1:(Ty.den SI)):Option (Args [a7,I6]):=let z8:=(((0:Int),(ByteArray.mk (nl UInt8).toArray,()),(nl Int,()),(nl Int,(false,(0:Int),false,false,()),()),nl Int,()),nl Int,false,false,()); let z9:=((nl (List (Ty.int i64).den),false,()),(nl (List (Ty.int i64).den),false,()),(nl (List (Ty.int i64).den),false,()),(nl (List (Ty.int i64).den),false,()),(nl (List (Ty.int i64).den),false,()),()); let z10:=((false,(z8,z8,z8,z8,z8,()),((nl (List (Ty.int i64).den),false,()),z9),()),nl Int,(false,false,()),(0:Int),()); D9.l0 (fun o11 o12 o13=>some ((o12,o11,()))) m ((0:Int)) x1 ((↑(List.length x1):Int)) ((0:Int)) x0 ((false,false,(nl Int,false,(0:Int),nl Int,()),z10))
def D9.val (x0:(Ty.den a7)) (x1:(Ty.den SI)):=(D9.raw fuel x0 x1).getD (dfltA [a7,I6])
def D9.dom (x0:(Ty.den a7)) (x1:(Ty.den SI)):=(D9.raw fuel x0 x1).isSome
def D9.sg:Sig:=⟨[a7,SI],[a7,I6],false,fun x=>D9.dom x.1 x.2.1,fun x=>D9.val x.1 x.2.1⟩
noncomputable def D9.q0 (m:Nat) (s:St) (k:X → St → Option (Args [a7,I6])):Option (Args [a7,I6]) :=
 match unSt D9.l0.t [I6,SI,I6,I6,a7,a7] s with
  | some x=>D9.l0 (fun o0 o1 o2=>k (.exit 0) (mkSt D9.l0.e0 [I6,a7,a7] (o0,(o1,(o2,()))))) m x.1 x.2.1 x.2.2.1 x.2.2.2.1 x.2.2.2.2.1 x.2.2.2.2.2.1
  | none=>none
noncomputable def D9.L (m:Nat) (c:Code) (s:St) (k:X → St → Option (Args [a7,I6])):Option (Args [a7,I6]) :=
 match O9 c with
 | some r=>bif Nat.beq r 14003 then (D9.q0 m s k) else none
 | none=>none
theorem D9.cs_eq:loopsL Go.Proofs.Tryz.f35 [] = [(loopsL Go.Proofs.Tryz.f35 []).getD 0 .skip]:=by kernel_rfl
theorem D9.good:Good (D9.E) (fun c=>c ∈ loopsL Go.Proofs.Tryz.f35 []) D9.L:=by
 have cases:∀ c,c ∈ loopsL Go.Proofs.Tryz.f35 [] → c = (loopsL Go.Proofs.Tryz.f35 []).getD 0 .skip:=by
  intro c hc; rw [D9.cs_eq] at hc; simpa only [List.mem_cons,List.not_mem_nil,or_false] using hc
 refine ⟨?_,?_,fun c hc=>T4 c hc⟩
 ·intro c s k r hc h
  rcases cases c hc with rfl
  ·have h':D9.q0 0 s k = some r:=Eq.trans (by kernel_rfl) h
   unfold D9.q0 at h'
   split at h'
   ·rename_i x hx
    have h2:(none:Option (Args [a7,I6])) = some r:=Eq.trans (by kernel_rfl) h'
    cases h2
   cases h'
 ·intro m c s k r hc h
  rcases cases c hc with rfl
  ·have h':D9.q0 (m + 1) s k = some r:=Eq.trans (by kernel_rfl) h
   unfold D9.q0 at h'
   split at h'
   ·rename_i x hx
    rw [O8 hx]
    exact Eq.trans (by kernel_rfl) h'
   cases h'
theorem D9.eq (m:Nat) (x0:(Ty.den a7)) (x1:(Ty.den SI)):runS D9.E Go.Proofs.Tryz.f35 D9.sg (D9.L m) (x0,(x1,())) = D9.raw m x0 x1:=by kernel_rfl
theorem D9.told (h:Base0) (hs:AllT D9.ls):Told 35 D9.sg :=
 T5 h fn35 (il:=[]) (pl:=[]) hs trivial trivial (L:=D9.L) D9.good (fun x=>D9.eq fuel x.1 x.2.1)
def C9.E:Env:=⟨T,sigL [],inlL [],annL [(12004,⟨some [0,3,4,9,10,11],[],[(4,a65)],some [0,3,4]⟩),(37011,⟨some [0,3,35,36],[],[],some [3]⟩)],[],primL [],globL⟩
def C9.l1 (K0:Int → Option (Args [I6])):Nat → (Ty.den SI) → Int → (Ty.den a65) → Int → Option (Args [I6])
 | 0,_,_,_,_=>none
 | m + 1,v59,v60,v61,v62=>bif decide (v62 < (7:Int)) then (bif decide ((0:Int) ≤ v62) && decide (v62 < (7:Int)) then (bif v62 == (0:Int) then (let z63:=i64.wrap (i64.wrap ((↑(List.length v59):Int) - v61.1) + (1:Int)); C9.l1 K0 m v59 (if z63 > v60 then z63 else v60) v61 (i64.wrap (v62 + (1:Int)))) else (bif v62 == (1:Int) then (let z64:=i64.wrap (i64.wrap ((↑(List.length v59):Int) - v61.2.1) + (1:Int)); C9.l1 K0 m v59 (if z64 > v60 then z64 else v60) v61 (i64.wrap (v62 + (1:Int)))) else (bif v62 == (2:Int) then (let z65:=i64.wrap (i64.wrap ((↑(List.length v59):Int) - v61.2.2.1) + (1:Int)); C9.l1 K0 m v59 (if z65 > v60 then z65 else v60) v61 (i64.wrap (v62 + (1:Int)))) else (bif v62 == (3:Int) then (let z66:=i64.wrap (i64.wrap ((↑(List.length v59):Int) - v61.2.2.2.1) + (1:Int)); C9.l1 K0 m v59 (if z66 > v60 then z66 else v60) v61 (i64.wrap (v62 + (1:Int)))) else (bif v62 == (4:Int) then (let z67:=i64.wrap (i64.wrap ((↑(List.length v59):Int) - v61.2.2.2.2.1) + (1:Int)); C9.l1 K0 m v59 (if z67 > v60 then z67 else v60) v61 (i64.wrap (v62 + (1:Int)))) else (bif v62 == (5:Int) then (let z68:=i64.wrap (i64.wrap ((↑(List.length v59):Int) - v61.2.2.2.2.2.1) + (1:Int)); C9.l1 K0 m v59 (if z68 > v60 then z68 else v60) v61 (i64.wrap (v62 + (1:Int)))) else (bif v62 == (6:Int) then (let z69:=i64.wrap (i64.wrap ((↑(List.length v59):Int) - v61.2.2.2.2.2.2.1) + (1:Int)); C9.l1 K0 m v59 (if z69 > v60 then z69 else v60) v61 (i64.wrap (v62 + (1:Int)))) else (none)))))))) else (none)) else (K0 v60)
def C9.l1.t:St:=⟨jka 11 [zv SI,jk,jk,zv I6,jk,jk,jk,jk,jk,jk,jk,jk,jk,jk,jk,jk,jk,jk,jk,jk,jk,jk,jk,jk,jk,jk,jk,jk,jk,jk,jk,jk,jk,jk,jk,.one (.agg (dc a65)),zv I6],[],0⟩
def C9.l1.e0:St:=⟨jka 44 [jk,jk,jk,zv I6],[],0⟩
def C9.l0 (K0:(Ty.den SI) → Int → (Ty.den a65) → Option (Args [I6])):Nat → (Ty.den SI) → Int → (Ty.den SI) → Int → Int → (Ty.den a65) → Option (Args [I6])
 | 0,_,_,_,_,_,_=>none
 | m + 1,v1,v2,v3,v4,v5,v6=>bif decide (v5 < v4) then (bif decide ((0:Int) ≤ v5) && decide (v5 < (↑(List.length v3):Int)) then (bif decide (List.getD v3 (Int.toNat v5) (0:Int) ≥ (0:Int)) then (bif decide (List.getD v3 (Int.toNat v5) (0:Int) < (7:Int)) then (bif decide ((0:Int) ≤ List.getD v3 (Int.toNat v5) (0:Int)) && decide (List.getD v3 (Int.toNat v5) (0:Int) < (7:Int)) then (bif List.getD v3 (Int.toNat v5) (0:Int) == (0:Int) then (bif decide ((0:Int) ≤ List.getD v3 (Int.toNat v5) (0:Int)) && decide (List.getD v3 (Int.toNat v5) (0:Int) < (7:Int)) then (bif List.getD v3 (Int.toNat v5) (0:Int) == (0:Int) then (let z7:=i64.wrap (i64.wrap (v5 - v6.1) + (1:Int)); C9.l0 K0 m v1 (if z7 > v2 then z7 else v2) v3 v4 (i64.wrap (v5 + (1:Int))) ((i64.wrap (v5 + (1:Int)),v6.2))) else (bif List.getD v3 (Int.toNat v5) (0:Int) == (1:Int) then (let z8:=i64.wrap (i64.wrap (v5 - v6.1) + (1:Int)); C9.l0 K0 m v1 (if z8 > v2 then z8 else v2) v3 v4 (i64.wrap (v5 + (1:Int))) ((v6.1,i64.wrap (v5 + (1:Int)),v6.2.2))) else (bif List.getD v3 (Int.toNat v5) (0:Int) == (2:Int) then (let z9:=i64.wrap (i64.wrap (v5 - v6.1) + (1:Int)); C9.l0 K0 m v1 (if z9 > v2 then z9 else v2) v3 v4 (i64.wrap (v5 + (1:Int))) ((v6.1,v6.2.1,i64.wrap (v5 + (1:Int)),v6.2.2.2))) else (bif List.getD v3 (Int.toNat v5) (0:Int) == (3:Int) then (let z10:=i64.wrap (i64.wrap (v5 - v6.1) + (1:Int)); C9.l0 K0 m v1 (if z10 > v2 then z10 else v2) v3 v4 (i64.wrap (v5 + (1:Int))) ((v6.1,v6.2.1,v6.2.2.1,i64.wrap (v5 + (1:Int)),v6.2.2.2.2))) else (bif List.getD v3 (Int.toNat v5) (0:Int) == (4:Int) then (let z11:=i64.wrap (i64.wrap (v5 - v6.1) + (1:Int)); C9.l0 K0 m v1 (if z11 > v2 then z11 else v2) v3 v4 (i64.wrap (v5 + (1:Int))) ((v6.1,v6.2.1,v6.2.2.1,v6.2.2.2.1,i64.wrap (v5 + (1:Int)),v6.2.2.2.2.2))) else (bif List.getD v3 (Int.toNat v5) (0:Int) == (5:Int) then (let z12:=i64.wrap (i64.wrap (v5 - v6.1) + (1:Int)); C9.l0 K0 m v1 (if z12 > v2 then z12 else v2) v3 v4 (i64.wrap (v5 + (1:Int))) ((v6.1,v6.2.1,v6.2.2.1,v6.2.2.2.1,v6.2.2.2.2.1,i64.wrap (v5 + (1:Int)),v6.2.2.2.2.2.2))) else (bif List.getD v3 (Int.toNat v5) (0:Int) == (6:Int) then (let z13:=i64.wrap (i64.wrap (v5 - v6.1) + (1:Int)); C9.l0 K0 m v1 (if z13 > v2 then z13 else v2) v3 v4 (i64.wrap (v5 + (1:Int))) ((v6.1,v6.2.1,v6.2.2.1,v6.2.2.2.1,v6.2.2.2.2.1,v6.2.2.2.2.2.1,i64.wrap (v5 + (1:Int)),()))) else (none)))))))) else (none)) else (bif List.getD v3 (Int.toNat v5) (0:Int) == (1:Int) then (bif decide ((0:Int) ≤ List.getD v3 (Int.toNat v5) (0:Int)) && decide (List.getD v3 (Int.toNat v5) (0:Int) < (7:Int)) then (bif List.getD v3 (Int.toNat v5) (0:Int) == (0:Int) then (let z14:=i64.wrap (i64.wrap (v5 - v6.2.1) + (1:Int)); C9.l0 K0 m v1 (if z14 > v2 then z14 else v2) v3 v4 (i64.wrap (v5 + (1:Int))) ((i64.wrap (v5 + (1:Int)),v6.2))) else (bif List.getD v3 (Int.toNat v5) (0:Int) == (1:Int) then (let z15:=i64.wrap (i64.wrap (v5 - v6.2.1) + (1:Int)); C9.l0 K0 m v1 (if z15 > v2 then z15 else v2) v3 v4 (i64.wrap (v5 + (1:Int))) ((v6.1,i64.wrap (v5 + (1:Int)),v6.2.2))) else (bif List.getD v3 (Int.toNat v5) (0:Int) == (2:Int) then (let z16:=i64.wrap (i64.wrap (v5 - v6.2.1) + (1:Int)); C9.l0 K0 m v1 (if z16 > v2 then z16 else v2) v3 v4 (i64.wrap (v5 + (1:Int))) ((v6.1,v6.2.1,i64.wrap (v5 + (1:Int)),v6.2.2.2))) else (bif List.getD v3 (Int.toNat v5) (0:Int) == (3:Int) then (let z17:=i64.wrap (i64.wrap (v5 - v6.2.1) + (1:Int)); C9.l0 K0 m v1 (if z17 > v2 then z17 else v2) v3 v4 (i64.wrap (v5 + (1:Int))) ((v6.1,v6.2.1,v6.2.2.1,i64.wrap (v5 + (1:Int)),v6.2.2.2.2))) else (bif List.getD v3 (Int.toNat v5) (0:Int) == (4:Int) then (let z18:=i64.wrap (i64.wrap (v5 - v6.2.1) + (1:Int)); C9.l0 K0 m v1 (if z18 > v2 then z18 else v2) v3 v4 (i64.wrap (v5 + (1:Int))) ((v6.1,v6.2.1,v6.2.2.1,v6.2.2.2.1,i64.wrap (v5 + (1:Int)),v6.2.2.2.2.2))) else (bif List.getD v3 (Int.toNat v5) (0:Int) == (5:Int) then (let z19:=i64.wrap (i64.wrap (v5 - v6.2.1) + (1:Int)); C9.l0 K0 m v1 (if z19 > v2 then z19 else v2) v3 v4 (i64.wrap (v5 + (1:Int))) ((v6.1,v6.2.1,v6.2.2.1,v6.2.2.2.1,v6.2.2.2.2.1,i64.wrap (v5 + (1:Int)),v6.2.2.2.2.2.2))) else (bif List.getD v3 (Int.toNat v5) (0:Int) == (6:Int) then (let z20:=i64.wrap (i64.wrap (v5 - v6.2.1) + (1:Int)); C9.l0 K0 m v1 (if z20 > v2 then z20 else v2) v3 v4 (i64.wrap (v5 + (1:Int))) ((v6.1,v6.2.1,v6.2.2.1,v6.2.2.2.1,v6.2.2.2.2.1,v6.2.2.2.2.2.1,i64.wrap (v5 + (1:Int)),()))) else (none)))))))) else (none)) else (bif List.getD v3 (Int.toNat v5) (0:Int) == (2:Int) then (bif decide ((0:Int) ≤ List.getD v3 (Int.toNat v5) (0:Int)) && decide (List.getD v3 (Int.toNat v5) (0:Int) < (7:Int)) then (bif List.getD v3 (Int.toNat v5) (0:Int) == (0:Int) then (let z21:=i64.wrap (i64.wrap (v5 - v6.2.2.1) + (1:Int)); C9.l0 K0 m v1 (if z21 > v2 then z21 else v2) v3 v4 (i64.wrap (v5 + (1:Int))) ((i64.wrap (v5 + (1:Int)),v6.2))) else (bif List.getD v3 (Int.toNat v5) (0:Int) == (1:Int) then (let z22:=i64.wrap (i64.wrap (v5 - v6.2.2.1) + (1:Int)); C9.l0 K0 m v1 (if z22 > v2 then z22 else v2) v3 v4 (i64.wrap (v5 + (1:Int))) ((v6.1,i64.wrap (v5 + (1:Int)),v6.2.2))) else (bif List.getD v3 (Int.toNat v5) (0:Int) == (2:Int) then (let z23:=i64.wrap (i64.wrap (v5 - v6.2.2.1) + (1:Int)); C9.l0 K0 m v1 (if z23 > v2 then z23 else v2) v3 v4 (i64.wrap (v5 + (1:Int))) ((v6.1,v6.2.1,i64.wrap (v5 + (1:Int)),v6.2.2.2))) else (bif List.getD v3 (Int.toNat v5) (0:Int) == (3:Int) then (let z24:=i64.wrap (i64.wrap (v5 - v6.2.2.1) + (1:Int)); C9.l0 K0 m v1 (if z24 > v2 then z24 else v2) v3 v4 (i64.wrap (v5 + (1:Int))) ((v6.1,v6.2.1,v6.2.2.1,i64.wrap (v5 + (1:Int)),v6.2.2.2.2))) else (bif List.getD v3 (Int.toNat v5) (0:Int) == (4:Int) then (let z25:=i64.wrap (i64.wrap (v5 - v6.2.2.1) + (1:Int)); C9.l0 K0 m v1 (if z25 > v2 then z25 else v2) v3 v4 (i64.wrap (v5 + (1:Int))) ((v6.1,v6.2.1,v6.2.2.1,v6.2.2.2.1,i64.wrap (v5 + (1:Int)),v6.2.2.2.2.2))) else (bif List.getD v3 (Int.toNat v5) (0:Int) == (5:Int) then (let z26:=i64.wrap (i64.wrap (v5 - v6.2.2.1) + (1:Int)); C9.l0 K0 m v1 (if z26 > v2 then z26 else v2) v3 v4 (i64.wrap (v5 + (1:Int))) ((v6.1,v6.2.1,v6.2.2.1,v6.2.2.2.1,v6.2.2.2.2.1,i64.wrap (v5 + (1:Int)),v6.2.2.2.2.2.2))) else (bif List.getD v3 (Int.toNat v5) (0:Int) == (6:Int) then (let z27:=i64.wrap (i64.wrap (v5 - v6.2.2.1) + (1:Int)); C9.l0 K0 m v1 (if z27 > v2 then z27 else v2) v3 v4 (i64.wrap (v5 + (1:Int))) ((v6.1,v6.2.1,v6.2.2.1,v6.2.2.2.1,v6.2.2.2.2.1,v6.2.2.2.2.2.1,i64.wrap (v5 + (1:Int)),()))) else (none)))))))) else (none)) else (bif List.getD v3 (Int.toNat v5) (0:Int) == (3:Int) then (bif decide ((0:Int) ≤ List.getD v3 (Int.toNat v5) (0:Int)) && decide (List.getD v3 (Int.toNat v5) (0:Int) < (7:Int)) then (bif List.getD v3 (Int.toNat v5) (0:Int) == (0:Int) then (let z28:=i64.wrap (i64.wrap (v5 - v6.2.2.2.1) + (1:Int)); C9.l0 K0 m v1 (if z28 > v2 then z28 else v2) v3 v4 (i64.wrap (v5 + (1:Int))) ((i64.wrap (v5 + (1:Int)),v6.2))) else (bif List.getD v3 (Int.toNat v5) (0:Int) == (1:Int) then (let z29:=i64.wrap (i64.wrap (v5 - v6.2.2.2.1) + (1:Int)); C9.l0 K0 m v1 (if z29 > v2 then z29 else v2) v3 v4 (i64.wrap (v5 + (1:Int))) ((v6.1,i64.wrap (v5 + (1:Int)),v6.2.2))) else (bif List.getD v3 (Int.toNat v5) (0:Int) == (2:Int) then (let z30:=i64.wrap (i64.wrap (v5 - v6.2.2.2.1) + (1:Int)); C9.l0 K0 m v1 (if z30 > v2 then z30 else v2) v3 v4 (i64.wrap (v5 + (1:Int))) ((v6.1,v6.2.1,i64.wrap (v5 + (1:Int)),v6.2.2.2))) else (bif List.getD v3 (Int.toNat v5) (0:Int) == (3:Int) then (let z31:=i64.wrap (i64.wrap (v5 - v6.2.2.2.1) + (1:Int)); C9.l0 K0 m v1 (if z31 > v2 then z31 else v2) v3 v4 (i64.wrap (v5 + (1:Int))) ((v6.1,v6.2.1,v6.2.2.1,i64.wrap (v5 + (1:Int)),v6.2.2.2.2))) else (bif List.getD v3 (Int.toNat v5) (0:Int) == (4:Int) then (let z32:=i64.wrap (i64.wrap (v5 - v6.2.2.2.1) + (1:Int)); C9.l0 K0 m v1 (if z32 > v2 then z32 else v2) v3 v4 (i64.wrap (v5 + (1:Int))) ((v6.1,v6.2.1,v6.2.2.1,v6.2.2.2.1,i64.wrap (v5 + (1:Int)),v6.2.2.2.2.2))) else (bif List.getD v3 (Int.toNat v5) (0:Int) == (5:Int) then (let z33:=i64.wrap (i64.wrap (v5 - v6.2.2.2.1) + (1:Int)); C9.l0 K0 m v1 (if z33 > v2 then z33 else v2) v3 v4 (i64.wrap (v5 + (1:Int))) ((v6.1,v6.2.1,v6.2.2.1,v6.2.2.2.1,v6.2.2.2.2.1,i64.wrap (v5 + (1:Int)),v6.2.2.2.2.2.2))) else (bif List.getD v3 (Int.toNat v5) (0:Int) == (6:Int) then (let z34:=i64.wrap (i64.wrap (v5 - v6.2.2.2.1) + (1:Int)); C9.l0 K0 m v1 (if z34 > v2 then z34 else v2) v3 v4 (i64.wrap (v5 + (1:Int))) ((v6.1,v6.2.1,v6.2.2.1,v6.2.2.2.1,v6.2.2.2.2.1,v6.2.2.2.2.2.1,i64.wrap (v5 + (1:Int)),()))) else (none)))))))) else (none)) else (bif List.getD v3 (Int.toNat v5) (0:Int) == (4:Int) then (bif decide ((0:Int) ≤ List.getD v3 (Int.toNat v5) (0:Int)) && decide (List.getD v3 (Int.toNat v5) (0:Int) < (7:Int)) then (bif List.getD v3 (Int.toNat v5) (0:Int) == (0:Int) then (let z35:=i64.wrap (i64.wrap (v5 - v6.2.2.2.2.1) + (1:Int)); C9.l0 K0 m v1 (if z35 > v2 then z35 else v2) v3 v4 (i64.wrap (v5 + (1:Int))) ((i64.wrap (v5 + (1:Int)),v6.2))) else (bif List.getD v3 (Int.toNat v5) (0:Int) == (1:Int) then (let z36:=i64.wrap (i64.wrap (v5 - v6.2.2.2.2.1) + (1:Int)); C9.l0 K0 m v1 (if z36 > v2 then z36 else v2) v3 v4 (i64.wrap (v5 + (1:Int))) ((v6.1,i64.wrap (v5 + (1:Int)),v6.2.2))) else (bif List.getD v3 (Int.toNat v5) (0:Int) == (2:Int) then (let z37:=i64.wrap (i64.wrap (v5 - v6.2.2.2.2.1) + (1:Int)); C9.l0 K0 m v1 (if z37 > v2 then z37 else v2) v3 v4 (i64.wrap (v5 + (1:Int))) ((v6.1,v6.2.1,i64.wrap (v5 + (1:Int)),v6.2.2.2))) else (bif List.getD v3 (Int.toNat v5) (0:Int) == (3:Int) then (let z38:=i64.wrap (i64.wrap (v5 - v6.2.2.2.2.1) + (1:Int)); C9.l0 K0 m v1 (if z38 > v2 then z38 else v2) v3 v4 (i64.wrap (v5 + (1:Int))) ((v6.1,v6.2.1,v6.2.2.1,i64.wrap (v5 + (1:Int)),v6.2.2.2.2))) else (bif List.getD v3 (Int.toNat v5) (0:Int) == (4:Int) then (let z39:=i64.wrap (i64.wrap (v5 - v6.2.2.2.2.1) + (1:Int)); C9.l0 K0 m v1 (if z39 > v2 then z39 else v2) v3 v4 (i64.wrap (v5 + (1:Int))) ((v6.1,v6.2.1,v6.2.2.1,v6.2.2.2.1,i64.wrap (v5 + (1:Int)),v6.2.2.2.2.2))) else (bif List.getD v3 (Int.toNat v5) (0:Int) == (5:Int) then (let z40:=i64.wrap (i64.wrap (v5 - v6.2.2.2.2.1) + (1:Int)); C9.l0 K0 m v1 (if z40 > v2 then z40 else v2) v3 v4 (i64.wrap (v5 + (1:Int))) ((v6.1,v6.2.1,v6.2.2.1,v6.2.2.2.1,v6.2.2.2.2.1,i64.wrap (v5 + (1:Int)),v6.2.2.2.2.2.2))) else (bif List.getD v3 (Int.toNat v5) (0:Int) == (6:Int) then (let z41:=i64.wrap (i64.wrap (v5 - v6.2.2.2.2.1) + (1:Int)); C9.l0 K0 m v1 (if z41 > v2 then z41 else v2) v3 v4 (i64.wrap (v5 + (1:Int))) ((v6.1,v6.2.1,v6.2.2.1,v6.2.2.2.1,v6.2.2.2.2.1,v6.2.2.2.2.2.1,i64.wrap (v5 + (1:Int)),()))) else (none)))))))) else (none)) else (bif List.getD v3 (Int.toNat v5) (0:Int) == (5:Int) then (bif decide ((0:Int) ≤ List.getD v3 (Int.toNat v5) (0:Int)) && decide (List.getD v3 (Int.toNat v5) (0:Int) < (7:Int)) then (bif List.getD v3 (Int.toNat v5) (0:Int) == (0:Int) then (let z42:=i64.wrap (i64.wrap (v5 - v6.2.2.2.2.2.1) + (1:Int)); C9.l0 K0 m v1 (if z42 > v2 then z42 else v2) v3 v4 (i64.wrap (v5 + (1:Int))) ((i64.wrap (v5 + (1:Int)),v6.2))) else (bif List.getD v3 (Int.toNat v5) (0:Int) == (1:Int) then (let z43:=i64.wrap (i64.wrap (v5 - v6.2.2.2.2.2.1) + (1:Int)); C9.l0 K0 m v1 (if z43 > v2 then z43 else v2) v3 v4 (i64.wrap (v5 + (1:Int))) ((v6.1,i64.wrap (v5 + (1:Int)),v6.2.2))) else (bif List.getD v3 (Int.toNat v5) (0:Int) == (2:Int) then (let z44:=i64.wrap (i64.wrap (v5 - v6.2.2.2.2.2.1) + (1:Int)); C9.l0 K0 m v1 (if z44 > v2 then z44 else v2) v3 v4 (i64.wrap (v5 + (1:Int))) ((v6.1,v6.2.1,i64.wrap (v5 + (1:Int)),v6.2.2.2))) else (bif List.getD v3 (Int.toNat v5) (0:Int) == (3:Int) then (let z45:=i64.wrap (i64.wrap (v5 - v6.2.2.2.2.2.1) + (1:Int)); C9.l0 K0 m v1 (if z45 > v2 then z45 else v2) v3 v4 (i64.wrap (v5 + (1:Int))) ((v6.1,v6.2.1,v6.2.2.1,i64.wrap (v5 + (1:Int)),v6.2.2.2.2))) else (bif List.getD v3 (Int.toNat v5) (0:Int) == (4:Int) then (let z46:=i64.wrap (i64.wrap (v5 - v6.2.2.2.2.2.1) + (1:Int)); C9.l0 K0 m v1 (if z46 > v2 then z46 else v2) v3 v4 (i64.wrap (v5 + (1:Int))) ((v6.1,v6.2.1,v6.2.2.1,v6.2.2.2.1,i64.wrap (v5 + (1:Int)),v6.2.2.2.2.2))) else (bif List.getD v3 (Int.toNat v5) (0:Int) == (5:Int) then (let z47:=i64.wrap (i64.wrap (v5 - v6.2.2.2.2.2.1) + (1:Int)); C9.l0 K0 m v1 (if z47 > v2 then z47 else v2) v3 v4 (i64.wrap (v5 + (1:Int))) ((v6.1,v6.2.1,v6.2.2.1,v6.2.2.2.1,v6.2.2.2.2.1,i64.wrap (v5 + (1:Int)),v6.2.2.2.2.2.2))) else (bif List.getD v3 (Int.toNat v5) (0:Int) == (6:Int) then (let z48:=i64.wrap (i64.wrap (v5 - v6.2.2.2.2.2.1) + (1:Int)); C9.l0 K0 m v1 (if z48 > v2 then z48 else v2) v3 v4 (i64.wrap (v5 + (1:Int))) ((v6.1,v6.2.1,v6.2.2.1,v6.2.2.2.1,v6.2.2.2.2.1,v6.2.2.2.2.2.1,i64.wrap (v5 + (1:Int)),()))) else (none)))))))) else (none)) else (bif List.getD v3 (Int.toNat v5) (0:Int) == (6:Int) then (bif decide ((0:Int) ≤ List.getD v3 (Int.toNat v5) (0:Int)) && decide (List.getD v3 (Int.toNat v5) (0:Int) < (7:Int)) then (bif List.getD v3 (Int.toNat v5) (0:Int) == (0:Int) then (let z49:=i64.wrap (i64.wrap (v5 - v6.2.2.2.2.2.2.1) + (1:Int)); C9.l0 K0 m v1 (if z49 > v2 then z49 else v2) v3 v4 (i64.wrap (v5 + (1:Int))) ((i64.wrap (v5 + (1:Int)),v6.2))) else (bif List.getD v3 (Int.toNat v5) (0:Int) == (1:Int) then (let z50:=i64.wrap (i64.wrap (v5 - v6.2.2.2.2.2.2.1) + (1:Int)); C9.l0 K0 m v1 (if z50 > v2 then z50 else v2) v3 v4 (i64.wrap (v5 + (1:Int))) ((v6.1,i64.wrap (v5 + (1:Int)),v6.2.2))) else (bif List.getD v3 (Int.toNat v5) (0:Int) == (2:Int) then (let z51:=i64.wrap (i64.wrap (v5 - v6.2.2.2.2.2.2.1) + (1:Int)); C9.l0 K0 m v1 (if z51 > v2 then z51 else v2) v3 v4 (i64.wrap (v5 + (1:Int))) ((v6.1,v6.2.1,i64.wrap (v5 + (1:Int)),v6.2.2.2))) else (bif List.getD v3 (Int.toNat v5) (0:Int) == (3:Int) then (let z52:=i64.wrap (i64.wrap (v5 - v6.2.2.2.2.2.2.1) + (1:Int)); C9.l0 K0 m v1 (if z52 > v2 then z52 else v2) v3 v4 (i64.wrap (v5 + (1:Int))) ((v6.1,v6.2.1,v6.2.2.1,i64.wrap (v5 + (1:Int)),v6.2.2.2.2))) else (bif List.getD v3 (Int.toNat v5) (0:Int) == (4:Int) then (let z53:=i64.wrap (i64.wrap (v5 - v6.2.2.2.2.2.2.1) + (1:Int)); C9.l0 K0 m v1 (if z53 > v2 then z53 else v2) v3 v4 (i64.wrap (v5 + (1:Int))) ((v6.1,v6.2.1,v6.2.2.1,v6.2.2.2.1,i64.wrap (v5 + (1:Int)),v6.2.2.2.2.2))) else (bif List.getD v3 (Int.toNat v5) (0:Int) == (5:Int) then (let z54:=i64.wrap (i64.wrap (v5 - v6.2.2.2.2.2.2.1) + (1:Int)); C9.l0 K0 m v1 (if z54 > v2 then z54 else v2) v3 v4 (i64.wrap (v5 + (1:Int))) ((v6.1,v6.2.1,v6.2.2.1,v6.2.2.2.1,v6.2.2.2.2.1,i64.wrap (v5 + (1:Int)),v6.2.2.2.2.2.2))) else (bif List.getD v3 (Int.toNat v5) (0:Int) == (6:Int) then (let z55:=i64.wrap (i64.wrap (v5 - v6.2.2.2.2.2.2.1) + (1:Int)); C9.l0 K0 m v1 (if z55 > v2 then z55 else v2) v3 v4 (i64.wrap (v5 + (1:Int))) ((v6.1,v6.2.1,v6.2.2.1,v6.2.2.2.1,v6.2.2.2.2.1,v6.2.2.2.2.2.1,i64.wrap (v5 + (1:Int)),()))) else (none)))))))) else (none)) else (none)))))))) else (none)) else (C9.l0 K0 m v1 v2 v3 v4 (i64.wrap (v5 + (1:Int))) v6)) else (C9.l0 K0 m v1 v2 v3 v4 (i64.wrap (v5 + (1:Int))) v6)) else (none)) else (K0 v1 v2 v6)
def C9.l0.t:St:=⟨jka 36 [zv SI,jk,jk,zv I6,.one (.sc (.ptr 0 0)),jk,jk,jk,jk,zv SI,zv I6,zv I6],[.cells (dc a65)],0⟩
def C9.l0.e0:St:=⟨jka 43 [zv SI,jk,jk,zv I6,.one (.sc (.ptr 0 0))],[.cells (dc a65)],0⟩
def C9.raw (m:Nat) (x0:(Ty.den SI)):Option (Args [I6]):=C9.l0 (fun o56 o57 o58=>C9.l1 (fun o70=>some ((o70,()))) m o56 o57 o58 ((0:Int))) m x0 ((7:Int)) x0 ((↑(List.length x0):Int)) ((0:Int)) (((0:Int),(0:Int),(0:Int),(0:Int),(0:Int),(0:Int),(0:Int),()))
def C9.val (x0:(Ty.den SI)):=(C9.raw fuel x0).getD (dfltA [I6])
def C9.dom (x0:(Ty.den SI)):=(C9.raw fuel x0).isSome
def C9.sg:Sig:=⟨[SI],[I6],false,fun x=>C9.dom x.1,fun x=>C9.val x.1⟩
noncomputable def C9.q0 (m:Nat) (s:St) (k:X → St → Option (Args [I6])):Option (Args [I6]) :=
 match unSt C9.l0.t [SI,I6,SI,I6,I6,a65] s with
  | some x=>C9.l0 (fun o0 o1 o2=>k (.exit 0) (mkSt C9.l0.e0 [SI,I6,a65] (o0,(o1,(o2,()))))) m x.1 x.2.1 x.2.2.1 x.2.2.2.1 x.2.2.2.2.1 x.2.2.2.2.2.1
  | none=>none
noncomputable def C9.q1 (m:Nat) (s:St) (k:X → St → Option (Args [I6])):Option (Args [I6]) :=
 match unSt C9.l1.t [SI,I6,a65,I6] s with
  | some x=>C9.l1 (fun o0=>k (.exit 2) (mkSt C9.l1.e0 [I6] (o0,()))) m x.1 x.2.1 x.2.2.1 x.2.2.2.1
  | none=>none
noncomputable def C9.L (m:Nat) (c:Code) (s:St) (k:X → St → Option (Args [I6])):Option (Args [I6]) :=
 match O9 c with
 | some r=>bif Nat.beq r 12004 then (C9.q0 m s k) else bif Nat.beq r 37011 then (C9.q1 m s k) else none
 | none=>none
theorem C9.cs_eq:loopsL Go.Proofs.Tryz.f54 [] = [(loopsL Go.Proofs.Tryz.f54 []).getD 0 .skip,(loopsL Go.Proofs.Tryz.f54 []).getD 1 .skip]:=by kernel_rfl
theorem C9.good:Good (C9.E) (fun c=>c ∈ loopsL Go.Proofs.Tryz.f54 []) C9.L:=by
 have cases:∀ c,c ∈ loopsL Go.Proofs.Tryz.f54 [] → c = (loopsL Go.Proofs.Tryz.f54 []).getD 0 .skip ∨ c = (loopsL Go.Proofs.Tryz.f54 []).getD 1 .skip:=by
  intro c hc; rw [C9.cs_eq] at hc; simpa only [List.mem_cons,List.not_mem_nil,or_false] using hc
 refine ⟨?_,?_,fun c hc=>T4 c hc⟩
 ·intro c s k r hc h
  rcases cases c hc with rfl | rfl
  ·have h':C9.q0 0 s k = some r:=Eq.trans (by kernel_rfl) h
   unfold C9.q0 at h'
   split at h'
   ·rename_i x hx
    have h2:(none:Option (Args [I6])) = some r:=Eq.trans (by kernel_rfl) h'
    cases h2
   cases h'
  ·have h':C9.q1 0 s k = some r:=Eq.trans (by kernel_rfl) h
   unfold C9.q1 at h'
   split at h'
   ·rename_i x hx
    have h2:(none:Option (Args [I6])) = some r:=Eq.trans (by kernel_rfl) h'
    cases h2
   cases h'
 ·intro m c s k r hc h
  rcases cases c hc with rfl | rfl
  ·have h':C9.q0 (m + 1) s k = some r:=Eq.trans (by kernel_rfl) h
   unfold C9.q0 at h'
   split at h'
   ·rename_i x hx
    rw [O8 hx]
    exact Eq.trans (by kernel_rfl) h'
   cases h'
  ·have h':C9.q1 (m + 1) s k = some r:=Eq.trans (by kernel_rfl) h
   unfold C9.q1 at h'
   split at h'
   ·rename_i x hx
    rw [O8 hx]
    exact Eq.trans (by kernel_rfl) h'
   cases h'
theorem C9.eq (m:Nat) (x0:(Ty.den SI)):runS C9.E Go.Proofs.Tryz.f54 C9.sg (C9.L m) (x0,()) = C9.raw m x0:=by kernel_rfl
theorem C9.told (h:Base0):Told 54 C9.sg :=
 T5 h fn54 (l:=[]) (il:=[]) (pl:=[]) trivial trivial trivial (L:=C9.L) C9.good (fun x=>C9.eq fuel x.1)
end Pt
end
section
open Go Go.Am
namespace Pt
set_option maxRecDepth 100000
abbrev a28.ls:List (Nat × Sig):=[(54,C9.sg)]
def a28.E:Env:=mkE a28.ls
def a28.raw (m:Nat) (x0:(Ty.den SI)) (x1:Int):Option (Args [.bool]):=let y1:=C9.val x0; bif C9.dom x0 then (some ((decide (y1.1 ≤ x1),()))) else none
def a28.val (x0:(Ty.den SI)) (x1:Int):=(a28.raw fuel x0 x1).getD (dfltA [.bool])
def a28.dom (x0:(Ty.den SI)) (x1:Int):=(a28.raw fuel x0 x1).isSome
def a28.sg:Sig:=⟨[SI,I6],[.bool],false,fun x=>a28.dom x.1 x.2.1,fun x=>a28.val x.1 x.2.1⟩
theorem a28.eq (m:Nat) (x0:(Ty.den SI)) (x1:Int):runS a28.E Go.Proofs.Tryz.f55 a28.sg (nL m) (x0,(x1,())) = a28.raw m x0 x1:=by kernel_rfl
theorem a28.told(h:Base0) (hs:AllT a28.ls):Told 55 a28.sg :=
 told_n h fn55 hs (fun x=>a28.eq fuel x.1 x.2.1)
def a01.sg:Sig:=hsg S2.sg
def a01.val (x0:Ty.den a7) (x1:Ty.den SB):Args [a7,I6]:=a01.sg.val (x0,(x1,()))
def a01.dom (x0:Ty.den a7) (x1:Ty.den SB):Bool:=a01.sg.dom (x0,(x1,()))
def X0.sg:Sig:=hsg X9.sg
def X0.val :Args [a7]:=X0.sg.val ()
def X0.dom :Bool:=X0.sg.dom ()
def V9.sg:Sig:=hsg T1.sg
def V9.val (x0:Ty.den a7):Args [SI]:=V9.sg.val (x0,())
def V9.dom (x0:Ty.den a7):Bool:=V9.sg.dom (x0,())
def a00.sg:Sig:=hsg a17.sg
def a00.val (x0:Ty.den a7):Args [I6]:=a00.sg.val (x0,())
def a00.dom (x0:Ty.den a7):Bool:=a00.sg.dom (x0,())
def a06.sg:Sig:=hsg a41.sg
def a06.val (x0:Ty.den a7):Args [I6]:=a06.sg.val (x0,())
def a06.dom (x0:Ty.den a7):Bool:=a06.sg.dom (x0,())
def a02.sg:Sig:=hsg D9.sg
def a02.val (x0:Ty.den a7) (x1:Ty.den SI):Args [a7,I6]:=a02.sg.val (x0,(x1,()))
def a02.dom (x0:Ty.den a7) (x1:Ty.den SI):Bool:=a02.sg.dom (x0,(x1,()))
def a11.sg:Sig:=hsg C9.sg
def a11.val (x0:Ty.den SI):Args [I6]:=a11.sg.val (x0,())
def a11.dom (x0:Ty.den SI):Bool:=a11.sg.dom (x0,())
def a07.sg:Sig:=hsg a28.sg
def a07.val (x0:Ty.den SI) (x1:Ty.den I6):Args [.bool]:=a07.sg.val (x0,(x1,()))
def a07.dom (x0:Ty.den SI) (x1:Ty.den I6):Bool:=a07.sg.dom (x0,(x1,()))
abbrev V4.ls:List (Nat × Sig):=[(16,a01.sg),(17,X0.sg),(22,V9.sg),(24,a00.sg),(29,a06.sg),(35,a02.sg),(54,a11.sg),(55,a07.sg)]
def V4.E:Env:=mkE V4.ls
def V4.raw (m:Nat) :Option (Args [.bool]):=let y1:=X0.val; bif X0.dom then (let y2:=a01.val y1.1 ([(65:Int)]); bif a01.dom y1.1 ([(65:Int)]) then (let z3:=[(0:Int),(6:Int),(1:Int)]; let y4:=a02.val y2.1 z3; bif a02.dom y2.1 z3 then (bif y2.2.1 == (0:Int) then (bif y4.2.1 == (2:Int) then (let y5:=a06.val y4.1; bif a06.dom y4.1 then (bif y5.1 == (1:Int) then (let y6:=X0.val; bif X0.dom then (let y7:=V9.val y6.1; bif V9.dom y6.1 then (bif (↑(List.length y7.1):Int) == (0:Int) then (let y8:=X0.val; bif X0.dom then (let y9:=a00.val y8.1; bif a00.dom y8.1 then (bif y9.1 == (1:Int) then (let y10:=V9.val y2.1; bif V9.dom y2.1 then (bif (↑(List.length y10.1):Int) == (1:Int) then (let z11:=[(0:Int),(0:Int),(0:Int),(0:Int),(0:Int),(0:Int),(0:Int),(1:Int)]; let y12:=a11.val z11; bif a11.dom z11 then (bif y12.1 == (9:Int) then (let z13:=[(0:Int),(1:Int),(2:Int),(3:Int),(4:Int),(5:Int),(6:Int)]; let y14:=a07.val z13 ((7:Int)); bif a07.dom z13 ((7:Int)) then (some y14) else none) else (some ((false,())))) else none) else (some ((false,())))) else none) else (some ((false,())))) else none) else none) else (some ((false,())))) else none) else none) else (some ((false,())))) else none) else (some ((false,())))) else (some ((false,())))) else none) else none) else none
def V4.val :=(V4.raw fuel ).getD (dfltA [.bool])
def V4.dom :=(V4.raw fuel ).isSome
def V4.sg:Sig:=⟨[],[.bool],false,fun x=>V4.dom ,fun x=>V4.val ⟩
theorem V4.eq (m:Nat) :runS V4.E Go.Proofs.Tryz.f15 V4.sg (nL m) () = V4.raw m :=by kernel_rfl
theorem V4.told(h:Base0) (hs:AllT V4.ls):Told 15 V4.sg :=
 told_n h fn15 hs (fun x=>V4.eq fuel )
end Pt
end
section
open Go Go.Am
open IntKind (i64 u64 u8 i32 u32)
namespace Pt
set_option maxRecDepth 100000
abbrev E2.ls:List (Nat × Sig):=[(35,D9.sg)]
def E2.E:Env:=⟨T,sigL E2.ls,inlL [],annL [(11002,⟨some [1,2,3,6,8],[],[(3,a7),(6,a7)],some [3,6,8]⟩)],[],primL [],globL⟩
def E2.l0 (K0:Int → (Ty.den a7) → (Ty.den a7) → Option (Args [a7,I6])):Nat → (Ty.den SI) → Int → Int → (Ty.den a7) → (Ty.den a7) → Option (Args [a7,I6])
 | 0,_,_,_,_,_=>none
 | m + 1,v1,v2,v3,v4,v5=>bif decide (v3 < v2) then (let y6:=D9.val v4 v1; bif D9.dom v4 v1 then (bif y6.2.1 == (0:Int) then (K0 v3 v4 v5) else (E2.l0 K0 m v1 v2 (i64.wrap (v3 + (1:Int))) y6.1 v5)) else none) else (K0 v3 v4 v5)
def E2.l0.t:St:=⟨jka 18 [jk,zv SI,zv I6,.one (.sc (.ptr 0 0)),jk,jk,.one (.sc (.ptr 1 0)),jk,zv I6],[.cells (dc a7),.cells (dc a7)],0⟩
def E2.l0.e0:St:=⟨jka 18 [jk,jk,jk,.one (.sc (.ptr 0 0)),jk,jk,.one (.sc (.ptr 1 0)),jk,zv I6],[.cells (dc a7),.cells (dc a7)],0⟩
def E2.raw (m:Nat) (x0:(Ty.den a7)) (x1:(Ty.den SI)) (x2:Int):Option (Args [a7,I6]):=let z7:=(((0:Int),(ByteArray.mk (nl UInt8).toArray,()),(nl Int,()),(nl Int,(false,(0:Int),false,false,()),()),nl Int,()),nl Int,false,false,()); let z8:=((nl (List (Ty.int i64).den),false,()),(nl (List (Ty.int i64).den),false,()),(nl (List (Ty.int i64).den),false,()),(nl (List (Ty.int i64).den),false,()),(nl (List (Ty.int i64).den),false,()),()); let z9:=((false,(z7,z7,z7,z7,z7,()),((nl (List (Ty.int i64).den),false,()),z8),()),nl Int,(false,false,()),(0:Int),()); E2.l0 (fun o10 o11 o12=>some ((o11,o10,()))) m x1 x2 ((0:Int)) x0 ((false,false,(nl Int,false,(0:Int),nl Int,()),z9))
def E2.val (x0:(Ty.den a7)) (x1:(Ty.den SI)) (x2:Int):=(E2.raw fuel x0 x1 x2).getD (dfltA [a7,I6])
def E2.dom (x0:(Ty.den a7)) (x1:(Ty.den SI)) (x2:Int):=(E2.raw fuel x0 x1 x2).isSome
def E2.sg:Sig:=⟨[a7,SI,I6],[a7,I6],false,fun x=>E2.dom x.1 x.2.1 x.2.2.1,fun x=>E2.val x.1 x.2.1 x.2.2.1⟩
noncomputable def E2.q0 (m:Nat) (s:St) (k:X → St → Option (Args [a7,I6])):Option (Args [a7,I6]) :=
 match unSt E2.l0.t [SI,I6,I6,a7,a7] s with
  | some x=>E2.l0 (fun o0 o1 o2=>k (.exit 0) (mkSt E2.l0.e0 [I6,a7,a7] (o0,(o1,(o2,()))))) m x.1 x.2.1 x.2.2.1 x.2.2.2.1 x.2.2.2.2.1
  | none=>none
noncomputable def E2.L (m:Nat) (c:Code) (s:St) (k:X → St → Option (Args [a7,I6])):Option (Args [a7,I6]) :=
 match O9 c with
 | some r=>bif Nat.beq r 11002 then (E2.q0 m s k) else none
 | none=>none
theorem E2.cs_eq:loopsL Go.Proofs.Tryz.f20 [] = [(loopsL Go.Proofs.Tryz.f20 []).getD 0 .skip]:=by kernel_rfl
theorem E2.good:Good (E2.E) (fun c=>c ∈ loopsL Go.Proofs.Tryz.f20 []) E2.L:=by
 have cases:∀ c,c ∈ loopsL Go.Proofs.Tryz.f20 [] → c = (loopsL Go.Proofs.Tryz.f20 []).getD 0 .skip:=by
  intro c hc; rw [E2.cs_eq] at hc; simpa only [List.mem_cons,List.not_mem_nil,or_false] using hc
 refine ⟨?_,?_,fun c hc=>T4 c hc⟩
 ·intro c s k r hc h
  rcases cases c hc with rfl
  ·have h':E2.q0 0 s k = some r:=Eq.trans (by kernel_rfl) h
   unfold E2.q0 at h'
   split at h'
   ·rename_i x hx
    have h2:(none:Option (Args [a7,I6])) = some r:=Eq.trans (by kernel_rfl) h'
    cases h2
   cases h'
 ·intro m c s k r hc h
  rcases cases c hc with rfl
  ·have h':E2.q0 (m + 1) s k = some r:=Eq.trans (by kernel_rfl) h
   unfold E2.q0 at h'
   split at h'
   ·rename_i x hx
    rw [O8 hx]
    exact Eq.trans (by kernel_rfl) h'
   cases h'
theorem E2.eq (m:Nat) (x0:(Ty.den a7)) (x1:(Ty.den SI)) (x2:Int):runS E2.E Go.Proofs.Tryz.f20 E2.sg (E2.L m) (x0,(x1,(x2,()))) = E2.raw m x0 x1 x2:=by kernel_rfl
theorem E2.told (h:Base0) (hs:AllT E2.ls):Told 20 E2.sg :=
 T5 h fn20 (il:=[]) (pl:=[]) hs trivial trivial (L:=E2.L) E2.good (fun x=>E2.eq fuel x.1 x.2.1 x.2.2.1)
def N8.E:Env:=⟨T,sigL [],inlL [],annL [(4002,⟨some [0,3],[],[],some [0,2]⟩)],[],primL [],globL⟩
def N8.l0 (K0:(Ty.den (.slice O5)) → Bool → Option (Args [.bool])) (K1:(Ty.den (.slice O5)) → Option (Args [.bool])):Nat → (Ty.den (.slice O5)) → Int → Option (Args [.bool])
 | 0,_,_=>none
 | m + 1,v1,v2=>bif decide (v2 < (↑(List.length v1):Int)) then (bif decide ((0:Int) ≤ v2) && decide (v2 < (↑(List.length v1):Int)) then (bif decide ((↑(List.length (List.getD v1 (Int.toNat v2) O5.dflt).2.2.1):Int) > (60:Int)) then (K0 v1 false) else (N8.l0 K0 K1 m v1 (i64.wrap (v2 + (1:Int))))) else (none)) else (K1 v1)
def N8.l0.t:St:=⟨jka 16 [zv (.slice O5),jk,jk,zv I6],[],0⟩
def N8.l0.e0:St:=⟨jka 17 [zv (.slice O5),jk,zv .bool],[],0⟩
def N8.l0.e1:St:=⟨jka 19 [zv (.slice O5)],[],0⟩
def N8.raw (m:Nat) (x0:(Ty.den (.slice O5))):Option (Args [.bool]):=N8.l0 (fun o3 o4=>some ((o4,()))) (fun o5=>some ((decide ((↑(List.length o5):Int) ≤ (60:Int)),()))) m x0 ((0:Int))
def N8.val (x0:(Ty.den (.slice O5))):=(N8.raw fuel x0).getD (dfltA [.bool])
def N8.dom (x0:(Ty.den (.slice O5))):=(N8.raw fuel x0).isSome
def N8.sg:Sig:=⟨[(.slice O5)],[.bool],false,fun x=>N8.dom x.1,fun x=>N8.val x.1⟩
noncomputable def N8.q0 (m:Nat) (s:St) (k:X → St → Option (Args [.bool])):Option (Args [.bool]) :=
 match unSt N8.l0.t [(.slice O5),I6] s with
  | some x=>N8.l0 (fun o0 o1=>k .ret (mkSt N8.l0.e0 [(.slice O5),.bool] (o0,(o1,())))) (fun o0=>k (.exit 0) (mkSt N8.l0.e1 [(.slice O5)] (o0,()))) m x.1 x.2.1
  | none=>none
noncomputable def N8.L (m:Nat) (c:Code) (s:St) (k:X → St → Option (Args [.bool])):Option (Args [.bool]) :=
 match O9 c with
 | some r=>bif Nat.beq r 4002 then (N8.q0 m s k) else none
 | none=>none
theorem N8.cs_eq:loopsL Go.Proofs.Tryz.f31 [] = [(loopsL Go.Proofs.Tryz.f31 []).getD 0 .skip]:=by kernel_rfl
theorem N8.good:Good (N8.E) (fun c=>c ∈ loopsL Go.Proofs.Tryz.f31 []) N8.L:=by
 have cases:∀ c,c ∈ loopsL Go.Proofs.Tryz.f31 [] → c = (loopsL Go.Proofs.Tryz.f31 []).getD 0 .skip:=by
  intro c hc; rw [N8.cs_eq] at hc; simpa only [List.mem_cons,List.not_mem_nil,or_false] using hc
 refine ⟨?_,?_,fun c hc=>T4 c hc⟩
 ·intro c s k r hc h
  rcases cases c hc with rfl
  ·have h':N8.q0 0 s k = some r:=Eq.trans (by kernel_rfl) h
   unfold N8.q0 at h'
   split at h'
   ·rename_i x hx
    have h2:(none:Option (Args [.bool])) = some r:=Eq.trans (by kernel_rfl) h'
    cases h2
   cases h'
 ·intro m c s k r hc h
  rcases cases c hc with rfl
  ·have h':N8.q0 (m + 1) s k = some r:=Eq.trans (by kernel_rfl) h
   unfold N8.q0 at h'
   split at h'
   ·rename_i x hx
    rw [O8 hx]
    exact Eq.trans (by kernel_rfl) h'
   cases h'
theorem N8.eq (m:Nat) (x0:(Ty.den (.slice O5))):runS N8.E Go.Proofs.Tryz.f31 N8.sg (N8.L m) (x0,()) = N8.raw m x0:=by kernel_rfl
theorem N8.told (h:Base0):Told 31 N8.sg :=
 T5 h fn31 (l:=[]) (il:=[]) (pl:=[]) trivial trivial trivial (L:=N8.L) N8.good (fun x=>N8.eq fuel x.1)
abbrev Y8.ls:List (Nat × Sig):=[(86,N7.sg)]
def Y8.E:Env:=mkE Y8.ls
def Y8.raw (m:Nat) (x0:(Ty.den D7)) (x1:Int):Option (Args [D7,I6]):=let y1:=N7.val x0; bif N7.dom x0 then (bif decide (x1 < (0:Int)) then (some ((y1.1,(2:Int),()))) else (bif decide (x1 > i64.wrap ((4096:Int) - y1.1.2.2.1)) then (some ((y1.1,(3:Int),()))) else (some (((y1.1.1,y1.1.2.1,i64.wrap (y1.1.2.2.1 + x1),y1.1.2.2.2),(0:Int),()))))) else none
def Y8.val (x0:(Ty.den D7)) (x1:Int):=(Y8.raw fuel x0 x1).getD (dfltA [D7,I6])
def Y8.dom (x0:(Ty.den D7)) (x1:Int):=(Y8.raw fuel x0 x1).isSome
def Y8.sg:Sig:=⟨[D7,I6],[D7,I6],false,fun x=>Y8.dom x.1 x.2.1,fun x=>Y8.val x.1 x.2.1⟩
theorem Y8.eq (m:Nat) (x0:(Ty.den D7)) (x1:Int):runS Y8.E Go.Proofs.Tryz.f59 Y8.sg (nL m) (x0,(x1,())) = Y8.raw m x0 x1:=by kernel_rfl
theorem Y8.told(h:Base0) (hs:AllT Y8.ls):Told 59 Y8.sg :=
 told_n h fn59 hs (fun x=>Y8.eq fuel x.1 x.2.1)
end Pt
end
end
