/- What functions of the given program compute, each by the abstract machine. Conditions: none beyond the statement's own. -/
import Derived.Test.YtkciioajiopobaaGreatDoorTypes1
import Derived.Test.YtkciioajiopobaaGreatDoorWalks1
set_option linter.all false
noncomputable section
section
open Go Go.Am
open IntKind (i64 u64 u8 i32 u32)
namespace Pt
set_option maxRecDepth 100000
abbrev B6.ls:List (Nat × Sig):=[(189,R5.sg),(191,T8.sg)]
def B6.E:Env:=⟨T,sigL B6.ls,inlL [],annL [(9002,⟨some [0,1,7,8],[],[],some [4]⟩)],[189,191],primL [],globL⟩
def B6.l0 (K0:Int → Option (Args [I6])) (K1:Option (Args [I6])):Nat → (Ty.den SI) → (Ty.den .fn) → Int → Int → Option (Args [I6])
 | 0,_,_,_,_=>none
 | m + 1,v1,v2,v3,v4=>bif decide (v4 < v3) then (bif decide ((0:Int) ≤ v4) && decide (v4 < (↑(List.length v1):Int)) then (bif v2 == Option.some (189:Go.FuncId) then (let y5:=R5.val (List.getD v1 (Int.toNat v4) (0:Int)); bif R5.dom (List.getD v1 (Int.toNat v4) (0:Int)) then (bif y5.1 then (K0 v4) else (B6.l0 K0 K1 m v1 v2 v3 (i64.wrap (v4 + (1:Int))))) else none) else (bif v2 == Option.some (191:Go.FuncId) then (let y6:=T8.val (List.getD v1 (Int.toNat v4) (0:Int)); bif T8.dom (List.getD v1 (Int.toNat v4) (0:Int)) then (bif y6.1 then (K0 v4) else (B6.l0 K0 K1 m v1 v2 v3 (i64.wrap (v4 + (1:Int))))) else none) else (none))) else (none)) else (K1)
def B6.l0.t:St:=⟨jka 10 [zv SI,.one (.sc (.lf .fn none)),jk,jk,jk,jk,jk,zv I6,zv I6],[],0⟩
def B6.l0.e0:St:=⟨jka 14 [jk,jk,jk,jk,zv I6],[],0⟩
def B6.l0.e1:St:=⟨jka 18 [jk],[],0⟩
def B6.raw (m:Nat) (x0:(Ty.den SI)) (x1:(Ty.den .fn)):Option (Args [I6]):=B6.l0 (fun o7=>some ((o7,()))) (some (((-1:Int),()))) m x0 x1 ((↑(List.length x0):Int)) ((0:Int))
def B6.val (x0:(Ty.den SI)) (x1:(Ty.den .fn)):=(B6.raw fuel x0 x1).getD (dfltA [I6])
def B6.dom (x0:(Ty.den SI)) (x1:(Ty.den .fn)):=(B6.raw fuel x0 x1).isSome
def B6.sg:Sig:=⟨[SI,.fn],[I6],false,fun x=>B6.dom x.1 x.2.1,fun x=>B6.val x.1 x.2.1⟩
noncomputable def B6.q0 (m:Nat) (s:St) (k:X → St → Option (Args [I6])):Option (Args [I6]) :=
 match unSt B6.l0.t [SI,.fn,I6,I6] s with
  | some x=>B6.l0 (fun o0=>k .ret (mkSt B6.l0.e0 [I6] (o0,()))) (k (.exit 0) (mkSt B6.l0.e1 [] ())) m x.1 x.2.1 x.2.2.1 x.2.2.2.1
  | none=>none
noncomputable def B6.L (m:Nat) (c:Code) (s:St) (k:X → St → Option (Args [I6])):Option (Args [I6]) :=
 match O9 c with
 | some r=>bif Nat.beq r 9002 then (B6.q0 m s k) else none
 | none=>none
theorem B6.cs_eq:loopsL Go.Proofs.Tryz.f217 [] = [(loopsL Go.Proofs.Tryz.f217 []).getD 0 .skip]:=by kernel_rfl
theorem B6.good:Good (B6.E) (fun c=>c ∈ loopsL Go.Proofs.Tryz.f217 []) B6.L:=by
 have cases:∀ c,c ∈ loopsL Go.Proofs.Tryz.f217 [] → c = (loopsL Go.Proofs.Tryz.f217 []).getD 0 .skip:=by
  intro c hc; rw [B6.cs_eq] at hc; simpa only [List.mem_cons,List.not_mem_nil,or_false] using hc
 refine ⟨?_,?_,fun c hc=>T4 c hc⟩
 ·intro c s k r hc h
  rcases cases c hc with rfl
  ·have h':B6.q0 0 s k = some r:=Eq.trans (by kernel_rfl) h
   unfold B6.q0 at h'
   split at h'
   ·rename_i x hx
    have h2:(none:Option (Args [I6])) = some r:=Eq.trans (by kernel_rfl) h'
    cases h2
   cases h'
 ·intro m c s k r hc h
  rcases cases c hc with rfl
  ·have h':B6.q0 (m + 1) s k = some r:=Eq.trans (by kernel_rfl) h
   unfold B6.q0 at h'
   split at h'
   ·rename_i x hx
    rw [O8 hx]
    exact Eq.trans (by kernel_rfl) h'
   cases h'
theorem B6.eq (m:Nat) (x0:(Ty.den SI)) (x1:(Ty.den .fn)):runS B6.E Go.Proofs.Tryz.f217 B6.sg (B6.L m) (x0,(x1,())) = B6.raw m x0 x1:=by kernel_rfl
theorem B6.told (h:Base0) (hs:AllT B6.ls):Told 217 B6.sg :=
 T5 h fn217 (il:=[]) (pl:=[]) hs trivial trivial (L:=B6.L) B6.good (fun x=>B6.eq fuel x.1 x.2.1)
end Pt
end
section
open Go Go.Am
namespace Pt
set_option maxRecDepth 100000
abbrev E5.ls:List (Nat × Sig):=[(217,B6.sg),(191,T8.sg)]
def E5.E:Env:=⟨T,sigL E5.ls,inlL [],annL [],[191],primL [],globL⟩
def E5.raw (m:Nat) (x0:(Ty.den SI)) (x1:(Ty.den .fn)):Option (Args [.bool]):=let y1:=B6.val x0 x1; bif B6.dom x0 x1 then (some ((decide (y1.1 ≥ (0:Int)),()))) else none
def E5.val (x0:(Ty.den SI)) (x1:(Ty.den .fn)):=(E5.raw fuel x0 x1).getD (dfltA [.bool])
def E5.dom (x0:(Ty.den SI)) (x1:(Ty.den .fn)):=(E5.raw fuel x0 x1).isSome
def E5.sg:Sig:=⟨[SI,.fn],[.bool],false,fun x=>E5.dom x.1 x.2.1,fun x=>E5.val x.1 x.2.1⟩
theorem E5.eq (m:Nat) (x0:(Ty.den SI)) (x1:(Ty.den .fn)):runS E5.E Go.Proofs.Tryz.f190 E5.sg (nL m) (x0,(x1,())) = E5.raw m x0 x1:=by kernel_rfl
theorem E5.told (h:Base0) (hs:AllT E5.ls):Told 190 E5.sg :=
 T5 h fn190 (il:=[]) (pl:=[]) hs trivial trivial (L:=(fun _ _ _ _=>none)) a14 (fun x=>E5.eq fuel x.1 x.2.1)
end Pt
end
section
open Go Go.Am
open IntKind (i64 u64 u8 i32 u32)
namespace Pt
set_option maxRecDepth 100000
abbrev O1.ls:List (Nat × Sig):=[(192,R2.sg)]
def O1.E:Env:=mkE O1.ls
def O1.raw (m:Nat) (x0:(Ty.den E7)):Option (Args [I6]):=bif decide ((↑(List.length x0.1):Int) > (0:Int)) then (bif decide ((0:Int) < (↑(List.length x0.1):Int)) then (let y1:=R2.val (List.getD x0.1 (0:Nat) (0:Int)); bif R2.dom (List.getD x0.1 (0:Nat) (0:Int)) then (bif !y1.1 then (some ((i64.wrap ((↑(List.length x0.1):Int) - (1:Int)),()))) else (some (((↑(List.length x0.1):Int),())))) else none) else (none)) else (some (((↑(List.length x0.1):Int),())))
def O1.val (x0:(Ty.den E7)):=(O1.raw fuel x0).getD (dfltA [I6])
def O1.dom (x0:(Ty.den E7)):=(O1.raw fuel x0).isSome
def O1.sg:Sig:=⟨[E7],[I6],false,fun x=>O1.dom x.1,fun x=>O1.val x.1⟩
theorem O1.eq (m:Nat) (x0:(Ty.den E7)):runS O1.E Go.Proofs.Tryz.f193 O1.sg (nL m) (x0,()) = O1.raw m x0:=by kernel_rfl
theorem O1.told(h:Base0) (hs:AllT O1.ls):Told 193 O1.sg :=
 told_n h fn193 hs (fun x=>O1.eq fuel x.1)
def C6.E:Env:=⟨T,sigL [],inlL [],annL [(14004,⟨some [0,1,12,13],[],[],some [4]⟩)],[],primL [],globL⟩
def C6.l0 (K0:Bool → Option (Args [.bool])) (K1:Option (Args [.bool])):Nat → (Ty.den SI) → (Ty.den SI) → Int → Int → Option (Args [.bool])
 | 0,_,_,_,_=>none
 | m + 1,v1,v2,v3,v4=>bif decide (v4 < v3) then (bif decide ((0:Int) ≤ v4) && decide (v4 < (↑(List.length v1):Int)) then (bif decide ((0:Int) ≤ v4) && decide (v4 < (↑(List.length v2):Int)) then (bif List.getD v1 (Int.toNat v4) (0:Int) != List.getD v2 (Int.toNat v4) (0:Int) then (K0 false) else (C6.l0 K0 K1 m v1 v2 v3 (i64.wrap (v4 + (1:Int))))) else (none)) else (none)) else (K1)
def C6.l0.t:St:=⟨jka 12 [zv SI,zv SI,jk,jk,jk,jk,jk,jk,jk,jk,jk,jk,zv I6,zv I6],[],0⟩
def C6.l0.e0:St:=⟨jka 21 [jk,jk,jk,jk,zv .bool],[],0⟩
def C6.l0.e1:St:=⟨jka 25 [jk],[],0⟩
def C6.raw (m:Nat) (x0:(Ty.den SI)) (x1:(Ty.den SI)):Option (Args [.bool]):=bif (↑(List.length x0):Int) != (↑(List.length x1):Int) then (some ((false,()))) else (C6.l0 (fun o5=>some ((o5,()))) (some ((true,()))) m x0 x1 ((↑(List.length x0):Int)) ((0:Int)))
def C6.val (x0:(Ty.den SI)) (x1:(Ty.den SI)):=(C6.raw fuel x0 x1).getD (dfltA [.bool])
def C6.dom (x0:(Ty.den SI)) (x1:(Ty.den SI)):=(C6.raw fuel x0 x1).isSome
def C6.sg:Sig:=⟨[SI,SI],[.bool],false,fun x=>C6.dom x.1 x.2.1,fun x=>C6.val x.1 x.2.1⟩
noncomputable def C6.q0 (m:Nat) (s:St) (k:X → St → Option (Args [.bool])):Option (Args [.bool]) :=
 match unSt C6.l0.t [SI,SI,I6,I6] s with
  | some x=>C6.l0 (fun o0=>k .ret (mkSt C6.l0.e0 [.bool] (o0,()))) (k (.exit 0) (mkSt C6.l0.e1 [] ())) m x.1 x.2.1 x.2.2.1 x.2.2.2.1
  | none=>none
noncomputable def C6.L (m:Nat) (c:Code) (s:St) (k:X → St → Option (Args [.bool])):Option (Args [.bool]) :=
 match O9 c with
 | some r=>bif Nat.beq r 14004 then (C6.q0 m s k) else none
 | none=>none
theorem C6.cs_eq:loopsL Go.Proofs.Tryz.f220 [] = [(loopsL Go.Proofs.Tryz.f220 []).getD 0 .skip]:=by kernel_rfl
theorem C6.good:Good (C6.E) (fun c=>c ∈ loopsL Go.Proofs.Tryz.f220 []) C6.L:=by
 have cases:∀ c,c ∈ loopsL Go.Proofs.Tryz.f220 [] → c = (loopsL Go.Proofs.Tryz.f220 []).getD 0 .skip:=by
  intro c hc; rw [C6.cs_eq] at hc; simpa only [List.mem_cons,List.not_mem_nil,or_false] using hc
 refine ⟨?_,?_,fun c hc=>T4 c hc⟩
 ·intro c s k r hc h
  rcases cases c hc with rfl
  ·have h':C6.q0 0 s k = some r:=Eq.trans (by kernel_rfl) h
   unfold C6.q0 at h'
   split at h'
   ·rename_i x hx
    have h2:(none:Option (Args [.bool])) = some r:=Eq.trans (by kernel_rfl) h'
    cases h2
   cases h'
 ·intro m c s k r hc h
  rcases cases c hc with rfl
  ·have h':C6.q0 (m + 1) s k = some r:=Eq.trans (by kernel_rfl) h
   unfold C6.q0 at h'
   split at h'
   ·rename_i x hx
    rw [O8 hx]
    exact Eq.trans (by kernel_rfl) h'
   cases h'
theorem C6.eq (m:Nat) (x0:(Ty.den SI)) (x1:(Ty.den SI)):runS C6.E Go.Proofs.Tryz.f220 C6.sg (C6.L m) (x0,(x1,())) = C6.raw m x0 x1:=by kernel_rfl
theorem C6.told (h:Base0):Told 220 C6.sg :=
 T5 h fn220 (l:=[]) (il:=[]) (pl:=[]) trivial trivial trivial (L:=C6.L) C6.good (fun x=>C6.eq fuel x.1 x.2.1)
def L6.E:Env:=⟨T,sigL [],inlL [],annL [(9003,⟨some [3,6,7,8],[(3,none,I6)],[],some [3]⟩)],[],primL [],globL⟩
def L6.l0 (K0:(Ty.den SI) → Option (Args [SI])):Nat → (Ty.den SI) → Int → Int → (Ty.den SI) → Option (Args [SI])
 | 0,_,_,_,_=>none
 | m + 1,v1,v2,v3,v4=>bif decide (v3 < v2) then (bif decide ((0:Int) ≤ v3) && decide (v3 < (↑(List.length v1):Int)) then (let z5:=List.length v4 + [List.getD v1 (Int.toNat v3) (0:Int)].length; bif decide (z5 * (8:Nat) ≤ (140737488355328:Nat)) && decide (z5 ≤ lim) then (L6.l0 K0 m v1 v2 (i64.wrap (v3 + (1:Int))) (v4 ++ [List.getD v1 (Int.toNat v3) (0:Int)])) else (none)) else (none)) else (K0 v4)
def L6.l0.t:St:=⟨jka 9 [jk,jk,jk,.one (.sc (.own 0 0)),jk,jk,zv SI,zv I6,zv I6],[.row I6 true 0 []],0⟩
def L6.l0.e0:St:=⟨jka 14 [jk,jk,jk,.one (.sc (.own 0 0))],[.row I6 true 0 []],0⟩
def L6.raw (m:Nat) (x0:(Ty.den SI)):Option (Args [SI]):=L6.l0 (fun o6=>some ((o6,()))) m x0 ((↑(List.length x0):Int)) ((0:Int)) (nl (Ty.int i64).den)
def L6.val (x0:(Ty.den SI)):=(L6.raw fuel x0).getD (dfltA [SI])
def L6.dom (x0:(Ty.den SI)):=(L6.raw fuel x0).isSome
def L6.sg:Sig:=⟨[SI],[SI],false,fun x=>L6.dom x.1,fun x=>L6.val x.1⟩
noncomputable def L6.q0 (m:Nat) (s:St) (k:X → St → Option (Args [SI])):Option (Args [SI]) :=
 match unSt L6.l0.t [SI,I6,I6,SI] s with
  | some x=>L6.l0 (fun o0=>k (.exit 0) (mkSt L6.l0.e0 [SI] (o0,()))) m x.1 x.2.1 x.2.2.1 x.2.2.2.1
  | none=>none
noncomputable def L6.L (m:Nat) (c:Code) (s:St) (k:X → St → Option (Args [SI])):Option (Args [SI]) :=
 match O9 c with
 | some r=>bif Nat.beq r 9003 then (L6.q0 m s k) else none
 | none=>none
theorem L6.cs_eq:loopsL Go.Proofs.Tryz.f241 [] = [(loopsL Go.Proofs.Tryz.f241 []).getD 0 .skip]:=by kernel_rfl
theorem L6.good:Good (L6.E) (fun c=>c ∈ loopsL Go.Proofs.Tryz.f241 []) L6.L:=by
 have cases:∀ c,c ∈ loopsL Go.Proofs.Tryz.f241 [] → c = (loopsL Go.Proofs.Tryz.f241 []).getD 0 .skip:=by
  intro c hc; rw [L6.cs_eq] at hc; simpa only [List.mem_cons,List.not_mem_nil,or_false] using hc
 refine ⟨?_,?_,fun c hc=>T4 c hc⟩
 ·intro c s k r hc h
  rcases cases c hc with rfl
  ·have h':L6.q0 0 s k = some r:=Eq.trans (by kernel_rfl) h
   unfold L6.q0 at h'
   split at h'
   ·rename_i x hx
    have h2:(none:Option (Args [SI])) = some r:=Eq.trans (by kernel_rfl) h'
    cases h2
   cases h'
 ·intro m c s k r hc h
  rcases cases c hc with rfl
  ·have h':L6.q0 (m + 1) s k = some r:=Eq.trans (by kernel_rfl) h
   unfold L6.q0 at h'
   split at h'
   ·rename_i x hx
    rw [O8 hx]
    exact Eq.trans (by kernel_rfl) h'
   cases h'
theorem L6.eq (m:Nat) (x0:(Ty.den SI)):runS L6.E Go.Proofs.Tryz.f241 L6.sg (L6.L m) (x0,()) = L6.raw m x0:=by kernel_rfl
theorem L6.told (h:Base0):Told 241 L6.sg :=
 T5 h fn241 (l:=[]) (il:=[]) (pl:=[]) trivial trivial trivial (L:=L6.L) L6.good (fun x=>L6.eq fuel x.1)
abbrev N4.ls:List (Nat × Sig):=[(192,R2.sg)]
def N4.E:Env:=⟨T,sigL N4.ls,inlL [],annL [(4002,⟨some [0,3],[],[],some [3]⟩)],[],primL [],globL⟩
def N4.l0 (K0:Int → Option (Args [I6])):Nat → (Ty.den SI) → Int → Option (Args [I6])
 | 0,_,_=>none
 | m + 1,v1,v2=>bif decide (v2 < (↑(List.length v1):Int)) then (bif decide ((0:Int) ≤ v2) && decide (v2 < (↑(List.length v1):Int)) then (let y3:=R2.val (List.getD v1 (Int.toNat v2) (0:Int)); bif R2.dom (List.getD v1 (Int.toNat v2) (0:Int)) then (bif y3.1 then (N4.l0 K0 m v1 (i64.wrap (v2 + (1:Int)))) else (K0 v2)) else none) else (none)) else (K0 v2)
def N4.l0.t:St:=⟨jka 14 [zv SI,jk,jk,zv I6],[],0⟩
def N4.l0.e0:St:=⟨jka 14 [jk,jk,jk,zv I6],[],0⟩
def N4.raw (m:Nat) (x0:(Ty.den SI)):Option (Args [I6]):=N4.l0 (fun o4=>some ((o4,()))) m x0 ((0:Int))
def N4.val (x0:(Ty.den SI)):=(N4.raw fuel x0).getD (dfltA [I6])
def N4.dom (x0:(Ty.den SI)):=(N4.raw fuel x0).isSome
def N4.sg:Sig:=⟨[SI],[I6],false,fun x=>N4.dom x.1,fun x=>N4.val x.1⟩
noncomputable def N4.q0 (m:Nat) (s:St) (k:X → St → Option (Args [I6])):Option (Args [I6]) :=
 match unSt N4.l0.t [SI,I6] s with
  | some x=>N4.l0 (fun o0=>k (.exit 0) (mkSt N4.l0.e0 [I6] (o0,()))) m x.1 x.2.1
  | none=>none
noncomputable def N4.L (m:Nat) (c:Code) (s:St) (k:X → St → Option (Args [I6])):Option (Args [I6]) :=
 match O9 c with
 | some r=>bif Nat.beq r 4002 then (N4.q0 m s k) else none
 | none=>none
theorem N4.cs_eq:loopsL Go.Proofs.Tryz.f242 [] = [(loopsL Go.Proofs.Tryz.f242 []).getD 0 .skip]:=by kernel_rfl
theorem N4.good:Good (N4.E) (fun c=>c ∈ loopsL Go.Proofs.Tryz.f242 []) N4.L:=by
 have cases:∀ c,c ∈ loopsL Go.Proofs.Tryz.f242 [] → c = (loopsL Go.Proofs.Tryz.f242 []).getD 0 .skip:=by
  intro c hc; rw [N4.cs_eq] at hc; simpa only [List.mem_cons,List.not_mem_nil,or_false] using hc
 refine ⟨?_,?_,fun c hc=>T4 c hc⟩
 ·intro c s k r hc h
  rcases cases c hc with rfl
  ·have h':N4.q0 0 s k = some r:=Eq.trans (by kernel_rfl) h
   unfold N4.q0 at h'
   split at h'
   ·rename_i x hx
    have h2:(none:Option (Args [I6])) = some r:=Eq.trans (by kernel_rfl) h'
    cases h2
   cases h'
 ·intro m c s k r hc h
  rcases cases c hc with rfl
  ·have h':N4.q0 (m + 1) s k = some r:=Eq.trans (by kernel_rfl) h
   unfold N4.q0 at h'
   split at h'
   ·rename_i x hx
    rw [O8 hx]
    exact Eq.trans (by kernel_rfl) h'
   cases h'
theorem N4.eq (m:Nat) (x0:(Ty.den SI)):runS N4.E Go.Proofs.Tryz.f242 N4.sg (N4.L m) (x0,()) = N4.raw m x0:=by kernel_rfl
theorem N4.told (h:Base0) (hs:AllT N4.ls):Told 242 N4.sg :=
 T5 h fn242 (il:=[]) (pl:=[]) hs trivial trivial (L:=N4.L) N4.good (fun x=>N4.eq fuel x.1)
end Pt
end
section
open Go Go.Am
namespace Pt
set_option maxRecDepth 100000
abbrev E8.ls:List (Nat × Sig):=[(100,L2.sg),(202,O0.sg)]
def E8.E:Env:=mkE E8.ls
def E8.raw (m:Nat) (x0:Int) (x1:Int):Option (Args [I6]):=let y1:=O0.val x0; bif O0.dom x0 then (let y2:=O0.val x1; bif O0.dom x1 then (let y3:=L2.val y1.1 y2.1; bif L2.dom y1.1 y2.1 then (some y3) else none) else none) else none
def E8.val (x0:Int) (x1:Int):=(E8.raw fuel x0 x1).getD (dfltA [I6])
def E8.dom (x0:Int) (x1:Int):=(E8.raw fuel x0 x1).isSome
def E8.sg:Sig:=⟨[I6,I6],[I6],false,fun x=>E8.dom x.1 x.2.1,fun x=>E8.val x.1 x.2.1⟩
theorem E8.eq (m:Nat) (x0:Int) (x1:Int):runS E8.E Go.Proofs.Tryz.f244 E8.sg (nL m) (x0,(x1,())) = E8.raw m x0 x1:=by kernel_rfl
theorem E8.told(h:Base0) (hs:AllT E8.ls):Told 244 E8.sg :=
 told_n h fn244 hs (fun x=>E8.eq fuel x.1 x.2.1)
end Pt
end
section
open Go Go.Am
open IntKind (i64 u64 u8 i32 u32)
namespace Pt
set_option maxRecDepth 100000
abbrev w9.ls:List (Nat × Sig):=[(244,E8.sg)]
def w9.E:Env:=⟨T,sigL w9.ls,inlL [],annL [(12001,⟨some [0,1,2,3,8],[],[],some []⟩),(18004,⟨some [0,1,2,3,8,9],[],[],some [0,1,2,3,8]⟩)],[244],primL [],globL⟩
def w9.l1 (K0:(Ty.den SI) → Int → Int → (Ty.den .fn) → Int → Option (Args [])):Nat → (Ty.den SI) → Int → Int → (Ty.den .fn) → Int → Int → Option (Args [])
 | 0,_,_,_,_,_,_=>none
 | m + 1,v6,v7,v8,v9,v10,v11=>bif decide (v11 > v7) then (bif decide ((0:Int) ≤ v11) && decide (v11 < (↑(List.length v6):Int)) then (bif decide ((0:Int) ≤ i64.wrap (v11 - (1:Int))) && decide (i64.wrap (v11 - (1:Int)) < (↑(List.length v6):Int)) then (bif v9 == Option.some (244:Go.FuncId) then (let z12:=List.getD v6 (i64.wrap (v11 - (1:Int))).toNat (0:Int); let y13:=E8.val (List.getD v6 (Int.toNat v11) (0:Int)) z12; bif E8.dom (List.getD v6 (Int.toNat v11) (0:Int)) z12 then (bif decide (y13.1 < (0:Int)) then (bif decide ((0:Int) ≤ i64.wrap (v11 - (1:Int))) && decide (i64.wrap (v11 - (1:Int)) < (↑(List.length v6):Int)) then (bif decide ((0:Int) ≤ v11) && decide (v11 < (↑(List.length v6):Int)) then (bif decide ((0:Int) ≤ v11) && decide (v11 < (↑(List.length v6):Int)) then (none) else (none)) else (none)) else (none)) else (K0 v6 v7 v8 v9 v10)) else none) else (none)) else (none)) else (none)) else (K0 v6 v7 v8 v9 v10)
def w9.l1.t:St:=⟨jka 43 [zv SI,zv I6,zv I6,.one (.sc (.lf .fn none)),jk,jk,jk,jk,zv I6,zv I6],[],0⟩
def w9.l1.e0:St:=⟨jka 44 [zv SI,zv I6,zv I6,.one (.sc (.lf .fn none)),jk,jk,jk,jk,zv I6],[],0⟩
def w9.l0 (K0:Option (Args [])):Nat → (Ty.den SI) → Int → Int → (Ty.den .fn) → Int → Option (Args [])
 | 0,_,_,_,_,_=>none
 | m + 1,v1,v2,v3,v4,v5=>bif decide (v5 < v3) then (w9.l1 (fun o14 o15 o16 o17 o18=>w9.l0 K0 m o14 o15 o16 o17 (i64.wrap (o18 + (1:Int)))) m v1 v2 v3 v4 v5 v5) else (K0)
def w9.l0.t:St:=⟨jka 44 [zv SI,zv I6,zv I6,.one (.sc (.lf .fn none)),jk,jk,jk,jk,zv I6],[],0⟩
def w9.l0.e0:St:=⟨jka 52 [jk],[],0⟩
def w9.raw (m:Nat) (x0:(Ty.den SI)) (x1:Int) (x2:Int) (x3:(Ty.den .fn)):Option (Args []):=w9.l0 (some ()) m x0 x1 x2 x3 (i64.wrap (x1 + (1:Int)))
def w9.val (x0:(Ty.den SI)) (x1:Int) (x2:Int) (x3:(Ty.den .fn)):=(w9.raw fuel x0 x1 x2 x3).getD (dfltA [])
def w9.dom (x0:(Ty.den SI)) (x1:Int) (x2:Int) (x3:(Ty.den .fn)):=(w9.raw fuel x0 x1 x2 x3).isSome
def w9.sg:Sig:=⟨[SI,I6,I6,.fn],[],false,fun x=>w9.dom x.1 x.2.1 x.2.2.1 x.2.2.2.1,fun x=>w9.val x.1 x.2.1 x.2.2.1 x.2.2.2.1⟩
noncomputable def w9.q0 (m:Nat) (s:St) (k:X → St → Option (Args [])):Option (Args []) :=
 match unSt w9.l0.t [SI,I6,I6,.fn,I6] s with
  | some x=>w9.l0 (k (.exit 0) (mkSt w9.l0.e0 [] ())) m x.1 x.2.1 x.2.2.1 x.2.2.2.1 x.2.2.2.2.1
  | none=>none
noncomputable def w9.q1 (m:Nat) (s:St) (k:X → St → Option (Args [])):Option (Args []) :=
 match unSt w9.l1.t [SI,I6,I6,.fn,I6,I6] s with
  | some x=>w9.l1 (fun o0 o1 o2 o3 o4=>k (.exit 2) (mkSt w9.l1.e0 [SI,I6,I6,.fn,I6] (o0,(o1,(o2,(o3,(o4,()))))))) m x.1 x.2.1 x.2.2.1 x.2.2.2.1 x.2.2.2.2.1 x.2.2.2.2.2.1
  | none=>none
noncomputable def w9.L (m:Nat) (c:Code) (s:St) (k:X → St → Option (Args [])):Option (Args []) :=
 match O9 c with
 | some r=>bif Nat.beq r 12001 then (w9.q0 m s k) else bif Nat.beq r 18004 then (w9.q1 m s k) else none
 | none=>none
theorem w9.cs_eq:loopsL Go.Proofs.Tryz.f300 [] = [(loopsL Go.Proofs.Tryz.f300 []).getD 0 .skip,(loopsL Go.Proofs.Tryz.f300 []).getD 1 .skip]:=by kernel_rfl
theorem w9.good:Good (w9.E) (fun c=>c ∈ loopsL Go.Proofs.Tryz.f300 []) w9.L:=by
 have cases:∀ c,c ∈ loopsL Go.Proofs.Tryz.f300 [] → c = (loopsL Go.Proofs.Tryz.f300 []).getD 0 .skip ∨ c = (loopsL Go.Proofs.Tryz.f300 []).getD 1 .skip:=by
  intro c hc; rw [w9.cs_eq] at hc; simpa only [List.mem_cons,List.not_mem_nil,or_false] using hc
 refine ⟨?_,?_,fun c hc=>T4 c hc⟩
 ·intro c s k r hc h
  rcases cases c hc with rfl | rfl
  ·have h':w9.q0 0 s k = some r:=Eq.trans (by kernel_rfl) h
   unfold w9.q0 at h'
   split at h'
   ·rename_i x hx
    have h2:(none:Option (Args [])) = some r:=Eq.trans (by kernel_rfl) h'
    cases h2
   cases h'
  ·have h':w9.q1 0 s k = some r:=Eq.trans (by kernel_rfl) h
   unfold w9.q1 at h'
   split at h'
   ·rename_i x hx
    have h2:(none:Option (Args [])) = some r:=Eq.trans (by kernel_rfl) h'
    cases h2
   cases h'
 ·intro m c s k r hc h
  rcases cases c hc with rfl | rfl
  ·have h':w9.q0 (m + 1) s k = some r:=Eq.trans (by kernel_rfl) h
   unfold w9.q0 at h'
   split at h'
   ·rename_i x hx
    rw [O8 hx]
    exact Eq.trans (by kernel_rfl) h'
   cases h'
  ·have h':w9.q1 (m + 1) s k = some r:=Eq.trans (by kernel_rfl) h
   unfold w9.q1 at h'
   split at h'
   ·rename_i x hx
    rw [O8 hx]
    exact Eq.trans (by kernel_rfl) h'
   cases h'
theorem w9.eq (m:Nat) (x0:(Ty.den SI)) (x1:Int) (x2:Int) (x3:(Ty.den .fn)):runS w9.E Go.Proofs.Tryz.f300 w9.sg (w9.L m) (x0,(x1,(x2,(x3,())))) = w9.raw m x0 x1 x2 x3:=by kernel_rfl
theorem w9.told (h:Base0) (hs:AllT w9.ls):Told 300 w9.sg :=
 T5 h fn300 (il:=[]) (pl:=[]) hs trivial trivial (L:=w9.L) w9.good (fun x=>w9.eq fuel x.1 x.2.1 x.2.2.1 x.2.2.2.1)
abbrev B3.ls:List (Nat × Sig):=[(244,E8.sg)]
def B3.E:Env:=⟨T,sigL B3.ls,inlL [],annL [(11001,⟨some [0,1,2,3,10],[],[],some []⟩)],[244],primL [],globL⟩
def B3.l0 (K0:Option (Args [])):Nat → (Ty.den SI) → Int → Int → Int → Int → Option (Args [])
 | 0,_,_,_,_,_=>none
 | m + 1,v1,v2,v3,v4,v5=>bif decide (v5 < v4) then (bif decide ((0:Int) ≤ i64.wrap (v3 + v5)) && decide (i64.wrap (v3 + v5) < (↑(List.length v1):Int)) then (bif decide ((0:Int) ≤ i64.wrap (v2 + v5)) && decide (i64.wrap (v2 + v5) < (↑(List.length v1):Int)) then (bif decide ((0:Int) ≤ i64.wrap (v2 + v5)) && decide (i64.wrap (v2 + v5) < (↑(List.length v1):Int)) then (none) else (none)) else (none)) else (none)) else (K0)
def B3.l0.t:St:=⟨jka 27 [zv SI,zv I6,zv I6,zv I6,jk,jk,jk,jk,jk,jk,zv I6],[],0⟩
def B3.l0.e0:St:=⟨jka 37 [jk],[],0⟩
def B3.raw (m:Nat) (x0:(Ty.den SI)) (x1:Int) (x2:Int) (x3:Int) (x4:(Ty.den .fn)):Option (Args []):=B3.l0 (some ()) m x0 x1 x2 x3 ((0:Int))
def B3.val (x0:(Ty.den SI)) (x1:Int) (x2:Int) (x3:Int) (x4:(Ty.den .fn)):=(B3.raw fuel x0 x1 x2 x3 x4).getD (dfltA [])
def B3.dom (x0:(Ty.den SI)) (x1:Int) (x2:Int) (x3:Int) (x4:(Ty.den .fn)):=(B3.raw fuel x0 x1 x2 x3 x4).isSome
def B3.sg:Sig:=⟨[SI,I6,I6,I6,.fn],[],false,fun x=>B3.dom x.1 x.2.1 x.2.2.1 x.2.2.2.1 x.2.2.2.2.1,fun x=>B3.val x.1 x.2.1 x.2.2.1 x.2.2.2.1 x.2.2.2.2.1⟩
noncomputable def B3.q0 (m:Nat) (s:St) (k:X → St → Option (Args [])):Option (Args []) :=
 match unSt B3.l0.t [SI,I6,I6,I6,I6] s with
  | some x=>B3.l0 (k (.exit 0) (mkSt B3.l0.e0 [] ())) m x.1 x.2.1 x.2.2.1 x.2.2.2.1 x.2.2.2.2.1
  | none=>none
noncomputable def B3.L (m:Nat) (c:Code) (s:St) (k:X → St → Option (Args [])):Option (Args []) :=
 match O9 c with
 | some r=>bif Nat.beq r 11001 then (B3.q0 m s k) else none
 | none=>none
theorem B3.cs_eq:loopsL Go.Proofs.Tryz.f325 [] = [(loopsL Go.Proofs.Tryz.f325 []).getD 0 .skip]:=by kernel_rfl
theorem B3.good:Good (B3.E) (fun c=>c ∈ loopsL Go.Proofs.Tryz.f325 []) B3.L:=by
 have cases:∀ c,c ∈ loopsL Go.Proofs.Tryz.f325 [] → c = (loopsL Go.Proofs.Tryz.f325 []).getD 0 .skip:=by
  intro c hc; rw [B3.cs_eq] at hc; simpa only [List.mem_cons,List.not_mem_nil,or_false] using hc
 refine ⟨?_,?_,fun c hc=>T4 c hc⟩
 ·intro c s k r hc h
  rcases cases c hc with rfl
  ·have h':B3.q0 0 s k = some r:=Eq.trans (by kernel_rfl) h
   unfold B3.q0 at h'
   split at h'
   ·rename_i x hx
    have h2:(none:Option (Args [])) = some r:=Eq.trans (by kernel_rfl) h'
    cases h2
   cases h'
 ·intro m c s k r hc h
  rcases cases c hc with rfl
  ·have h':B3.q0 (m + 1) s k = some r:=Eq.trans (by kernel_rfl) h
   unfold B3.q0 at h'
   split at h'
   ·rename_i x hx
    rw [O8 hx]
    exact Eq.trans (by kernel_rfl) h'
   cases h'
theorem B3.eq (m:Nat) (x0:(Ty.den SI)) (x1:Int) (x2:Int) (x3:Int) (x4:(Ty.den .fn)):runS B3.E Go.Proofs.Tryz.f325 B3.sg (B3.L m) (x0,(x1,(x2,(x3,(x4,()))))) = B3.raw m x0 x1 x2 x3 x4:=by kernel_rfl
theorem B3.told (h:Base0) (hs:AllT B3.ls):Told 325 B3.sg :=
 T5 h fn325 (il:=[]) (pl:=[]) hs trivial trivial (L:=B3.L) B3.good (fun x=>B3.eq fuel x.1 x.2.1 x.2.2.1 x.2.2.2.1 x.2.2.2.2.1)
abbrev B4.ls:List (Nat × Sig):=[(325,B3.sg),(244,E8.sg)]
def B4.E:Env:=⟨T,sigL B4.ls,inlL [],annL [(18002,⟨some [0,2,4,10,11],[],[],some [0,2,4,10]⟩)],[244],primL [],globL⟩
def B4.l0 (K0:(Ty.den SI) → Int → (Ty.den .fn) → Int → Option (Args [])):Nat → (Ty.den SI) → Int → (Ty.den .fn) → Int → Int → Option (Args [])
 | 0,_,_,_,_,_=>none
 | m + 1,v1,v2,v3,v4,v5=>bif v4 != v5 then (bif decide (v4 > v5) then (let y6:=B3.val v1 (i64.wrap (v2 - v4)) v2 v5 v3; bif B3.dom v1 (i64.wrap (v2 - v4)) v2 v5 v3 then (B4.l0 K0 m v1 v2 v3 (i64.wrap (v4 - v5)) v5) else none) else (let z7:=i64.wrap (i64.wrap (v2 + v5) - v4); let y8:=B3.val v1 (i64.wrap (v2 - v4)) z7 v4 v3; bif B3.dom v1 (i64.wrap (v2 - v4)) z7 v4 v3 then (B4.l0 K0 m v1 v2 v3 v4 (i64.wrap (v5 - v4))) else none)) else (K0 v1 v2 v3 v4)
def B4.l0.t:St:=⟨jka 46 [zv SI,jk,zv I6,jk,.one (.sc (.lf .fn none)),jk,jk,jk,jk,jk,zv I6,zv I6],[],0⟩
def B4.l0.e0:St:=⟨jka 47 [zv SI,jk,zv I6,jk,.one (.sc (.lf .fn none)),jk,jk,jk,jk,jk,zv I6],[],0⟩
def B4.raw (m:Nat) (x0:(Ty.den SI)) (x1:Int) (x2:Int) (x3:Int) (x4:(Ty.den .fn)):Option (Args []):=B4.l0 (fun o9 o10 o11 o12=>let y13:=B3.val o9 (i64.wrap (o10 - o12)) o10 o12 o11; bif B3.dom o9 (i64.wrap (o10 - o12)) o10 o12 o11 then (some ()) else none) m x0 x2 x4 (i64.wrap (x2 - x1)) (i64.wrap (x3 - x2))
def B4.val (x0:(Ty.den SI)) (x1:Int) (x2:Int) (x3:Int) (x4:(Ty.den .fn)):=(B4.raw fuel x0 x1 x2 x3 x4).getD (dfltA [])
def B4.dom (x0:(Ty.den SI)) (x1:Int) (x2:Int) (x3:Int) (x4:(Ty.den .fn)):=(B4.raw fuel x0 x1 x2 x3 x4).isSome
def B4.sg:Sig:=⟨[SI,I6,I6,I6,.fn],[],false,fun x=>B4.dom x.1 x.2.1 x.2.2.1 x.2.2.2.1 x.2.2.2.2.1,fun x=>B4.val x.1 x.2.1 x.2.2.1 x.2.2.2.1 x.2.2.2.2.1⟩
noncomputable def B4.q0 (m:Nat) (s:St) (k:X → St → Option (Args [])):Option (Args []) :=
 match unSt B4.l0.t [SI,I6,.fn,I6,I6] s with
  | some x=>B4.l0 (fun o0 o1 o2 o3=>k (.exit 0) (mkSt B4.l0.e0 [SI,I6,.fn,I6] (o0,(o1,(o2,(o3,())))))) m x.1 x.2.1 x.2.2.1 x.2.2.2.1 x.2.2.2.2.1
  | none=>none
noncomputable def B4.L (m:Nat) (c:Code) (s:St) (k:X → St → Option (Args [])):Option (Args []) :=
 match O9 c with
 | some r=>bif Nat.beq r 18002 then (B4.q0 m s k) else none
 | none=>none
theorem B4.cs_eq:loopsL Go.Proofs.Tryz.f319 [] = [(loopsL Go.Proofs.Tryz.f319 []).getD 0 .skip]:=by kernel_rfl
theorem B4.good:Good (B4.E) (fun c=>c ∈ loopsL Go.Proofs.Tryz.f319 []) B4.L:=by
 have cases:∀ c,c ∈ loopsL Go.Proofs.Tryz.f319 [] → c = (loopsL Go.Proofs.Tryz.f319 []).getD 0 .skip:=by
  intro c hc; rw [B4.cs_eq] at hc; simpa only [List.mem_cons,List.not_mem_nil,or_false] using hc
 refine ⟨?_,?_,fun c hc=>T4 c hc⟩
 ·intro c s k r hc h
  rcases cases c hc with rfl
  ·have h':B4.q0 0 s k = some r:=Eq.trans (by kernel_rfl) h
   unfold B4.q0 at h'
   split at h'
   ·rename_i x hx
    have h2:(none:Option (Args [])) = some r:=Eq.trans (by kernel_rfl) h'
    cases h2
   cases h'
 ·intro m c s k r hc h
  rcases cases c hc with rfl
  ·have h':B4.q0 (m + 1) s k = some r:=Eq.trans (by kernel_rfl) h
   unfold B4.q0 at h'
   split at h'
   ·rename_i x hx
    rw [O8 hx]
    exact Eq.trans (by kernel_rfl) h'
   cases h'
theorem B4.eq (m:Nat) (x0:(Ty.den SI)) (x1:Int) (x2:Int) (x3:Int) (x4:(Ty.den .fn)):runS B4.E Go.Proofs.Tryz.f319 B4.sg (B4.L m) (x0,(x1,(x2,(x3,(x4,()))))) = B4.raw m x0 x1 x2 x3 x4:=by kernel_rfl
theorem B4.told (h:Base0) (hs:AllT B4.ls):Told 319 B4.sg :=
 T5 h fn319 (il:=[]) (pl:=[]) hs trivial trivial (L:=B4.L) B4.good (fun x=>B4.eq fuel x.1 x.2.1 x.2.2.1 x.2.2.2.1 x.2.2.2.2.1)
def a6.E (sd:Ty.den SI → Ty.den I6 → Ty.den I6 → Ty.den I6 → Ty.den .fn → Bool) (sv:Ty.den SI → Ty.den I6 → Ty.den I6 → Ty.den I6 → Ty.den .fn → Args []):Env:=⟨T,sigL [(319,B4.sg),(244,E8.sg),(301,⟨[SI,I6,I6,I6,.fn],[],false,fun x=>sd x.1 x.2.1 x.2.2.1 x.2.2.2.1 x.2.2.2.2.1,fun x=>sv x.1 x.2.1 x.2.2.1 x.2.2.2.1 x.2.2.2.2.1⟩)],inlL [],annL [(31003,⟨some [0,1,4,10,11],[],[],some [0,1,10]⟩),(55009,⟨some [0,10,13],[],[],some []⟩),(83015,⟨some [0,2,4,14,15],[],[],some [0,2,14]⟩),(108021,⟨some [0,14,17],[],[],some []⟩),(149033,⟨some [0,1,2,3,4,18,19,20,21,22],[],[],some [0,1,2,3,4,18,19,20]⟩)],[244],primL [],globL⟩
def a6.l4 (K0:(Ty.den SI) → Int → Int → Int → (Ty.den .fn) → Int → Int → Int → Option (Args [])):Nat → (Ty.den SI) → Int → Int → Int → (Ty.den .fn) → Int → Int → Int → Int → Int → Option (Args [])
 | 0,_,_,_,_,_,_,_,_,_,_=>none
 | m + 1,v27,v28,v29,v30,v31,v32,v33,v34,v35,v36=>bif decide (v34 < v35) then (let z37:=i64.wrap (v36 - i64.wrap ((u64.wrap (i64.wrap (v34 + v35))).fdiv (2:Int))); bif decide ((0:Int) ≤ z37) && decide (z37 < (↑(List.length v27):Int)) then (let z38:=i64.wrap ((u64.wrap (i64.wrap (v34 + v35))).fdiv (2:Int)); bif decide ((0:Int) ≤ z38) && decide (z38 < (↑(List.length v27):Int)) then (bif v31 == Option.some (244:Go.FuncId) then (let y39:=E8.val (List.getD v27 z37.toNat (0:Int)) (List.getD v27 z38.toNat (0:Int)); bif E8.dom (List.getD v27 z37.toNat (0:Int)) (List.getD v27 z38.toNat (0:Int)) then (bif !decide (y39.1 < (0:Int)) then (a6.l4 K0 m v27 v28 v29 v30 v31 v32 v33 (i64.wrap (z38 + (1:Int))) v35 v36) else (a6.l4 K0 m v27 v28 v29 v30 v31 v32 v33 v34 z38 v36)) else none) else (none)) else (none)) else (none)) else (K0 v27 v28 v29 v30 v31 v32 v33 v34)
def a6.l4.t:St:=⟨jka 197 [zv SI,zv I6,zv I6,zv I6,.one (.sc (.lf .fn none)),jk,jk,jk,jk,jk,jk,jk,jk,jk,jk,jk,jk,jk,zv I6,zv I6,zv I6,zv I6,zv I6],[],0⟩
def a6.l4.e0:St:=⟨jka 199 [zv SI,zv I6,zv I6,zv I6,.one (.sc (.lf .fn none)),jk,jk,jk,jk,jk,jk,jk,jk,jk,jk,jk,jk,jk,zv I6,zv I6,zv I6],[],0⟩
def a6.l3 (K0:Option (Args [])):Nat → (Ty.den SI) → Int → Int → Option (Args [])
 | 0,_,_,_=>none
 | m + 1,v24,v25,v26=>bif decide (v26 > v25) then (bif decide ((0:Int) ≤ i64.wrap (v26 - (1:Int))) && decide (i64.wrap (v26 - (1:Int)) < (↑(List.length v24):Int)) then (bif decide ((0:Int) ≤ v26) && decide (v26 < (↑(List.length v24):Int)) then (bif decide ((0:Int) ≤ v26) && decide (v26 < (↑(List.length v24):Int)) then (none) else (none)) else (none)) else (none)) else (K0)
def a6.l3.t:St:=⟨jka 202 [zv SI,jk,jk,jk,jk,jk,jk,jk,jk,jk,jk,jk,jk,jk,zv I6,jk,jk,zv I6],[],0⟩
def a6.l3.e0:St:=⟨jka 219 [jk],[],0⟩
def a6.l2 (K0:(Ty.den SI) → Int → Int → Option (Args [])):Nat → (Ty.den SI) → Int → (Ty.den .fn) → Int → Int → Option (Args [])
 | 0,_,_,_,_,_=>none
 | m + 1,v14,v15,v16,v17,v18=>bif decide (v17 < v18) then (bif decide ((0:Int) ≤ v15) && decide (v15 < (↑(List.length v14):Int)) then (let z19:=i64.wrap ((u64.wrap (i64.wrap (v17 + v18))).fdiv (2:Int)); bif decide ((0:Int) ≤ z19) && decide (z19 < (↑(List.length v14):Int)) then (bif v16 == Option.some (244:Go.FuncId) then (let y20:=E8.val (List.getD v14 (Int.toNat v15) (0:Int)) (List.getD v14 z19.toNat (0:Int)); bif E8.dom (List.getD v14 (Int.toNat v15) (0:Int)) (List.getD v14 z19.toNat (0:Int)) then (bif !decide (y20.1 < (0:Int)) then (a6.l2 K0 m v14 v15 v16 (i64.wrap (z19 + (1:Int))) v18) else (a6.l2 K0 m v14 v15 v16 v17 z19)) else none) else (none)) else (none)) else (none)) else (K0 v14 v15 v17)
def a6.l2.t:St:=⟨jka 204 [zv SI,jk,zv I6,jk,.one (.sc (.lf .fn none)),jk,jk,jk,jk,jk,jk,jk,jk,jk,zv I6,zv I6],[],0⟩
def a6.l2.e0:St:=⟨jka 205 [zv SI,jk,zv I6,jk,jk,jk,jk,jk,jk,jk,jk,jk,jk,jk,zv I6],[],0⟩
def a6.l1 (K0:Option (Args [])):Nat → (Ty.den SI) → Int → Int → Option (Args [])
 | 0,_,_,_=>none
 | m + 1,v11,v12,v13=>bif decide (v13 < i64.wrap (v12 - (1:Int))) then (bif decide ((0:Int) ≤ i64.wrap (v13 + (1:Int))) && decide (i64.wrap (v13 + (1:Int)) < (↑(List.length v11):Int)) then (bif decide ((0:Int) ≤ v13) && decide (v13 < (↑(List.length v11):Int)) then (bif decide ((0:Int) ≤ v13) && decide (v13 < (↑(List.length v11):Int)) then (none) else (none)) else (none)) else (none)) else (K0)
def a6.l1.t:St:=⟨jka 206 [zv SI,jk,jk,jk,jk,jk,jk,jk,jk,jk,zv I6,jk,jk,zv I6],[],0⟩
def a6.l1.e0:St:=⟨jka 219 [jk],[],0⟩
def a6.l0 (K0:(Ty.den SI) → Int → Int → Option (Args [])):Nat → (Ty.den SI) → Int → (Ty.den .fn) → Int → Int → Option (Args [])
 | 0,_,_,_,_,_=>none
 | m + 1,v1,v2,v3,v4,v5=>bif decide (v4 < v5) then (let z6:=i64.wrap ((u64.wrap (i64.wrap (v4 + v5))).fdiv (2:Int)); bif decide ((0:Int) ≤ z6) && decide (z6 < (↑(List.length v1):Int)) then (bif decide ((0:Int) ≤ v2) && decide (v2 < (↑(List.length v1):Int)) then (bif v3 == Option.some (244:Go.FuncId) then (let y7:=E8.val (List.getD v1 z6.toNat (0:Int)) (List.getD v1 (Int.toNat v2) (0:Int)); bif E8.dom (List.getD v1 z6.toNat (0:Int)) (List.getD v1 (Int.toNat v2) (0:Int)) then (bif decide (y7.1 < (0:Int)) then (a6.l0 K0 m v1 v2 v3 (i64.wrap (z6 + (1:Int))) v5) else (a6.l0 K0 m v1 v2 v3 v4 z6)) else none) else (none)) else (none)) else (none)) else (K0 v1 v2 v4)
def a6.l0.t:St:=⟨jka 208 [zv SI,zv I6,jk,jk,.one (.sc (.lf .fn none)),jk,jk,jk,jk,jk,zv I6,zv I6],[],0⟩
def a6.l0.e0:St:=⟨jka 209 [zv SI,zv I6,jk,jk,jk,jk,jk,jk,jk,jk,zv I6],[],0⟩
def a6.raw (sd:Ty.den SI → Ty.den I6 → Ty.den I6 → Ty.den I6 → Ty.den .fn → Bool) (sv:Ty.den SI → Ty.den I6 → Ty.den I6 → Ty.den I6 → Ty.den .fn → Args []) (m:Nat) (x0:(Ty.den SI)) (x1:Int) (x2:Int) (x3:Int) (x4:(Ty.den .fn)):Option (Args []):=bif i64.wrap (x2 - x1) == (1:Int) then (a6.l0 (fun o8 o9 o10=>a6.l1 (some ()) m o8 o10 o9) m x0 x1 x4 x2 x3) else (bif i64.wrap (x3 - x2) == (1:Int) then (a6.l2 (fun o21 o22 o23=>a6.l3 (some ()) m o21 o23 o22) m x0 x2 x4 x1 x2) else (bif decide (x2 > i64.wrap ((u64.wrap (i64.wrap (x1 + x3))).fdiv (2:Int))) then (let z40:=i64.wrap ((u64.wrap (i64.wrap (x1 + x3))).fdiv (2:Int)); a6.l4 (fun o41 o42 o43 o44 o45 o46 o47 o48=>bif decide (o48 < o43) then (bif decide (o43 < i64.wrap (o47 - o48)) then (let y49:=B4.val o41 o48 o43 (i64.wrap (o47 - o48)) o45; bif B4.dom o41 o48 o43 (i64.wrap (o47 - o48)) o45 then (bif decide (o42 < o48) then (bif decide (o48 < o46) then (let y50:=sv o41 o42 o48 o46 o45; bif sd o41 o42 o48 o46 o45 then (bif decide (o46 < i64.wrap (o47 - o48)) then (bif decide (i64.wrap (o47 - o48) < o44) then (let y51:=sv o41 o46 (i64.wrap (o47 - o48)) o44 o45; bif sd o41 o46 (i64.wrap (o47 - o48)) o44 o45 then (some ()) else none) else (some ())) else (some ())) else none) else (bif decide (o46 < i64.wrap (o47 - o48)) then (bif decide (i64.wrap (o47 - o48) < o44) then (let y52:=sv o41 o46 (i64.wrap (o47 - o48)) o44 o45; bif sd o41 o46 (i64.wrap (o47 - o48)) o44 o45 then (some ()) else none) else (some ())) else (some ()))) else (bif decide (o46 < i64.wrap (o47 - o48)) then (bif decide (i64.wrap (o47 - o48) < o44) then (let y53:=sv o41 o46 (i64.wrap (o47 - o48)) o44 o45; bif sd o41 o46 (i64.wrap (o47 - o48)) o44 o45 then (some ()) else none) else (some ())) else (some ()))) else none) else (bif decide (o42 < o48) then (bif decide (o48 < o46) then (let y54:=sv o41 o42 o48 o46 o45; bif sd o41 o42 o48 o46 o45 then (bif decide (o46 < i64.wrap (o47 - o48)) then (bif decide (i64.wrap (o47 - o48) < o44) then (let y55:=sv o41 o46 (i64.wrap (o47 - o48)) o44 o45; bif sd o41 o46 (i64.wrap (o47 - o48)) o44 o45 then (some ()) else none) else (some ())) else (some ())) else none) else (bif decide (o46 < i64.wrap (o47 - o48)) then (bif decide (i64.wrap (o47 - o48) < o44) then (let y56:=sv o41 o46 (i64.wrap (o47 - o48)) o44 o45; bif sd o41 o46 (i64.wrap (o47 - o48)) o44 o45 then (some ()) else none) else (some ())) else (some ()))) else (bif decide (o46 < i64.wrap (o47 - o48)) then (bif decide (i64.wrap (o47 - o48) < o44) then (let y57:=sv o41 o46 (i64.wrap (o47 - o48)) o44 o45; bif sd o41 o46 (i64.wrap (o47 - o48)) o44 o45 then (some ()) else none) else (some ())) else (some ())))) else (bif decide (o42 < o48) then (bif decide (o48 < o46) then (let y58:=sv o41 o42 o48 o46 o45; bif sd o41 o42 o48 o46 o45 then (bif decide (o46 < i64.wrap (o47 - o48)) then (bif decide (i64.wrap (o47 - o48) < o44) then (let y59:=sv o41 o46 (i64.wrap (o47 - o48)) o44 o45; bif sd o41 o46 (i64.wrap (o47 - o48)) o44 o45 then (some ()) else none) else (some ())) else (some ())) else none) else (bif decide (o46 < i64.wrap (o47 - o48)) then (bif decide (i64.wrap (o47 - o48) < o44) then (let y60:=sv o41 o46 (i64.wrap (o47 - o48)) o44 o45; bif sd o41 o46 (i64.wrap (o47 - o48)) o44 o45 then (some ()) else none) else (some ())) else (some ()))) else (bif decide (o46 < i64.wrap (o47 - o48)) then (bif decide (i64.wrap (o47 - o48) < o44) then (let y61:=sv o41 o46 (i64.wrap (o47 - o48)) o44 o45; bif sd o41 o46 (i64.wrap (o47 - o48)) o44 o45 then (some ()) else none) else (some ())) else (some ())))) m x0 x1 x2 x3 x4 z40 (i64.wrap (z40 + x2)) (i64.wrap (i64.wrap (z40 + x2) - x3)) z40 (i64.wrap (i64.wrap (z40 + x2) - (1:Int)))) else (let z62:=i64.wrap ((u64.wrap (i64.wrap (x1 + x3))).fdiv (2:Int)); a6.l4 (fun o63 o64 o65 o66 o67 o68 o69 o70=>bif decide (o70 < o65) then (bif decide (o65 < i64.wrap (o69 - o70)) then (let y71:=B4.val o63 o70 o65 (i64.wrap (o69 - o70)) o67; bif B4.dom o63 o70 o65 (i64.wrap (o69 - o70)) o67 then (bif decide (o64 < o70) then (bif decide (o70 < o68) then (let y72:=sv o63 o64 o70 o68 o67; bif sd o63 o64 o70 o68 o67 then (bif decide (o68 < i64.wrap (o69 - o70)) then (bif decide (i64.wrap (o69 - o70) < o66) then (let y73:=sv o63 o68 (i64.wrap (o69 - o70)) o66 o67; bif sd o63 o68 (i64.wrap (o69 - o70)) o66 o67 then (some ()) else none) else (some ())) else (some ())) else none) else (bif decide (o68 < i64.wrap (o69 - o70)) then (bif decide (i64.wrap (o69 - o70) < o66) then (let y74:=sv o63 o68 (i64.wrap (o69 - o70)) o66 o67; bif sd o63 o68 (i64.wrap (o69 - o70)) o66 o67 then (some ()) else none) else (some ())) else (some ()))) else (bif decide (o68 < i64.wrap (o69 - o70)) then (bif decide (i64.wrap (o69 - o70) < o66) then (let y75:=sv o63 o68 (i64.wrap (o69 - o70)) o66 o67; bif sd o63 o68 (i64.wrap (o69 - o70)) o66 o67 then (some ()) else none) else (some ())) else (some ()))) else none) else (bif decide (o64 < o70) then (bif decide (o70 < o68) then (let y76:=sv o63 o64 o70 o68 o67; bif sd o63 o64 o70 o68 o67 then (bif decide (o68 < i64.wrap (o69 - o70)) then (bif decide (i64.wrap (o69 - o70) < o66) then (let y77:=sv o63 o68 (i64.wrap (o69 - o70)) o66 o67; bif sd o63 o68 (i64.wrap (o69 - o70)) o66 o67 then (some ()) else none) else (some ())) else (some ())) else none) else (bif decide (o68 < i64.wrap (o69 - o70)) then (bif decide (i64.wrap (o69 - o70) < o66) then (let y78:=sv o63 o68 (i64.wrap (o69 - o70)) o66 o67; bif sd o63 o68 (i64.wrap (o69 - o70)) o66 o67 then (some ()) else none) else (some ())) else (some ()))) else (bif decide (o68 < i64.wrap (o69 - o70)) then (bif decide (i64.wrap (o69 - o70) < o66) then (let y79:=sv o63 o68 (i64.wrap (o69 - o70)) o66 o67; bif sd o63 o68 (i64.wrap (o69 - o70)) o66 o67 then (some ()) else none) else (some ())) else (some ())))) else (bif decide (o64 < o70) then (bif decide (o70 < o68) then (let y80:=sv o63 o64 o70 o68 o67; bif sd o63 o64 o70 o68 o67 then (bif decide (o68 < i64.wrap (o69 - o70)) then (bif decide (i64.wrap (o69 - o70) < o66) then (let y81:=sv o63 o68 (i64.wrap (o69 - o70)) o66 o67; bif sd o63 o68 (i64.wrap (o69 - o70)) o66 o67 then (some ()) else none) else (some ())) else (some ())) else none) else (bif decide (o68 < i64.wrap (o69 - o70)) then (bif decide (i64.wrap (o69 - o70) < o66) then (let y82:=sv o63 o68 (i64.wrap (o69 - o70)) o66 o67; bif sd o63 o68 (i64.wrap (o69 - o70)) o66 o67 then (some ()) else none) else (some ())) else (some ()))) else (bif decide (o68 < i64.wrap (o69 - o70)) then (bif decide (i64.wrap (o69 - o70) < o66) then (let y83:=sv o63 o68 (i64.wrap (o69 - o70)) o66 o67; bif sd o63 o68 (i64.wrap (o69 - o70)) o66 o67 then (some ()) else none) else (some ())) else (some ())))) m x0 x1 x2 x3 x4 z62 (i64.wrap (z62 + x2)) x1 x2 (i64.wrap (i64.wrap (z62 + x2) - (1:Int))))))
def a6.lv:Nat → (Ty.den SI → Ty.den I6 → Ty.den I6 → Ty.den I6 → Ty.den .fn → Bool) × (Ty.den SI → Ty.den I6 → Ty.den I6 → Ty.den I6 → Ty.den .fn → Args [])
 | 0=>(fun _ _ _ _ _=>false,fun _ _ _ _ _=>dfltA [])
 | k + 1=>(fun x0 x1 x2 x3 x4=>(a6.raw (a6.lv k).1 (a6.lv k).2 fuel x0 x1 x2 x3 x4).isSome,fun x0 x1 x2 x3 x4=>(a6.raw (a6.lv k).1 (a6.lv k).2 fuel x0 x1 x2 x3 x4).getD (dfltA []))
def a6.val (x0:(Ty.den SI)) (x1:Int) (x2:Int) (x3:Int) (x4:(Ty.den .fn)):Args []:=(a6.lv 64).2 x0 x1 x2 x3 x4
def a6.dom (x0:(Ty.den SI)) (x1:Int) (x2:Int) (x3:Int) (x4:(Ty.den .fn)):Bool:=(a6.lv 64).1 x0 x1 x2 x3 x4
def a6.sg:Sig:=⟨[SI,I6,I6,I6,.fn],[],false,fun x=>a6.dom x.1 x.2.1 x.2.2.1 x.2.2.2.1 x.2.2.2.2.1,fun x=>a6.val x.1 x.2.1 x.2.2.1 x.2.2.2.1 x.2.2.2.2.1⟩
noncomputable def a6.q0 (m:Nat) (s:St) (k:X → St → Option (Args [])):Option (Args []) :=
 match unSt a6.l0.t [SI,I6,.fn,I6,I6] s with
  | some x=>a6.l0 (fun o0 o1 o2=>k (.exit 0) (mkSt a6.l0.e0 [SI,I6,I6] (o0,(o1,(o2,()))))) m x.1 x.2.1 x.2.2.1 x.2.2.2.1 x.2.2.2.2.1
  | none=>none
noncomputable def a6.q1 (m:Nat) (s:St) (k:X → St → Option (Args [])):Option (Args []) :=
 match unSt a6.l1.t [SI,I6,I6] s with
  | some x=>a6.l1 (k (.exit 2) (mkSt a6.l1.e0 [] ())) m x.1 x.2.1 x.2.2.1
  | none=>none
noncomputable def a6.q2 (m:Nat) (s:St) (k:X → St → Option (Args [])):Option (Args []) :=
 match unSt a6.l2.t [SI,I6,.fn,I6,I6] s with
  | some x=>a6.l2 (fun o0 o1 o2=>k (.exit 4) (mkSt a6.l2.e0 [SI,I6,I6] (o0,(o1,(o2,()))))) m x.1 x.2.1 x.2.2.1 x.2.2.2.1 x.2.2.2.2.1
  | none=>none
noncomputable def a6.q3 (m:Nat) (s:St) (k:X → St → Option (Args [])):Option (Args []) :=
 match unSt a6.l3.t [SI,I6,I6] s with
  | some x=>a6.l3 (k (.exit 6) (mkSt a6.l3.e0 [] ())) m x.1 x.2.1 x.2.2.1
  | none=>none
noncomputable def a6.q4 (m:Nat) (s:St) (k:X → St → Option (Args [])):Option (Args []) :=
 match unSt a6.l4.t [SI,I6,I6,I6,.fn,I6,I6,I6,I6,I6] s with
  | some x=>a6.l4 (fun o0 o1 o2 o3 o4 o5 o6 o7=>k (.exit 8) (mkSt a6.l4.e0 [SI,I6,I6,I6,.fn,I6,I6,I6] (o0,(o1,(o2,(o3,(o4,(o5,(o6,(o7,())))))))))) m x.1 x.2.1 x.2.2.1 x.2.2.2.1 x.2.2.2.2.1 x.2.2.2.2.2.1 x.2.2.2.2.2.2.1 x.2.2.2.2.2.2.2.1 x.2.2.2.2.2.2.2.2.1 x.2.2.2.2.2.2.2.2.2.1
  | none=>none
noncomputable def a6.L (m:Nat) (c:Code) (s:St) (k:X → St → Option (Args [])):Option (Args []) :=
 match O9 c with
 | some r=>bif Nat.beq r 31003 then (a6.q0 m s k) else bif Nat.beq r 55009 then (a6.q1 m s k) else bif Nat.beq r 83015 then (a6.q2 m s k) else bif Nat.beq r 108021 then (a6.q3 m s k) else bif Nat.beq r 149033 then (a6.q4 m s k) else none
 | none=>none
theorem a6.cs_eq:loopsL Go.Proofs.Tryz.f301 [] = [(loopsL Go.Proofs.Tryz.f301 []).getD 0 .skip,(loopsL Go.Proofs.Tryz.f301 []).getD 1 .skip,(loopsL Go.Proofs.Tryz.f301 []).getD 2 .skip,(loopsL Go.Proofs.Tryz.f301 []).getD 3 .skip,(loopsL Go.Proofs.Tryz.f301 []).getD 4 .skip]:=by kernel_rfl
theorem a6.good (sd:Ty.den SI → Ty.den I6 → Ty.den I6 → Ty.den I6 → Ty.den .fn → Bool) (sv:Ty.den SI → Ty.den I6 → Ty.den I6 → Ty.den I6 → Ty.den .fn → Args []):Good (a6.E sd sv) (fun c=>c ∈ loopsL Go.Proofs.Tryz.f301 []) a6.L:=by
 have cases:∀ c,c ∈ loopsL Go.Proofs.Tryz.f301 [] → c = (loopsL Go.Proofs.Tryz.f301 []).getD 0 .skip ∨ c = (loopsL Go.Proofs.Tryz.f301 []).getD 1 .skip ∨ c = (loopsL Go.Proofs.Tryz.f301 []).getD 2 .skip ∨ c = (loopsL Go.Proofs.Tryz.f301 []).getD 3 .skip ∨ c = (loopsL Go.Proofs.Tryz.f301 []).getD 4 .skip:=by
  intro c hc; rw [a6.cs_eq] at hc; simpa only [List.mem_cons,List.not_mem_nil,or_false] using hc
 refine ⟨?_,?_,fun c hc=>T4 c hc⟩
 ·intro c s k r hc h
  rcases cases c hc with rfl | rfl | rfl | rfl | rfl
  ·have h':a6.q0 0 s k = some r:=Eq.trans (by kernel_rfl) h
   unfold a6.q0 at h'
   split at h'
   ·rename_i x hx
    have h2:(none:Option (Args [])) = some r:=Eq.trans (by kernel_rfl) h'
    cases h2
   cases h'
  ·have h':a6.q1 0 s k = some r:=Eq.trans (by kernel_rfl) h
   unfold a6.q1 at h'
   split at h'
   ·rename_i x hx
    have h2:(none:Option (Args [])) = some r:=Eq.trans (by kernel_rfl) h'
    cases h2
   cases h'
  ·have h':a6.q2 0 s k = some r:=Eq.trans (by kernel_rfl) h
   unfold a6.q2 at h'
   split at h'
   ·rename_i x hx
    have h2:(none:Option (Args [])) = some r:=Eq.trans (by kernel_rfl) h'
    cases h2
   cases h'
  ·have h':a6.q3 0 s k = some r:=Eq.trans (by kernel_rfl) h
   unfold a6.q3 at h'
   split at h'
   ·rename_i x hx
    have h2:(none:Option (Args [])) = some r:=Eq.trans (by kernel_rfl) h'
    cases h2
   cases h'
  ·have h':a6.q4 0 s k = some r:=Eq.trans (by kernel_rfl) h
   unfold a6.q4 at h'
   split at h'
   ·rename_i x hx
    have h2:(none:Option (Args [])) = some r:=Eq.trans (by kernel_rfl) h'
    cases h2
   cases h'
 ·intro m c s k r hc h
  rcases cases c hc with rfl | rfl | rfl | rfl | rfl
  ·have h':a6.q0 (m + 1) s k = some r:=Eq.trans (by kernel_rfl) h
   unfold a6.q0 at h'
   split at h'
   ·rename_i x hx
    rw [O8 hx]
    exact Eq.trans (by kernel_rfl) h'
   cases h'
  ·have h':a6.q1 (m + 1) s k = some r:=Eq.trans (by kernel_rfl) h
   unfold a6.q1 at h'
   split at h'
   ·rename_i x hx
    rw [O8 hx]
    exact Eq.trans (by kernel_rfl) h'
   cases h'
  ·have h':a6.q2 (m + 1) s k = some r:=Eq.trans (by kernel_rfl) h
   unfold a6.q2 at h'
   split at h'
   ·rename_i x hx
    rw [O8 hx]
    exact Eq.trans (by kernel_rfl) h'
   cases h'
  ·have h':a6.q3 (m + 1) s k = some r:=Eq.trans (by kernel_rfl) h
   unfold a6.q3 at h'
   split at h'
   ·rename_i x hx
    rw [O8 hx]
    exact Eq.trans (by kernel_rfl) h'
   cases h'
  ·have h':a6.q4 (m + 1) s k = some r:=Eq.trans (by kernel_rfl) h
   unfold a6.q4 at h'
   split at h'
   ·rename_i x hx
    rw [O8 hx]
    exact Eq.trans (by kernel_rfl) h'
   cases h'
theorem a6.eq (sd:Ty.den SI → Ty.den I6 → Ty.den I6 → Ty.den I6 → Ty.den .fn → Bool) (sv:Ty.den SI → Ty.den I6 → Ty.den I6 → Ty.den I6 → Ty.den .fn → Args []) (m:Nat) (x0:(Ty.den SI)) (x1:Int) (x2:Int) (x3:Int) (x4:(Ty.den .fn)):runFn (a6.E sd sv) Go.Proofs.Tryz.f301 [SI,I6,I6,I6,.fn] [] false (a6.L m) (x0,(x1,(x2,(x3,(x4,()))))) = a6.raw sd sv m x0 x1 x2 x3 x4:=by kernel_rfl
theorem a6.told_lv (h:Base0) (hs:AllT [(319,B4.sg),(244,E8.sg)]):∀ k,Told 301 ⟨[SI,I6,I6,I6,.fn],[],false,fun x=>(a6.lv k).1 x.1 x.2.1 x.2.2.1 x.2.2.2.1 x.2.2.2.2.1,fun x=>(a6.lv k).2 x.1 x.2.1 x.2.2.1 x.2.2.2.1 x.2.2.2.2.1⟩
 | 0=>⟨fun _ _ _ _ _ _ _ hd=>(nomatch hd),fn301.2⟩
 | k + 1=>by
  have ih:=a6.told_lv h hs k
  exact T5 h fn301 (l:=[(319,B4.sg),(244,E8.sg),(301,⟨[SI,I6,I6,I6,.fn],[],false,fun x=>(a6.lv k).1 x.1 x.2.1 x.2.2.1 x.2.2.2.1 x.2.2.2.2.1,fun x=>(a6.lv k).2 x.1 x.2.1 x.2.2.1 x.2.2.2.1 x.2.2.2.2.1⟩)]) (il:=[]) (pl:=[]) (args:=[SI,I6,I6,I6,.fn]) (res:=[]) (fresh:=false) (raw:=fun (x:Args [SI,I6,I6,I6,.fn])=>a6.raw (a6.lv k).1 (a6.lv k).2 fuel x.1 x.2.1 x.2.2.1 x.2.2.2.1 x.2.2.2.2.1) ⟨hs.1,hs.2.1,ih,trivial⟩ trivial trivial (L:=a6.L) (a6.good (a6.lv k).1 (a6.lv k).2) (fun (x:Args [SI,I6,I6,I6,.fn])=>a6.eq (a6.lv k).1 (a6.lv k).2 fuel x.1 x.2.1 x.2.2.1 x.2.2.2.1 x.2.2.2.2.1)
theorem a6.told (h:Base0) (hs:AllT [(319,B4.sg),(244,E8.sg)]):Told 301 a6.sg:=a6.told_lv h hs 64
abbrev w8.ls:List (Nat × Sig):=[(300,w9.sg),(301,a6.sg),(244,E8.sg)]
def w8.E:Env:=⟨T,sigL w8.ls,inlL [],annL [(11002,⟨some [0,1,2,6,7,8],[],[],some [0,1,2,6,7]⟩),(28007,⟨some [0,1,2,6],[],[],some []⟩),(33009,⟨some [0,1,2,6,7,8],[],[],some [0,1,2,6,7]⟩)],[244],primL [],globL⟩
def w8.l2 (K0:(Ty.den SI) → Int → (Ty.den .fn) → Int → Int → Option (Args [])):Nat → (Ty.den SI) → Int → (Ty.den .fn) → Int → Int → Int → Option (Args [])
 | 0,_,_,_,_,_,_=>none
 | m + 1,v18,v19,v20,v21,v22,v23=>bif decide (v23 ≤ v19) then (let y24:=a6.val v18 v22 (i64.wrap (v22 + v21)) v23 v20; bif a6.dom v18 v22 (i64.wrap (v22 + v21)) v23 v20 then (w8.l2 K0 m v18 v19 v20 v21 v23 (i64.wrap (v23 + i64.wrap ((2:Int) * v21)))) else none) else (K0 v18 v19 v20 v21 v22)
def w8.l2.t:St:=⟨jka 54 [zv SI,zv I6,.one (.sc (.lf .fn none)),jk,jk,jk,zv I6,zv I6,zv I6],[],0⟩
def w8.l2.e0:St:=⟨jka 55 [zv SI,zv I6,.one (.sc (.lf .fn none)),jk,jk,jk,zv I6,zv I6],[],0⟩
def w8.l1 (K0:Option (Args [])):Nat → (Ty.den SI) → Int → (Ty.den .fn) → Int → Option (Args [])
 | 0,_,_,_,_=>none
 | m + 1,v14,v15,v16,v17=>bif decide (v17 < v15) then (w8.l2 (fun o25 o26 o27 o28 o29=>bif decide (i64.wrap (o29 + o28) < o26) then (let y30:=a6.val o25 o29 (i64.wrap (o29 + o28)) o26 o27; bif a6.dom o25 o29 (i64.wrap (o29 + o28)) o26 o27 then (w8.l1 K0 m o25 o26 o27 (i64.wrap (o28 * (2:Int)))) else none) else (w8.l1 K0 m o25 o26 o27 (i64.wrap (o28 * (2:Int))))) m v14 v15 v16 v17 ((0:Int)) (i64.wrap ((2:Int) * v17))) else (K0)
def w8.l1.t:St:=⟨jka 56 [zv SI,zv I6,.one (.sc (.lf .fn none)),jk,jk,jk,zv I6],[],0⟩
def w8.l1.e0:St:=⟨jka 62 [jk],[],0⟩
def w8.l0 (K0:(Ty.den SI) → Int → (Ty.den .fn) → Int → Int → Option (Args [])):Nat → (Ty.den SI) → Int → (Ty.den .fn) → Int → Int → Int → Option (Args [])
 | 0,_,_,_,_,_,_=>none
 | m + 1,v1,v2,v3,v4,v5,v6=>bif decide (v6 ≤ v2) then (let y7:=w9.val v1 v5 v6 v3; bif w9.dom v1 v5 v6 v3 then (w8.l0 K0 m v1 v2 v3 v4 v6 (i64.wrap (v6 + v4))) else none) else (K0 v1 v2 v3 v4 v5)
def w8.l0.t:St:=⟨jka 54 [zv SI,zv I6,.one (.sc (.lf .fn none)),jk,jk,jk,zv I6,zv I6,zv I6],[],0⟩
def w8.l0.e0:St:=⟨jka 55 [zv SI,zv I6,.one (.sc (.lf .fn none)),jk,jk,jk,zv I6,zv I6],[],0⟩
def w8.raw (m:Nat) (x0:(Ty.den SI)) (x1:Int) (x2:(Ty.den .fn)):Option (Args []):=w8.l0 (fun o8 o9 o10 o11 o12=>let y13:=w9.val o8 o12 o9 o10; bif w9.dom o8 o12 o9 o10 then (w8.l1 (some ()) m o8 o9 o10 o11) else none) m x0 x1 x2 ((20:Int)) ((0:Int)) ((20:Int))
def w8.val (x0:(Ty.den SI)) (x1:Int) (x2:(Ty.den .fn)):=(w8.raw fuel x0 x1 x2).getD (dfltA [])
def w8.dom (x0:(Ty.den SI)) (x1:Int) (x2:(Ty.den .fn)):=(w8.raw fuel x0 x1 x2).isSome
def w8.sg:Sig:=⟨[SI,I6,.fn],[],false,fun x=>w8.dom x.1 x.2.1 x.2.2.1,fun x=>w8.val x.1 x.2.1 x.2.2.1⟩
noncomputable def w8.q0 (m:Nat) (s:St) (k:X → St → Option (Args [])):Option (Args []) :=
 match unSt w8.l0.t [SI,I6,.fn,I6,I6,I6] s with
  | some x=>w8.l0 (fun o0 o1 o2 o3 o4=>k (.exit 0) (mkSt w8.l0.e0 [SI,I6,.fn,I6,I6] (o0,(o1,(o2,(o3,(o4,()))))))) m x.1 x.2.1 x.2.2.1 x.2.2.2.1 x.2.2.2.2.1 x.2.2.2.2.2.1
  | none=>none
noncomputable def w8.q1 (m:Nat) (s:St) (k:X → St → Option (Args [])):Option (Args []) :=
 match unSt w8.l1.t [SI,I6,.fn,I6] s with
  | some x=>w8.l1 (k (.exit 2) (mkSt w8.l1.e0 [] ())) m x.1 x.2.1 x.2.2.1 x.2.2.2.1
  | none=>none
noncomputable def w8.q2 (m:Nat) (s:St) (k:X → St → Option (Args [])):Option (Args []) :=
 match unSt w8.l2.t [SI,I6,.fn,I6,I6,I6] s with
  | some x=>w8.l2 (fun o0 o1 o2 o3 o4=>k (.exit 4) (mkSt w8.l2.e0 [SI,I6,.fn,I6,I6] (o0,(o1,(o2,(o3,(o4,()))))))) m x.1 x.2.1 x.2.2.1 x.2.2.2.1 x.2.2.2.2.1 x.2.2.2.2.2.1
  | none=>none
noncomputable def w8.L (m:Nat) (c:Code) (s:St) (k:X → St → Option (Args [])):Option (Args []) :=
 match O9 c with
 | some r=>bif Nat.beq r 11002 then (w8.q0 m s k) else bif Nat.beq r 28007 then (w8.q1 m s k) else bif Nat.beq r 33009 then (w8.q2 m s k) else none
 | none=>none
theorem w8.cs_eq:loopsL Go.Proofs.Tryz.f269 [] = [(loopsL Go.Proofs.Tryz.f269 []).getD 0 .skip,(loopsL Go.Proofs.Tryz.f269 []).getD 1 .skip,(loopsL Go.Proofs.Tryz.f269 []).getD 2 .skip]:=by kernel_rfl
theorem w8.good:Good (w8.E) (fun c=>c ∈ loopsL Go.Proofs.Tryz.f269 []) w8.L:=by
 have cases:∀ c,c ∈ loopsL Go.Proofs.Tryz.f269 [] → c = (loopsL Go.Proofs.Tryz.f269 []).getD 0 .skip ∨ c = (loopsL Go.Proofs.Tryz.f269 []).getD 1 .skip ∨ c = (loopsL Go.Proofs.Tryz.f269 []).getD 2 .skip:=by
  intro c hc; rw [w8.cs_eq] at hc; simpa only [List.mem_cons,List.not_mem_nil,or_false] using hc
 refine ⟨?_,?_,fun c hc=>T4 c hc⟩
 ·intro c s k r hc h
  rcases cases c hc with rfl | rfl | rfl
  ·have h':w8.q0 0 s k = some r:=Eq.trans (by kernel_rfl) h
   unfold w8.q0 at h'
   split at h'
   ·rename_i x hx
    have h2:(none:Option (Args [])) = some r:=Eq.trans (by kernel_rfl) h'
    cases h2
   cases h'
  ·have h':w8.q1 0 s k = some r:=Eq.trans (by kernel_rfl) h
   unfold w8.q1 at h'
   split at h'
   ·rename_i x hx
    have h2:(none:Option (Args [])) = some r:=Eq.trans (by kernel_rfl) h'
    cases h2
   cases h'
  ·have h':w8.q2 0 s k = some r:=Eq.trans (by kernel_rfl) h
   unfold w8.q2 at h'
   split at h'
   ·rename_i x hx
    have h2:(none:Option (Args [])) = some r:=Eq.trans (by kernel_rfl) h'
    cases h2
   cases h'
 ·intro m c s k r hc h
  rcases cases c hc with rfl | rfl | rfl
  ·have h':w8.q0 (m + 1) s k = some r:=Eq.trans (by kernel_rfl) h
   unfold w8.q0 at h'
   split at h'
   ·rename_i x hx
    rw [O8 hx]
    exact Eq.trans (by kernel_rfl) h'
   cases h'
  ·have h':w8.q1 (m + 1) s k = some r:=Eq.trans (by kernel_rfl) h
   unfold w8.q1 at h'
   split at h'
   ·rename_i x hx
    rw [O8 hx]
    exact Eq.trans (by kernel_rfl) h'
   cases h'
  ·have h':w8.q2 (m + 1) s k = some r:=Eq.trans (by kernel_rfl) h
   unfold w8.q2 at h'
   split at h'
   ·rename_i x hx
    rw [O8 hx]
    exact Eq.trans (by kernel_rfl) h'
   cases h'
theorem w8.eq (m:Nat) (x0:(Ty.den SI)) (x1:Int) (x2:(Ty.den .fn)):runS w8.E Go.Proofs.Tryz.f269 w8.sg (w8.L m) (x0,(x1,(x2,()))) = w8.raw m x0 x1 x2:=by kernel_rfl
theorem w8.told (h:Base0) (hs:AllT w8.ls):Told 269 w8.sg :=
 T5 h fn269 (il:=[]) (pl:=[]) hs trivial trivial (L:=w8.L) w8.good (fun x=>w8.eq fuel x.1 x.2.1 x.2.2.1)
end Pt
end
section
open Go Go.Am
namespace Pt
set_option maxRecDepth 100000
abbrev B7.ls:List (Nat × Sig):=[(269,w8.sg),(244,E8.sg)]
def B7.E:Env:=⟨T,sigL B7.ls,inlL [],annL [],[244],primL [],globL⟩
def B7.raw (m:Nat) (x0:(Ty.den SI)) (x1:(Ty.den .fn)):Option (Args []):=let y1:=w8.val x0 ((↑(List.length x0):Int)) x1; bif w8.dom x0 ((↑(List.length x0):Int)) x1 then (some ()) else none
def B7.val (x0:(Ty.den SI)) (x1:(Ty.den .fn)):=(B7.raw fuel x0 x1).getD (dfltA [])
def B7.dom (x0:(Ty.den SI)) (x1:(Ty.den .fn)):=(B7.raw fuel x0 x1).isSome
def B7.sg:Sig:=⟨[SI,.fn],[],false,fun x=>B7.dom x.1 x.2.1,fun x=>B7.val x.1 x.2.1⟩
theorem B7.eq (m:Nat) (x0:(Ty.den SI)) (x1:(Ty.den .fn)):runS B7.E Go.Proofs.Tryz.f243 B7.sg (nL m) (x0,(x1,())) = B7.raw m x0 x1:=by kernel_rfl
theorem B7.told (h:Base0) (hs:AllT B7.ls):Told 243 B7.sg :=
 T5 h fn243 (il:=[]) (pl:=[]) hs trivial trivial (L:=(fun _ _ _ _=>none)) a14 (fun x=>B7.eq fuel x.1 x.2.1)
end Pt
end
section
open Go Go.Am
open IntKind (i64 u64 u8 i32 u32)
namespace Pt
set_option maxRecDepth 100000
def L7.E:Env:=⟨T,sigL [],inlL [],annL [(9003,⟨some [3,6,7,8],[(3,none,I6)],[],some [3]⟩)],[],primL [],globL⟩
def L7.l0 (K0:(Ty.den SI) → Option (Args [SI])):Nat → (Ty.den SI) → Int → Int → (Ty.den SI) → Option (Args [SI])
 | 0,_,_,_,_=>none
 | m + 1,v1,v2,v3,v4=>bif decide (v3 < v2) then (bif decide ((0:Int) ≤ v3) && decide (v3 < (↑(List.length v1):Int)) then (let z5:=List.length v4 + [List.getD v1 (Int.toNat v3) (0:Int)].length; bif decide (z5 * (8:Nat) ≤ (140737488355328:Nat)) && decide (z5 ≤ lim) then (L7.l0 K0 m v1 v2 (i64.wrap (v3 + (1:Int))) (v4 ++ [List.getD v1 (Int.toNat v3) (0:Int)])) else (none)) else (none)) else (K0 v4)
def L7.l0.t:St:=⟨jka 9 [jk,jk,jk,.one (.sc (.own 0 0)),jk,jk,zv SI,zv I6,zv I6],[.row I6 true 0 []],0⟩
def L7.l0.e0:St:=⟨jka 14 [jk,jk,jk,.one (.sc (.own 0 0))],[.row I6 true 0 []],0⟩
def L7.raw (m:Nat) (x0:(Ty.den SI)):Option (Args [SI]):=L7.l0 (fun o6=>some ((o6,()))) m x0 ((↑(List.length x0):Int)) ((0:Int)) (nl (Ty.int i64).den)
def L7.val (x0:(Ty.den SI)):=(L7.raw fuel x0).getD (dfltA [SI])
def L7.dom (x0:(Ty.den SI)):=(L7.raw fuel x0).isSome
def L7.sg:Sig:=⟨[SI],[SI],false,fun x=>L7.dom x.1,fun x=>L7.val x.1⟩
noncomputable def L7.q0 (m:Nat) (s:St) (k:X → St → Option (Args [SI])):Option (Args [SI]) :=
 match unSt L7.l0.t [SI,I6,I6,SI] s with
  | some x=>L7.l0 (fun o0=>k (.exit 0) (mkSt L7.l0.e0 [SI] (o0,()))) m x.1 x.2.1 x.2.2.1 x.2.2.2.1
  | none=>none
noncomputable def L7.L (m:Nat) (c:Code) (s:St) (k:X → St → Option (Args [SI])):Option (Args [SI]) :=
 match O9 c with
 | some r=>bif Nat.beq r 9003 then (L7.q0 m s k) else none
 | none=>none
theorem L7.cs_eq:loopsL Go.Proofs.Tryz.f245 [] = [(loopsL Go.Proofs.Tryz.f245 []).getD 0 .skip]:=by kernel_rfl
theorem L7.good:Good (L7.E) (fun c=>c ∈ loopsL Go.Proofs.Tryz.f245 []) L7.L:=by
 have cases:∀ c,c ∈ loopsL Go.Proofs.Tryz.f245 [] → c = (loopsL Go.Proofs.Tryz.f245 []).getD 0 .skip:=by
  intro c hc; rw [L7.cs_eq] at hc; simpa only [List.mem_cons,List.not_mem_nil,or_false] using hc
 refine ⟨?_,?_,fun c hc=>T4 c hc⟩
 ·intro c s k r hc h
  rcases cases c hc with rfl
  ·have h':L7.q0 0 s k = some r:=Eq.trans (by kernel_rfl) h
   unfold L7.q0 at h'
   split at h'
   ·rename_i x hx
    have h2:(none:Option (Args [SI])) = some r:=Eq.trans (by kernel_rfl) h'
    cases h2
   cases h'
 ·intro m c s k r hc h
  rcases cases c hc with rfl
  ·have h':L7.q0 (m + 1) s k = some r:=Eq.trans (by kernel_rfl) h
   unfold L7.q0 at h'
   split at h'
   ·rename_i x hx
    rw [O8 hx]
    exact Eq.trans (by kernel_rfl) h'
   cases h'
theorem L7.eq (m:Nat) (x0:(Ty.den SI)):runS L7.E Go.Proofs.Tryz.f245 L7.sg (L7.L m) (x0,()) = L7.raw m x0:=by kernel_rfl
theorem L7.told (h:Base0):Told 245 L7.sg :=
 T5 h fn245 (l:=[]) (il:=[]) (pl:=[]) trivial trivial trivial (L:=L7.L) L7.good (fun x=>L7.eq fuel x.1)
abbrev M3.ls:List (Nat × Sig):=[(241,L6.sg),(242,N4.sg),(243,B7.sg),(245,L7.sg),(244,E8.sg)]
def M3.E:Env:=⟨T,sigL M3.ls,inlL [],annL [(9003,⟨some [3,4],[],[],some [3]⟩)],[244],primL [],globL⟩
def M3.l0 (K0:(Ty.den SI) → Option (Args [SI])):Nat → (Ty.den SI) → (Ty.den SI) → Option (Args [SI])
 | 0,_,_=>none
 | m + 1,v2,v3=>bif decide ((↑(List.length v3):Int) > (0:Int)) then (let y4:=N4.val v3; bif N4.dom v3 then (bif decide ((0:Int) ≤ y4.1) && decide (y4.1 ≤ (↑(List.length v3):Int)) then (let y5:=B7.val (List.take (Int.toNat y4.1) v3) (Option.some (244:Nat)); bif B7.dom (List.take (Int.toNat y4.1) v3) (Option.some (244:Nat)) then (let z6:=i64.wrap ((if (1:Int) > y4.1 then (1:Int) else y4.1) - (1:Int)); bif decide ((0:Int) ≤ z6) && decide (z6 ≤ (↑(List.length v3):Int)) && decide ((↑(List.length v3):Int) ≤ (↑(List.length v3):Int)) then (let z7:=(↑(List.drop z6.toNat (List.take (↑(List.length v3):Int).toNat v3)).length:Int); bif decide ((1:Int) ≤ z7) && decide (z7 ≤ z7) then (M3.l0 K0 m v2 (List.drop (1:Nat) (List.take z7.toNat (List.drop z6.toNat (List.take (↑(List.length v3):Int).toNat v3))))) else (none)) else (none)) else none) else (none)) else none) else (K0 v2)
def M3.l0.t:St:=⟨jka 22 [jk,jk,jk,zv SI,zv SI],[],0⟩
def M3.l0.e0:St:=⟨jka 23 [jk,jk,jk,zv SI],[],0⟩
def M3.raw (m:Nat) (x0:(Ty.den SI)):Option (Args [SI]):=let y1:=L6.val x0; bif L6.dom x0 then (M3.l0 (fun o8=>let y9:=L7.val o8; bif L7.dom o8 then (some y9) else none) m y1.1 y1.1) else none
def M3.val (x0:(Ty.den SI)):=(M3.raw fuel x0).getD (dfltA [SI])
def M3.dom (x0:(Ty.den SI)):=(M3.raw fuel x0).isSome
def M3.sg:Sig:=⟨[SI],[SI],false,fun x=>M3.dom x.1,fun x=>M3.val x.1⟩
noncomputable def M3.q0 (m:Nat) (s:St) (k:X → St → Option (Args [SI])):Option (Args [SI]) :=
 match unSt M3.l0.t [SI,SI] s with
  | some x=>M3.l0 (fun o0=>k (.exit 0) (mkSt M3.l0.e0 [SI] (o0,()))) m x.1 x.2.1
  | none=>none
noncomputable def M3.L (m:Nat) (c:Code) (s:St) (k:X → St → Option (Args [SI])):Option (Args [SI]) :=
 match O9 c with
 | some r=>bif Nat.beq r 9003 then (M3.q0 m s k) else none
 | none=>none
theorem M3.cs_eq:loopsL Go.Proofs.Tryz.f221 [] = [(loopsL Go.Proofs.Tryz.f221 []).getD 0 .skip]:=by kernel_rfl
theorem M3.good:Good (M3.E) (fun c=>c ∈ loopsL Go.Proofs.Tryz.f221 []) M3.L:=by
 have cases:∀ c,c ∈ loopsL Go.Proofs.Tryz.f221 [] → c = (loopsL Go.Proofs.Tryz.f221 []).getD 0 .skip:=by
  intro c hc; rw [M3.cs_eq] at hc; simpa only [List.mem_cons,List.not_mem_nil,or_false] using hc
 refine ⟨?_,?_,fun c hc=>T4 c hc⟩
 ·intro c s k r hc h
  rcases cases c hc with rfl
  ·have h':M3.q0 0 s k = some r:=Eq.trans (by kernel_rfl) h
   unfold M3.q0 at h'
   split at h'
   ·rename_i x hx
    have h2:(none:Option (Args [SI])) = some r:=Eq.trans (by kernel_rfl) h'
    cases h2
   cases h'
 ·intro m c s k r hc h
  rcases cases c hc with rfl
  ·have h':M3.q0 (m + 1) s k = some r:=Eq.trans (by kernel_rfl) h
   unfold M3.q0 at h'
   split at h'
   ·rename_i x hx
    rw [O8 hx]
    exact Eq.trans (by kernel_rfl) h'
   cases h'
theorem M3.eq (m:Nat) (x0:(Ty.den SI)):runS M3.E Go.Proofs.Tryz.f221 M3.sg (M3.L m) (x0,()) = M3.raw m x0:=by kernel_rfl
theorem M3.told (h:Base0) (hs:AllT M3.ls):Told 221 M3.sg :=
 T5 h fn221 (il:=[]) (pl:=[]) hs trivial trivial (L:=M3.L) M3.good (fun x=>M3.eq fuel x.1)
end Pt
end
section
open Go Go.Am
namespace Pt
set_option maxRecDepth 100000
abbrev X8.ls:List (Nat × Sig):=[(220,C6.sg),(221,M3.sg)]
def X8.E:Env:=mkE X8.ls
def X8.raw (m:Nat) (x0:(Ty.den SI)):Option (Args [.bool]):=let y1:=M3.val x0; bif M3.dom x0 then (let y2:=C6.val y1.1 x0; bif C6.dom y1.1 x0 then (some y2) else none) else none
def X8.val (x0:(Ty.den SI)):=(X8.raw fuel x0).getD (dfltA [.bool])
def X8.dom (x0:(Ty.den SI)):=(X8.raw fuel x0).isSome
def X8.sg:Sig:=⟨[SI],[.bool],false,fun x=>X8.dom x.1,fun x=>X8.val x.1⟩
theorem X8.eq (m:Nat) (x0:(Ty.den SI)):runS X8.E Go.Proofs.Tryz.f194 X8.sg (nL m) (x0,()) = X8.raw m x0:=by kernel_rfl
theorem X8.told(h:Base0) (hs:AllT X8.ls):Told 194 X8.sg :=
 told_n h fn194 hs (fun x=>X8.eq fuel x.1)
abbrev S8.ls:List (Nat × Sig):=[(190,E5.sg),(193,O1.sg),(194,X8.sg),(191,T8.sg)]
def S8.E:Env:=⟨T,sigL S8.ls,inlL [],annL [],[191],primL [],globL⟩
def S8.raw (m:Nat) (x0:(Ty.den E7)):Option (Args [.bool]):=bif (↑(List.length x0.1):Int) == (0:Int) then (some ((true,()))) else (bif decide ((1:Int) ≤ (↑(List.length x0.1):Int)) && decide ((↑(List.length x0.1):Int) ≤ (↑(List.length x0.1):Int)) then (let z1:=List.drop (1:Nat) (List.take (↑(List.length x0.1):Int).toNat x0.1); let y2:=E5.val z1 (Option.some (191:Nat)); bif E5.dom z1 (Option.some (191:Nat)) then (bif !y2.1 then (let y3:=O1.val x0; bif O1.dom x0 then (bif decide (y3.1 ≤ (30:Int)) then (let y4:=X8.val x0.1; bif X8.dom x0.1 then (some y4) else none) else (some ((false,())))) else none) else (some ((false,())))) else none) else (none))
def S8.val (x0:(Ty.den E7)):=(S8.raw fuel x0).getD (dfltA [.bool])
def S8.dom (x0:(Ty.den E7)):=(S8.raw fuel x0).isSome
def S8.sg:Sig:=⟨[E7],[.bool],false,fun x=>S8.dom x.1,fun x=>S8.val x.1⟩
theorem S8.eq (m:Nat) (x0:(Ty.den E7)):runS S8.E Go.Proofs.Tryz.f173 S8.sg (nL m) (x0,()) = S8.raw m x0:=by kernel_rfl
theorem S8.told (h:Base0) (hs:AllT S8.ls):Told 173 S8.sg :=
 T5 h fn173 (il:=[]) (pl:=[]) hs trivial trivial (L:=(fun _ _ _ _=>none)) a14 (fun x=>S8.eq fuel x.1)
end Pt
end
section
open Go Go.Am
open IntKind (i64 u64 u8 i32 u32)
namespace Pt
set_option maxRecDepth 100000
def M9.E:Env:=mkE []
def M9.raw (m:Nat) (x0:ByteArray):Option (Args [.bool]):=bif (↑(ByteArray.size x0):Int) == (0:Int) then (some ((false,()))) else (bif decide ((0:Int) < (↑(ByteArray.size x0):Int)) then (let z1:=(↑(x0.data.toList.getD (0:Nat) (0:UInt8)).toNat:Int); bif decide ((0:Int) ≤ z1) && decide (z1 < (256:Int)) then (bif decide ((↑(ByteArray.size x0):Int) ≥ i64.wrap (u8.wrap (↑(BitVec.ofInt (8:Nat) (a12.getD z1.toNat (0:Int)) &&& BitVec.ofInt (8:Nat) (7:Int)).toNat:Int))) then (some ((true,()))) else (let z2:=Int.fdiv (a12.getD z1.toNat (0:Int)) (16:Int); bif decide ((0:Int) ≤ z2) && decide (z2 < (16:Int)) then (bif decide ((↑(ByteArray.size x0):Int) > (1:Int)) then (bif decide ((1:Int) < (↑(ByteArray.size x0):Int)) then (bif decide ((↑(x0.data.toList.getD (1:Nat) (0:UInt8)).toNat:Int) < (a91.getD z2.toNat ti267.ty.dflt).1) then (some ((true,()))) else (bif decide ((1:Int) < (↑(ByteArray.size x0):Int)) then (bif decide ((a91.getD z2.toNat ti267.ty.dflt).2.1 < (↑(x0.data.toList.getD (1:Nat) (0:UInt8)).toNat:Int)) then (some ((true,()))) else (bif decide ((↑(ByteArray.size x0):Int) > (2:Int)) then (bif decide ((2:Int) < (↑(ByteArray.size x0):Int)) then (bif decide ((↑(x0.data.toList.getD (2:Nat) (0:UInt8)).toNat:Int) < (128:Int)) then (some ((true,()))) else (bif decide ((2:Int) < (↑(ByteArray.size x0):Int)) then (bif decide ((191:Int) < (↑(x0.data.toList.getD (2:Nat) (0:UInt8)).toNat:Int)) then (some ((true,()))) else (some ((false,())))) else (none))) else (none)) else (some ((false,()))))) else (none))) else (none)) else (bif decide ((↑(ByteArray.size x0):Int) > (2:Int)) then (bif decide ((2:Int) < (↑(ByteArray.size x0):Int)) then (bif decide ((↑(x0.data.toList.getD (2:Nat) (0:UInt8)).toNat:Int) < (128:Int)) then (some ((true,()))) else (bif decide ((2:Int) < (↑(ByteArray.size x0):Int)) then (bif decide ((191:Int) < (↑(x0.data.toList.getD (2:Nat) (0:UInt8)).toNat:Int)) then (some ((true,()))) else (some ((false,())))) else (none))) else (none)) else (some ((false,()))))) else (none))) else (none)) else (none))
def M9.val (x0:ByteArray):=(M9.raw fuel x0).getD (dfltA [.bool])
def M9.dom (x0:ByteArray):=(M9.raw fuel x0).isSome
def M9.sg:Sig:=⟨[.str],[.bool],false,fun x=>M9.dom x.1,fun x=>M9.val x.1⟩
theorem M9.eq (m:Nat) (x0:ByteArray):runS M9.E Go.Proofs.Tryz.f206 M9.sg (nL m) (x0,()) = M9.raw m x0:=by kernel_rfl
theorem M9.told(h:Base0):Told 206 M9.sg :=
 told_n h fn206 (l:=[]) trivial (fun x=>M9.eq fuel x.1)
end Pt
end
end
