/- What functions of the given program compute, each by the abstract machine. Conditions: none beyond the statement's own. -/
import Derived.Test.YtkciioajiopobaaGreatDoorTypes1
set_option linter.all false
noncomputable section
section
open Go Go.Am
open IntKind (i64 u64 u8 i32 u32)
namespace Pt
set_option maxRecDepth 100000
def R8.E:Env:=mkE []
def R8.raw (m:Nat) (x0:Int):Option (Args [B9]):=bif decide (x0 < (0:Int)) then (let z1:=(((0:Int),(ByteArray.mk (nl UInt8).toArray,()),(nl (Ty.int i64).den,()),(nl (Ty.int i64).den,(false,(0:Int),false,false,()),()),nl (Ty.int i64).den,()),()); some z1) else (bif decide (x0 ≥ (5:Int)) then (let z2:=(((0:Int),(ByteArray.mk (nl UInt8).toArray,()),(nl (Ty.int i64).den,()),(nl (Ty.int i64).den,(false,(0:Int),false,false,()),()),nl (Ty.int i64).den,()),()); some z2) else (let z3:=((x0,(ByteArray.mk (nl UInt8).toArray,()),(nl (Ty.int i64).den,()),(nl (Ty.int i64).den,(false,(0:Int),false,false,()),()),nl (Ty.int i64).den,()),()); some z3))
def R8.val (x0:Int):=(R8.raw fuel x0).getD (dfltA [B9])
def R8.dom (x0:Int):=(R8.raw fuel x0).isSome
def R8.sg:Sig:=⟨[I6],[B9],false,fun x=>R8.dom x.1,fun x=>R8.val x.1⟩
theorem R8.eq (m:Nat) (x0:Int):runS R8.E Go.Proofs.Tryz.f108 R8.sg (nL m) (x0,()) = R8.raw m x0:=by kernel_rfl
theorem R8.told(h:Base0):Told 108 R8.sg :=
 told_n h fn108 (l:=[]) trivial (fun x=>R8.eq fuel x.1)
abbrev a34.ls:List (Nat × Sig):=[(108,R8.sg)]
def a34.E:Env:=mkE a34.ls
def a34.raw (m:Nat) (x0:Int):Option (Args [L3]):=let y1:=R8.val x0; bif R8.dom x0 then (some (((y1.1,nl (Ty.int i64).den,false,false,()),()))) else none
def a34.val (x0:Int):=(a34.raw fuel x0).getD (dfltA [L3])
def a34.dom (x0:Int):=(a34.raw fuel x0).isSome
def a34.sg:Sig:=⟨[I6],[L3],false,fun x=>a34.dom x.1,fun x=>a34.val x.1⟩
theorem a34.eq (m:Nat) (x0:Int):runS a34.E Go.Proofs.Tryz.f87 a34.sg (nL m) (x0,()) = a34.raw m x0:=by kernel_rfl
theorem a34.told(h:Base0) (hs:AllT a34.ls):Told 87 a34.sg :=
 told_n h fn87 hs (fun x=>a34.eq fuel x.1)
def a35.sg:Sig:=hsg a34.sg
def a35.val (x0:Ty.den I6):Args [L3]:=a35.sg.val (x0,())
def a35.dom (x0:Ty.den I6):Bool:=a35.sg.dom (x0,())
abbrev O7.ls:List (Nat × Sig):=[(87,a35.sg)]
def O7.E:Env:=⟨T,sigL O7.ls,inlL [],annL [(5003,⟨some [0,1,4],[],[(0,B1),(1,B1)],some [0,1]⟩)],[],primL [],globL⟩
def O7.l0 (K0:(Ty.den B1) → (Ty.den B1) → Option (Args [B1])):Nat → Int → (Ty.den B1) → (Ty.den B1) → Option (Args [B1])
 | 0,_,_,_=>none
 | m + 1,v1,v2,v3=>bif decide (v1 < (5:Int)) then (let y4:=a35.val v1; bif a35.dom v1 then (bif decide ((0:Int) ≤ v1) && decide (v1 < (5:Int)) then (bif v1 == (0:Int) then (O7.l0 K0 m (i64.wrap (v1 + (1:Int))) v2 ((v3.1,(y4.1,v3.2.1.2),v3.2.2))) else (bif v1 == (1:Int) then (O7.l0 K0 m (i64.wrap (v1 + (1:Int))) v2 ((v3.1,(v3.2.1.1,y4.1,v3.2.1.2.2),v3.2.2))) else (bif v1 == (2:Int) then (O7.l0 K0 m (i64.wrap (v1 + (1:Int))) v2 ((v3.1,(v3.2.1.1,v3.2.1.2.1,y4.1,v3.2.1.2.2.2),v3.2.2))) else (bif v1 == (3:Int) then (O7.l0 K0 m (i64.wrap (v1 + (1:Int))) v2 ((v3.1,(v3.2.1.1,v3.2.1.2.1,v3.2.1.2.2.1,y4.1,v3.2.1.2.2.2.2),v3.2.2))) else (bif v1 == (4:Int) then (O7.l0 K0 m (i64.wrap (v1 + (1:Int))) v2 ((v3.1,(v3.2.1.1,v3.2.1.2.1,v3.2.1.2.2.1,v3.2.1.2.2.2.1,y4),v3.2.2))) else (none)))))) else (none)) else none) else (K0 v2 v3)
def O7.l0.t:St:=⟨jka 9 [.one (.sc (.ptr 0 0)),.one (.sc (.ptr 1 0)),jk,jk,zv I6],[.cells (dc B1),.cells (dc B1)],0⟩
def O7.l0.e0:St:=⟨jka 12 [.one (.sc (.ptr 0 0)),.one (.sc (.ptr 1 0))],[.cells (dc B1),.cells (dc B1)],0⟩
def O7.raw (m:Nat) :Option (Args [B1]):=let z5:=(((0:Int),(ByteArray.mk (nl UInt8).toArray,()),(nl Int,()),(nl Int,(false,(0:Int),false,false,()),()),nl Int,()),nl Int,false,false,()); let z6:=((nl (List (Ty.int i64).den),false,()),(nl (List (Ty.int i64).den),false,()),(nl (List (Ty.int i64).den),false,()),(nl (List (Ty.int i64).den),false,()),(nl (List (Ty.int i64).den),false,()),()); let z7:=((z5,z5,z5,z5,z5,()),((nl (List (Ty.int i64).den),false,()),z6),()); O7.l0 (fun o8 o9=>some ((o9,()))) m ((0:Int)) ((false,z7)) ((true,z7))
def O7.val :=(O7.raw fuel ).getD (dfltA [B1])
def O7.dom :=(O7.raw fuel ).isSome
def O7.sg:Sig:=⟨[],[B1],false,fun x=>O7.dom ,fun x=>O7.val ⟩
noncomputable def O7.q0 (m:Nat) (s:St) (k:X → St → Option (Args [B1])):Option (Args [B1]) :=
 match unSt O7.l0.t [I6,B1,B1] s with
  | some x=>O7.l0 (fun o0 o1=>k (.exit 0) (mkSt O7.l0.e0 [B1,B1] (o0,(o1,())))) m x.1 x.2.1 x.2.2.1
  | none=>none
noncomputable def O7.L (m:Nat) (c:Code) (s:St) (k:X → St → Option (Args [B1])):Option (Args [B1]) :=
 match O9 c with
 | some r=>bif Nat.beq r 5003 then (O7.q0 m s k) else none
 | none=>none
theorem O7.cs_eq:loopsL Go.Proofs.Tryz.f58 [] = [(loopsL Go.Proofs.Tryz.f58 []).getD 0 .skip]:=by kernel_rfl
theorem O7.good:Good (O7.E) (fun c=>c ∈ loopsL Go.Proofs.Tryz.f58 []) O7.L:=by
 have cases:∀ c,c ∈ loopsL Go.Proofs.Tryz.f58 [] → c = (loopsL Go.Proofs.Tryz.f58 []).getD 0 .skip:=by
  intro c hc; rw [O7.cs_eq] at hc; simpa only [List.mem_cons,List.not_mem_nil,or_false] using hc
 refine ⟨?_,?_,fun c hc=>T4 c hc⟩
 ·intro c s k r hc h
  rcases cases c hc with rfl
  ·have h':O7.q0 0 s k = some r:=Eq.trans (by kernel_rfl) h
   unfold O7.q0 at h'
   split at h'
   ·rename_i x hx
    have h2:(none:Option (Args [B1])) = some r:=Eq.trans (by kernel_rfl) h'
    cases h2
   cases h'
 ·intro m c s k r hc h
  rcases cases c hc with rfl
  ·have h':O7.q0 (m + 1) s k = some r:=Eq.trans (by kernel_rfl) h
   unfold O7.q0 at h'
   split at h'
   ·rename_i x hx
    rw [O8 hx]
    exact Eq.trans (by kernel_rfl) h'
   cases h'
theorem O7.eq (m:Nat) :runS O7.E Go.Proofs.Tryz.f58 O7.sg (O7.L m) () = O7.raw m :=by kernel_rfl
theorem O7.told (h:Base0) (hs:AllT O7.ls):Told 58 O7.sg :=
 T5 h fn58 (il:=[]) (pl:=[]) hs trivial trivial (L:=O7.L) O7.good (fun x=>O7.eq fuel )
def a42.sg:Sig:=hsg O7.sg
def a42.val :Args [B1]:=a42.sg.val ()
def a42.dom :Bool:=a42.sg.dom ()
abbrev X9.ls:List (Nat × Sig):=[(58,a42.sg)]
def X9.E:Env:=mkE X9.ls
def X9.raw (m:Nat) :Option (Args [a7]):=let y1:=a42.val; bif a42.dom then (some (((true,false,(nl (Ty.int u8).den,false,(0:Int),nl (Ty.int u8).den,()),y1.1,nl (Ty.int u8).den,(false,false,()),(0:Int),()),()))) else none
def X9.val :=(X9.raw fuel ).getD (dfltA [a7])
def X9.dom :=(X9.raw fuel ).isSome
def X9.sg:Sig:=⟨[],[a7],false,fun x=>X9.dom ,fun x=>X9.val ⟩
theorem X9.eq (m:Nat) :runS X9.E Go.Proofs.Tryz.f17 X9.sg (nL m) () = X9.raw m :=by kernel_rfl
theorem X9.told(h:Base0) (hs:AllT X9.ls):Told 17 X9.sg :=
 told_n h fn17 hs (fun x=>X9.eq fuel )
end Pt
end
section
open Go Go.Am
namespace Pt
set_option maxRecDepth 100000
abbrev M8.ls:List (Nat × Sig):=[(17,X9.sg)]
def M8.E:Env:=mkE M8.ls
def M8.raw (m:Nat) (x0:(Ty.den a7)):Option (Args [a7]):=bif !x0.1 then (let y1:=X9.val; bif X9.dom then (some y1) else none) else (some ((x0,())))
def M8.val (x0:(Ty.den a7)):=(M8.raw fuel x0).getD (dfltA [a7])
def M8.dom (x0:(Ty.den a7)):=(M8.raw fuel x0).isSome
def M8.sg:Sig:=⟨[a7],[a7],false,fun x=>M8.dom x.1,fun x=>M8.val x.1⟩
theorem M8.eq (m:Nat) (x0:(Ty.den a7)):runS M8.E Go.Proofs.Tryz.f56 M8.sg (nL m) (x0,()) = M8.raw m x0:=by kernel_rfl
theorem M8.told(h:Base0) (hs:AllT M8.ls):Told 56 M8.sg :=
 told_n h fn56 hs (fun x=>M8.eq fuel x.1)
def a27.E:Env:=mkE []
def a27.raw (m:Nat) (x0:Int):Option (Args [.bool]):=some ((x0 != x0,()))
def a27.val (x0:Int):=(a27.raw fuel x0).getD (dfltA [.bool])
def a27.dom (x0:Int):=(a27.raw fuel x0).isSome
def a27.sg:Sig:=⟨[I6],[.bool],false,fun x=>a27.dom x.1,fun x=>a27.val x.1⟩
theorem a27.eq (m:Nat) (x0:Int):runS a27.E Go.Proofs.Tryz.f129 a27.sg (nL m) (x0,()) = a27.raw m x0:=by kernel_rfl
theorem a27.told(h:Base0):Told 129 a27.sg :=
 told_n h fn129 (l:=[]) trivial (fun x=>a27.eq fuel x.1)
abbrev L2.ls:List (Nat × Sig):=[(129,a27.sg)]
def L2.E:Env:=mkE L2.ls
def L2.raw (m:Nat) (x0:Int) (x1:Int):Option (Args [I6]):=bif x0 != x0 then (bif x1 != x1 then (some (((0:Int),()))) else (some (((-1:Int),())))) else (bif x1 != x1 then (some (((1:Int),()))) else (bif decide (x0 < x1) then (some (((-1:Int),()))) else (bif decide (x0 > x1) then (some (((1:Int),()))) else (some (((0:Int),()))))))
def L2.val (x0:Int) (x1:Int):=(L2.raw fuel x0 x1).getD (dfltA [I6])
def L2.dom (x0:Int) (x1:Int):=(L2.raw fuel x0 x1).isSome
def L2.sg:Sig:=⟨[I6,I6],[I6],false,fun x=>L2.dom x.1 x.2.1,fun x=>L2.val x.1 x.2.1⟩
theorem L2.eq (m:Nat) (x0:Int) (x1:Int):runS L2.E Go.Proofs.Tryz.f100 L2.sg (nL m) (x0,(x1,())) = L2.raw m x0 x1:=by kernel_rfl
theorem L2.told(h:Base0) (hs:AllT L2.ls):Told 100 L2.sg :=
 told_n h fn100 hs (fun x=>L2.eq fuel x.1 x.2.1)
abbrev V6.ls:List (Nat × Sig):=[(100,L2.sg)]
def V6.E:Env:=mkE V6.ls
def V6.raw (m:Nat) (x0:(Ty.den N9)) (x1:Int):Option (Args [I6]):=let y1:=L2.val x0.1 x1; bif L2.dom x0.1 x1 then (some y1) else none
def V6.val (x0:(Ty.den N9)) (x1:Int):=(V6.raw fuel x0 x1).getD (dfltA [I6])
def V6.dom (x0:(Ty.den N9)) (x1:Int):=(V6.raw fuel x0 x1).isSome
def V6.sg:Sig:=⟨[N9,I6],[I6],false,fun x=>V6.dom x.1 x.2.1,fun x=>V6.val x.1 x.2.1⟩
theorem V6.eq (m:Nat) (x0:(Ty.den N9)) (x1:Int):runS V6.E Go.Proofs.Tryz.f238 V6.sg (nL m) (x0,(x1,())) = V6.raw m x0 x1:=by kernel_rfl
theorem V6.told(h:Base0) (hs:AllT V6.ls):Told 238 V6.sg :=
 told_n h fn238 hs (fun x=>V6.eq fuel x.1 x.2.1)
end Pt
end
section
open Go Go.Am
open IntKind (i64 u64 u8 i32 u32)
namespace Pt
set_option maxRecDepth 100000
abbrev B0.ls:List (Nat × Sig):=[(238,V6.sg)]
def B0.E:Env:=⟨T,sigL B0.ls,inlL [],annL [(15003,⟨some [0,1,2,8,9,10],[],[],some [0,1,2,8,9]⟩)],[238],primL [],globL⟩
def B0.l0 (K0:(Ty.den (.slice N9)) → Int → (Ty.den .fn) → Int → Int → Option (Args [I6,.bool])):Nat → (Ty.den (.slice N9)) → Int → (Ty.den .fn) → Int → Int → Int → Option (Args [I6,.bool])
 | 0,_,_,_,_,_,_=>none
 | m + 1,v1,v2,v3,v4,v5,v6=>bif decide (v5 < v6) then (let z7:=i64.wrap ((u64.wrap (i64.wrap (v5 + v6))).fdiv (2:Int)); bif decide ((0:Int) ≤ z7) && decide (z7 < (↑(List.length v1):Int)) then (bif v3 == Option.some (238:Go.FuncId) then (let z8:=List.getD v1 z7.toNat N9.dflt; let y9:=V6.val z8 v2; bif V6.dom z8 v2 then (bif decide (y9.1 < (0:Int)) then (B0.l0 K0 m v1 v2 v3 v4 (i64.wrap (z7 + (1:Int))) v6) else (B0.l0 K0 m v1 v2 v3 v4 v5 z7)) else none) else (none)) else (none)) else (K0 v1 v2 v3 v4 v5)
def B0.l0.t:St:=⟨jka 38 [zv (.slice N9),zv I6,.one (.sc (.lf .fn none)),jk,jk,jk,jk,jk,zv I6,zv I6,zv I6],[],0⟩
def B0.l0.e0:St:=⟨jka 39 [zv (.slice N9),zv I6,.one (.sc (.lf .fn none)),jk,jk,jk,jk,jk,zv I6,zv I6],[],0⟩
def B0.raw (m:Nat) (x0:(Ty.den (.slice N9))) (x1:Int) (x2:(Ty.den .fn)):Option (Args [I6,.bool]):=B0.l0 (fun o10 o11 o12 o13 o14=>bif decide (o14 < o13) then (bif decide ((0:Int) ≤ o14) && decide (o14 < (↑(List.length o10):Int)) then (bif o12 == Option.some (238:Go.FuncId) then (let z15:=List.getD o10 (Int.toNat o14) N9.dflt; let y16:=V6.val z15 o11; bif V6.dom z15 o11 then (some ((o14,y16.1 == (0:Int),()))) else none) else (none)) else (none)) else (some ((o14,false,())))) m x0 x1 x2 ((↑(List.length x0):Int)) ((0:Int)) ((↑(List.length x0):Int))
def B0.val (x0:(Ty.den (.slice N9))) (x1:Int) (x2:(Ty.den .fn)):=(B0.raw fuel x0 x1 x2).getD (dfltA [I6,.bool])
def B0.dom (x0:(Ty.den (.slice N9))) (x1:Int) (x2:(Ty.den .fn)):=(B0.raw fuel x0 x1 x2).isSome
def B0.sg:Sig:=⟨[(.slice N9),I6,.fn],[I6,.bool],false,fun x=>B0.dom x.1 x.2.1 x.2.2.1,fun x=>B0.val x.1 x.2.1 x.2.2.1⟩
noncomputable def B0.q0 (m:Nat) (s:St) (k:X → St → Option (Args [I6,.bool])):Option (Args [I6,.bool]) :=
 match unSt B0.l0.t [(.slice N9),I6,.fn,I6,I6,I6] s with
  | some x=>B0.l0 (fun o0 o1 o2 o3 o4=>k (.exit 0) (mkSt B0.l0.e0 [(.slice N9),I6,.fn,I6,I6] (o0,(o1,(o2,(o3,(o4,()))))))) m x.1 x.2.1 x.2.2.1 x.2.2.2.1 x.2.2.2.2.1 x.2.2.2.2.2.1
  | none=>none
noncomputable def B0.L (m:Nat) (c:Code) (s:St) (k:X → St → Option (Args [I6,.bool])):Option (Args [I6,.bool]) :=
 match O9 c with
 | some r=>bif Nat.beq r 15003 then (B0.q0 m s k) else none
 | none=>none
theorem B0.cs_eq:loopsL Go.Proofs.Tryz.f237 [] = [(loopsL Go.Proofs.Tryz.f237 []).getD 0 .skip]:=by kernel_rfl
theorem B0.good:Good (B0.E) (fun c=>c ∈ loopsL Go.Proofs.Tryz.f237 []) B0.L:=by
 have cases:∀ c,c ∈ loopsL Go.Proofs.Tryz.f237 [] → c = (loopsL Go.Proofs.Tryz.f237 []).getD 0 .skip:=by
  intro c hc; rw [B0.cs_eq] at hc; simpa only [List.mem_cons,List.not_mem_nil,or_false] using hc
 refine ⟨?_,?_,fun c hc=>T4 c hc⟩
 ·intro c s k r hc h
  rcases cases c hc with rfl
  ·have h':B0.q0 0 s k = some r:=Eq.trans (by kernel_rfl) h
   unfold B0.q0 at h'
   split at h'
   ·rename_i x hx
    have h2:(none:Option (Args [I6,.bool])) = some r:=Eq.trans (by kernel_rfl) h'
    cases h2
   cases h'
 ·intro m c s k r hc h
  rcases cases c hc with rfl
  ·have h':B0.q0 (m + 1) s k = some r:=Eq.trans (by kernel_rfl) h
   unfold B0.q0 at h'
   split at h'
   ·rename_i x hx
    rw [O8 hx]
    exact Eq.trans (by kernel_rfl) h'
   cases h'
theorem B0.eq (m:Nat) (x0:(Ty.den (.slice N9))) (x1:Int) (x2:(Ty.den .fn)):runS B0.E Go.Proofs.Tryz.f237 B0.sg (B0.L m) (x0,(x1,(x2,()))) = B0.raw m x0 x1 x2:=by kernel_rfl
theorem B0.told (h:Base0) (hs:AllT B0.ls):Told 237 B0.sg :=
 T5 h fn237 (il:=[]) (pl:=[]) hs trivial trivial (L:=B0.L) B0.good (fun x=>B0.eq fuel x.1 x.2.1 x.2.2.1)
abbrev Y6.ls:List (Nat × Sig):=[(237,B0.sg),(238,V6.sg)]
def Y6.E:Env:=⟨T,sigL Y6.ls,inlL [],annL [],[238],primL [],globL⟩
def Y6.raw (m:Nat) (x0:(Ty.den (.slice N9))) (x1:Int):Option (Args [N9,.bool]):=let y1:=B0.val x0 x1 (Option.some (238:Nat)); bif B0.dom x0 x1 (Option.some (238:Nat)) then (bif !y1.2.1 then (bif decide (i64.wrap (y1.1 - (1:Int)) < (0:Int)) then (some ((((0:Int),(0:Int),(0:Int),()),false,()))) else (bif decide ((0:Int) ≤ i64.wrap (y1.1 - (1:Int))) && decide (i64.wrap (y1.1 - (1:Int)) < (↑(List.length x0):Int)) then (bif decide (x1 > (List.getD x0 (i64.wrap (y1.1 - (1:Int))).toNat N9.dflt).2.1) then (some ((((0:Int),(0:Int),(0:Int),()),false,()))) else (bif decide ((0:Int) ≤ i64.wrap (y1.1 - (1:Int))) && decide (i64.wrap (y1.1 - (1:Int)) < (↑(List.length x0):Int)) then (some ((List.getD x0 (i64.wrap (y1.1 - (1:Int))).toNat N9.dflt,true,()))) else (none))) else (none))) else (bif decide (y1.1 < (0:Int)) then (some ((((0:Int),(0:Int),(0:Int),()),false,()))) else (bif decide ((0:Int) ≤ y1.1) && decide (y1.1 < (↑(List.length x0):Int)) then (bif decide (x1 > (List.getD x0 (Int.toNat y1.1) N9.dflt).2.1) then (some ((((0:Int),(0:Int),(0:Int),()),false,()))) else (bif decide ((0:Int) ≤ y1.1) && decide (y1.1 < (↑(List.length x0):Int)) then (some ((List.getD x0 (Int.toNat y1.1) N9.dflt,true,()))) else (none))) else (none)))) else none
def Y6.val (x0:(Ty.den (.slice N9))) (x1:Int):=(Y6.raw fuel x0 x1).getD (dfltA [N9,.bool])
def Y6.dom (x0:(Ty.den (.slice N9))) (x1:Int):=(Y6.raw fuel x0 x1).isSome
def Y6.sg:Sig:=⟨[(.slice N9),I6],[N9,.bool],false,fun x=>Y6.dom x.1 x.2.1,fun x=>Y6.val x.1 x.2.1⟩
theorem Y6.eq (m:Nat) (x0:(Ty.den (.slice N9))) (x1:Int):runS Y6.E Go.Proofs.Tryz.f213 Y6.sg (nL m) (x0,(x1,())) = Y6.raw m x0 x1:=by kernel_rfl
theorem Y6.told (h:Base0) (hs:AllT Y6.ls):Told 213 Y6.sg :=
 T5 h fn213 (il:=[]) (pl:=[]) hs trivial trivial (L:=(fun _ _ _ _=>none)) a14 (fun x=>Y6.eq fuel x.1 x.2.1)
end Pt
end
section
open Go Go.Am
namespace Pt
set_option maxRecDepth 100000
def a48.E:Env:=mkE []
def a48.raw (m:Nat) :Option (Args [(.slice N9)]):=let z1:=[((65279:Int),(65279:Int),(0:Int),()),((65440:Int),(65440:Int),(0:Int),()),((65520:Int),(65528:Int),(0:Int),()),((917504:Int),(921599:Int),(0:Int),())]; let z2:=((8234:Int),(8238:Int),(0:Int),()) :: ((8288:Int),(8303:Int),(0:Int),()) :: ((12644:Int),(12644:Int),(0:Int),()) :: ((65024:Int),(65039:Int),(0:Int),()) :: z1; let z3:=((4447:Int),(4448:Int),(0:Int),()) :: ((6068:Int),(6069:Int),(0:Int),()) :: ((6155:Int),(6159:Int),(0:Int),()) :: ((8203:Int),(8207:Int),(0:Int),()) :: z2; some ((((173:Int),(173:Int),(0:Int),()) :: ((847:Int),(847:Int),(0:Int),()) :: ((1564:Int),(1564:Int),(0:Int),()) :: z3,()))
def a48.val :=(a48.raw fuel ).getD (dfltA [(.slice N9)])
def a48.dom :=(a48.raw fuel ).isSome
def a48.sg:Sig:=⟨[],[(.slice N9)],false,fun x=>a48.dom ,fun x=>a48.val ⟩
theorem a48.eq (m:Nat) :runS a48.E Go.Proofs.Tryz.f219 a48.sg (nL m) () = a48.raw m :=by kernel_rfl
theorem a48.told(h:Base0):Told 219 a48.sg :=
 told_n h fn219 (l:=[]) trivial (fun x=>a48.eq fuel )
abbrev R5.ls:List (Nat × Sig):=[(213,Y6.sg),(219,a48.sg)]
def R5.E:Env:=mkE R5.ls
def R5.raw (m:Nat) (x0:Int):Option (Args [.bool]):=let z1:=[((65279:Int),(65279:Int),(0:Int),()),((65440:Int),(65440:Int),(0:Int),()),((65520:Int),(65528:Int),(0:Int),()),((917504:Int),(921599:Int),(0:Int),())]; let z2:=((8234:Int),(8238:Int),(0:Int),()) :: ((8288:Int),(8303:Int),(0:Int),()) :: ((12644:Int),(12644:Int),(0:Int),()) :: ((65024:Int),(65039:Int),(0:Int),()) :: z1; let z3:=((4447:Int),(4448:Int),(0:Int),()) :: ((6068:Int),(6069:Int),(0:Int),()) :: ((6155:Int),(6159:Int),(0:Int),()) :: ((8203:Int),(8207:Int),(0:Int),()) :: z2; let z4:=((173:Int),(173:Int),(0:Int),()) :: ((847:Int),(847:Int),(0:Int),()) :: ((1564:Int),(1564:Int),(0:Int),()) :: z3; let y5:=Y6.val z4 x0; bif Y6.dom z4 x0 then (some y5.2) else none
def R5.val (x0:Int):=(R5.raw fuel x0).getD (dfltA [.bool])
def R5.dom (x0:Int):=(R5.raw fuel x0).isSome
def R5.sg:Sig:=⟨[I6],[.bool],false,fun x=>R5.dom x.1,fun x=>R5.val x.1⟩
theorem R5.eq (m:Nat) (x0:Int):runS R5.E Go.Proofs.Tryz.f189 R5.sg (nL m) (x0,()) = R5.raw m x0:=by kernel_rfl
theorem R5.told(h:Base0) (hs:AllT R5.ls):Told 189 R5.sg :=
 told_n h fn189 hs (fun x=>R5.eq fuel x.1)
end Pt
end
section
open Go Go.Am
namespace Pt
def insA (e:Ty) (H:List Blk):List AV → TE
 | [.one (.sc (.own id ver)),.one (.sc (.lf (.int .i64) i)),.one (.sc (.own id2 ver2))] =>
  match H[id]? with
  | some (.row e2 true vr l)=>if vr = ver ∧ ¬ (id = id2) then
    match cast? (.slice e2) (.slice e) l,fz H (.slice e) (.own id2 ver2) with
    | some l,some m =>
     let l':List e.den:=l
     let m':List e.den:=m
     .when (decide (0 ≤ (show Int from i)) && decide ((show Int from i) ≤ l'.length) && decide (0 < m'.length) && decide ((l'.length + m'.length) * e.width * 8 ≤ 70368744177664) && decide (l'.length + m'.length ≤ 1099511627776))
      (.ret ⟨.sc (.own id (ver + 1)),shown H [id2] ++ [(id,.row e true (vr + 1) (l'.take (show Int from i).toNat ++ m' ++ l'.drop (show Int from i).toNat))]⟩)
    | _,_=>.fail
   else .fail
  | _=>.fail
 | _=>.fail
theorem insA_loc (e:Ty) (H H':List Blk) (av:List AV) (h:∀ id ∈ av.flatMap AV.ids,H[id]? = H'[id]?):insA e H av = insA e H' av:=by
 unfold insA
 split
 ·rename_i id ver i id2 ver2
  have h1:H[id]? = H'[id]?:=h id (by simp [AV.ids,A1.ids,Sc.ids])
  have h2:Agree [id2] H H':=fun j hj=>h j (by
   have:=List.mem_singleton.1 hj
   simp [AV.ids,A1.ids,Sc.ids,this])
  have h3:Agree (Sc.own id2 ver2).rows H H':=h2
  rw [h1]
  simp only [fun t=>w24 t (.own id2 ver2) h3,a92 [id2] h2]
 ·rfl
def primIns (e:Ty):Prim:=⟨fun H _ av=>insA e H av,fun H H' _ av h=>insA_loc e H H' av h⟩
def B01:Prim:=primIns (.int .i64)
def primInsEntry:Prim:=primIns a52
def delA (H:List Blk):List AV → TE
 | [.one (.sc (.own id ver)),.one (.sc (.lf .fn (some f)))] =>
  match H[id]? with
  | some (.row e2 true vr l)=>if vr = ver ∧ f = B21 then
    match cast? (.slice e2) (.slice (.int .i64)) l with
    | some l =>
     let l':List Int:=l
     .when (l'.all fun x=>R5.dom x)
      (.ret ⟨.sc (.own id (ver + 1)),[(id,.row (.int .i64) true (vr + 1) (show List Int from l'.filter fun x=>!(R5.val x).1))]⟩)
    | none=>.fail
   else .fail
  | _=>.fail
 | _=>.fail
theorem delA_loc (H H':List Blk) (av:List AV) (h:∀ id ∈ av.flatMap AV.ids,H[id]? = H'[id]?):delA H av = delA H' av:=by
 unfold delA
 split
 ·rename_i id ver f
  have h1:H[id]? = H'[id]?:=h id (by simp [AV.ids,A1.ids,Sc.ids])
  rw [h1]
 ·rfl
def B05:Prim:=⟨fun H _ av=>delA H av,fun H H' _ av h=>delA_loc H H' av h⟩
def growA (nid:Nat):List AV → TE
 | [.one (.sc .nilS),.one (.sc (.lf (.int .i64) n))] =>
  .when (decide (0 ≤ (show Int from n)) && decide ((show Int from n) ≤ 1073741824)) (.ret ⟨.sc (.own nid 0),[(nid,.row (.int .u8) true 0 [])]⟩)
 | _=>.fail
def B60:Prim:=⟨fun _ nid av=>growA nid av,fun _ _ _ _ _=>rfl⟩
end Pt
end
section
open Go Go.Am
open IntKind (i64 u64 u8 i32 u32)
namespace Pt
set_option maxRecDepth 100000
def B2.E:Env:=⟨T,sigL [],inlL [],annL [(12003,⟨some [0,3,9,10,11],[],[],some [0,3]⟩),(28011,⟨some [6,25,26,27],[],[],some [6]⟩)],[],primL [(93,B60)],globL⟩
def B2.l1 (K0:(Ty.den SB) → Option (Args [SB])):Nat → (Ty.den (.slice SB)) → Int → Int → (Ty.den SB) → Option (Args [SB])
 | 0,_,_,_,_=>none
 | m + 1,v8,v9,v10,v11=>bif decide (v10 < v9) then (bif decide ((0:Int) ≤ v10) && decide (v10 < (↑(List.length v8):Int)) then (let z12:=List.length v11 + List.length (List.getD v8 (Int.toNat v10) (Ty.int u8).slice.dflt); bif decide (z12 * (1:Nat) ≤ (140737488355328:Nat)) && decide (z12 ≤ lim) then (B2.l1 K0 m v8 v9 (i64.wrap (v10 + (1:Int))) (v11 ++ List.getD v8 (Int.toNat v10) (Ty.int u8).slice.dflt)) else (none)) else (none)) else (K0 v11)
def B2.l1.t:St:=⟨jka 8 [jk,jk,jk,jk,jk,jk,.one (.sc (.own 0 0)),jk,jk,jk,jk,jk,jk,jk,jk,jk,jk,jk,jk,jk,jk,jk,jk,jk,jk,.one (.sc (.lf (.slice SB) (Ty.dflt (.slice SB)))),zv I6,zv I6],[.row (.int .u8) true 0 []],0⟩
def B2.l1.e0:St:=⟨jka 29 [jk,jk,jk,jk,jk,jk,.one (.sc (.own 0 0))],[.row (.int .u8) true 0 []],0⟩
def B2.l0 (K0:(Ty.den (.slice SB)) → Int → Option (Args [SB])):Nat → (Ty.den (.slice SB)) → Int → (Ty.den (.slice SB)) → Int → Int → Option (Args [SB])
 | 0,_,_,_,_,_=>none
 | m + 1,v1,v2,v3,v4,v5=>bif decide (v5 < v4) then (bif decide ((0:Int) ≤ v5) && decide (v5 < (↑(List.length v3):Int)) then (bif decide (i64.wrap (v2 + (↑(List.length (List.getD v3 (Int.toNat v5) (Ty.int u8).slice.dflt)):Int)) < (0:Int)) then (none) else (B2.l0 K0 m v1 (i64.wrap (v2 + (↑(List.length (List.getD v3 (Int.toNat v5) (Ty.int u8).slice.dflt)):Int))) v3 v4 (i64.wrap (v5 + (1:Int))))) else (none)) else (K0 v1 v2)
def B2.l0.t:St:=⟨jka 24 [.one (.sc (.lf (.slice SB) (Ty.dflt (.slice SB)))),jk,jk,zv I6,jk,jk,jk,jk,jk,.one (.sc (.lf (.slice SB) (Ty.dflt (.slice SB)))),zv I6,zv I6],[],0⟩
def B2.l0.e0:St:=⟨jka 32 [.one (.sc (.lf (.slice SB) (Ty.dflt (.slice SB)))),jk,jk,zv I6],[],0⟩
def B2.raw (m:Nat) (x0:(Ty.den (.slice SB))):Option (Args [SB]):=B2.l0 (fun o6 o7=>bif decide ((0:Int) ≤ o7) && decide (o7 ≤ (1073741824:Int)) then (B2.l1 (fun o13=>some ((o13,()))) m o6 ((↑(List.length o6):Int)) ((0:Int)) (nl Int)) else (none)) m x0 ((0:Int)) x0 ((↑(List.length x0):Int)) ((0:Int))
def B2.val (x0:(Ty.den (.slice SB))):=(B2.raw fuel x0).getD (dfltA [SB])
def B2.dom (x0:(Ty.den (.slice SB))):=(B2.raw fuel x0).isSome
def B2.sg:Sig:=⟨[(.slice SB)],[SB],false,fun x=>B2.dom x.1,fun x=>B2.val x.1⟩
noncomputable def B2.q0 (m:Nat) (s:St) (k:X → St → Option (Args [SB])):Option (Args [SB]) :=
 match unSt B2.l0.t [(.slice SB),I6,(.slice SB),I6,I6] s with
  | some x=>B2.l0 (fun o0 o1=>k (.exit 0) (mkSt B2.l0.e0 [(.slice SB),I6] (o0,(o1,())))) m x.1 x.2.1 x.2.2.1 x.2.2.2.1 x.2.2.2.2.1
  | none=>none
noncomputable def B2.q1 (m:Nat) (s:St) (k:X → St → Option (Args [SB])):Option (Args [SB]) :=
 match unSt B2.l1.t [(.slice SB),I6,I6,SB] s with
  | some x=>B2.l1 (fun o0=>k (.exit 2) (mkSt B2.l1.e0 [SB] (o0,()))) m x.1 x.2.1 x.2.2.1 x.2.2.2.1
  | none=>none
noncomputable def B2.L (m:Nat) (c:Code) (s:St) (k:X → St → Option (Args [SB])):Option (Args [SB]) :=
 match O9 c with
 | some r=>bif Nat.beq r 12003 then (B2.q0 m s k) else bif Nat.beq r 28011 then (B2.q1 m s k) else none
 | none=>none
theorem B2.cs_eq:loopsL Go.Proofs.Tryz.f68 [] = [(loopsL Go.Proofs.Tryz.f68 []).getD 0 .skip,(loopsL Go.Proofs.Tryz.f68 []).getD 1 .skip]:=by kernel_rfl
theorem B2.good:Good (B2.E) (fun c=>c ∈ loopsL Go.Proofs.Tryz.f68 []) B2.L:=by
 have cases:∀ c,c ∈ loopsL Go.Proofs.Tryz.f68 [] → c = (loopsL Go.Proofs.Tryz.f68 []).getD 0 .skip ∨ c = (loopsL Go.Proofs.Tryz.f68 []).getD 1 .skip:=by
  intro c hc; rw [B2.cs_eq] at hc; simpa only [List.mem_cons,List.not_mem_nil,or_false] using hc
 refine ⟨?_,?_,fun c hc=>T4 c hc⟩
 ·intro c s k r hc h
  rcases cases c hc with rfl | rfl
  ·have h':B2.q0 0 s k = some r:=Eq.trans (by kernel_rfl) h
   unfold B2.q0 at h'
   split at h'
   ·rename_i x hx
    have h2:(none:Option (Args [SB])) = some r:=Eq.trans (by kernel_rfl) h'
    cases h2
   cases h'
  ·have h':B2.q1 0 s k = some r:=Eq.trans (by kernel_rfl) h
   unfold B2.q1 at h'
   split at h'
   ·rename_i x hx
    have h2:(none:Option (Args [SB])) = some r:=Eq.trans (by kernel_rfl) h'
    cases h2
   cases h'
 ·intro m c s k r hc h
  rcases cases c hc with rfl | rfl
  ·have h':B2.q0 (m + 1) s k = some r:=Eq.trans (by kernel_rfl) h
   unfold B2.q0 at h'
   split at h'
   ·rename_i x hx
    rw [O8 hx]
    exact Eq.trans (by kernel_rfl) h'
   cases h'
  ·have h':B2.q1 (m + 1) s k = some r:=Eq.trans (by kernel_rfl) h
   unfold B2.q1 at h'
   split at h'
   ·rename_i x hx
    rw [O8 hx]
    exact Eq.trans (by kernel_rfl) h'
   cases h'
theorem B2.eq (m:Nat) (x0:(Ty.den (.slice SB))):runS B2.E Go.Proofs.Tryz.f68 B2.sg (B2.L m) (x0,()) = B2.raw m x0:=by kernel_rfl
theorem B2.told (h:Base0) (hp:AllP [(93,B60)]):Told 68 B2.sg :=
 T5 h fn68 (l:=[]) (il:=[]) (pl:=[(93,B60)]) trivial trivial hp (L:=B2.L) B2.good (fun x=>B2.eq fuel x.1)
end Pt
end
section
open Go Go.Am
namespace Pt
set_option maxRecDepth 100000
def a13.E:Env:=mkE []
def a13.raw (m:Nat) (x0:(Ty.den D7)):Option (Args [.bool]):=bif decide ((↑(List.length x0.1):Int) ≤ (4096:Int)) then (bif decide (x0.2.2.1 ≥ (0:Int)) then (some ((decide (x0.2.2.1 ≤ (4096:Int)),()))) else (some ((false,())))) else (some ((false,())))
def a13.val (x0:(Ty.den D7)):=(a13.raw fuel x0).getD (dfltA [.bool])
def a13.dom (x0:(Ty.den D7)):=(a13.raw fuel x0).isSome
def a13.sg:Sig:=⟨[D7],[.bool],false,fun x=>a13.dom x.1,fun x=>a13.val x.1⟩
theorem a13.eq (m:Nat) (x0:(Ty.den D7)):runS a13.E Go.Proofs.Tryz.f107 a13.sg (nL m) (x0,()) = a13.raw m x0:=by kernel_rfl
theorem a13.told(h:Base0):Told 107 a13.sg :=
 told_n h fn107 (l:=[]) trivial (fun x=>a13.eq fuel x.1)
end Pt
end
section
open Go Go.Am
open IntKind (i64 u64 u8 i32 u32)
namespace Pt
set_option maxRecDepth 100000
abbrev N7.ls:List (Nat × Sig):=[(107,a13.sg)]
def N7.E:Env:=mkE N7.ls
def N7.raw (m:Nat) (x0:(Ty.den D7)):Option (Args [D7]):=let y1:=a13.val x0; bif a13.dom x0 then (bif !y1.1 then (some (((nl (Ty.int u8).den,false,(0:Int),nl (Ty.int u8).den,()),()))) else (some ((x0,())))) else none
def N7.val (x0:(Ty.den D7)):=(N7.raw fuel x0).getD (dfltA [D7])
def N7.dom (x0:(Ty.den D7)):=(N7.raw fuel x0).isSome
def N7.sg:Sig:=⟨[D7],[D7],false,fun x=>N7.dom x.1,fun x=>N7.val x.1⟩
theorem N7.eq (m:Nat) (x0:(Ty.den D7)):runS N7.E Go.Proofs.Tryz.f86 N7.sg (nL m) (x0,()) = N7.raw m x0:=by kernel_rfl
theorem N7.told(h:Base0) (hs:AllT N7.ls):Told 86 N7.sg :=
 told_n h fn86 hs (fun x=>N7.eq fuel x.1)
abbrev V3.ls:List (Nat × Sig):=[(68,B2.sg),(86,N7.sg)]
def V3.E:Env:=mkE V3.ls
def V3.raw (m:Nat) (x0:(Ty.den D7)) (x1:(Ty.den SB)):Option (Args [D7,I6]):=let y1:=N7.val x0; bif N7.dom x0 then (bif y1.1.2.1 then (some ((y1.1,(2:Int),()))) else (bif decide ((↑(List.length x1):Int) > i64.wrap ((4096:Int) - (↑(List.length y1.1.1):Int))) then (some ((y1.1,(3:Int),()))) else (let y2:=B2.val ([y1.1.1,x1]); bif B2.dom ([y1.1.1,x1]) then (some (((y2.1,y1.1.2),(0:Int),()))) else none))) else none
def V3.val (x0:(Ty.den D7)) (x1:(Ty.den SB)):=(V3.raw fuel x0 x1).getD (dfltA [D7,I6])
def V3.dom (x0:(Ty.den D7)) (x1:(Ty.den SB)):=(V3.raw fuel x0 x1).isSome
def V3.sg:Sig:=⟨[D7,SB],[D7,I6],false,fun x=>V3.dom x.1 x.2.1,fun x=>V3.val x.1 x.2.1⟩
theorem V3.eq (m:Nat) (x0:(Ty.den D7)) (x1:(Ty.den SB)):runS V3.E Go.Proofs.Tryz.f57 V3.sg (nL m) (x0,(x1,())) = V3.raw m x0 x1:=by kernel_rfl
theorem V3.told(h:Base0) (hs:AllT V3.ls):Told 57 V3.sg :=
 told_n h fn57 hs (fun x=>V3.eq fuel x.1 x.2.1)
end Pt
end
section
open Go Go.Am
namespace Pt
set_option maxRecDepth 100000
abbrev S2.ls:List (Nat × Sig):=[(56,M8.sg),(57,V3.sg)]
def S2.E:Env:=mkE S2.ls
def S2.raw (m:Nat) (x0:(Ty.den a7)) (x1:(Ty.den SB)):Option (Args [a7,I6]):=let y1:=M8.val x0; bif M8.dom x0 then (let y2:=V3.val y1.1.2.2.1 x1; bif V3.dom y1.1.2.2.1 x1 then (some (((y1.1.1,y1.1.2.1,y2.1,y1.1.2.2.2),y2.2))) else none) else none
def S2.val (x0:(Ty.den a7)) (x1:(Ty.den SB)):=(S2.raw fuel x0 x1).getD (dfltA [a7,I6])
def S2.dom (x0:(Ty.den a7)) (x1:(Ty.den SB)):=(S2.raw fuel x0 x1).isSome
def S2.sg:Sig:=⟨[a7,SB],[a7,I6],false,fun x=>S2.dom x.1 x.2.1,fun x=>S2.val x.1 x.2.1⟩
theorem S2.eq (m:Nat) (x0:(Ty.den a7)) (x1:(Ty.den SB)):runS S2.E Go.Proofs.Tryz.f16 S2.sg (nL m) (x0,(x1,())) = S2.raw m x0 x1:=by kernel_rfl
theorem S2.told(h:Base0) (hs:AllT S2.ls):Told 16 S2.sg :=
 told_n h fn16 hs (fun x=>S2.eq fuel x.1 x.2.1)
abbrev D3.ls:List (Nat × Sig):=[(58,O7.sg)]
def D3.E:Env:=mkE D3.ls
def D3.raw (m:Nat) (x0:(Ty.den B1)):Option (Args [B1]):=bif !x0.1 then (let y1:=O7.val; bif O7.dom then (some y1) else none) else (some ((x0,())))
def D3.val (x0:(Ty.den B1)):=(D3.raw fuel x0).getD (dfltA [B1])
def D3.dom (x0:(Ty.den B1)):=(D3.raw fuel x0).isSome
def D3.sg:Sig:=⟨[B1],[B1],false,fun x=>D3.dom x.1,fun x=>D3.val x.1⟩
theorem D3.eq (m:Nat) (x0:(Ty.den B1)):runS D3.E Go.Proofs.Tryz.f156 D3.sg (nL m) (x0,()) = D3.raw m x0:=by kernel_rfl
theorem D3.told(h:Base0) (hs:AllT D3.ls):Told 156 D3.sg :=
 told_n h fn156 hs (fun x=>D3.eq fuel x.1)
def X2.E:Env:=mkE []
def X2.raw (m:Nat) (x0:(Ty.den SI)):Option (Args [.bool]):=bif decide ((↑(List.length x0):Int) > (0:Int)) then (some ((decide ((↑(List.length x0):Int) ≤ (8:Int)),()))) else (some ((false,())))
def X2.val (x0:(Ty.den SI)):=(X2.raw fuel x0).getD (dfltA [.bool])
def X2.dom (x0:(Ty.den SI)):=(X2.raw fuel x0).isSome
def X2.sg:Sig:=⟨[SI],[.bool],false,fun x=>X2.dom x.1,fun x=>X2.val x.1⟩
theorem X2.eq (m:Nat) (x0:(Ty.den SI)):runS X2.E Go.Proofs.Tryz.f164 X2.sg (nL m) (x0,()) = X2.raw m x0:=by kernel_rfl
theorem X2.told(h:Base0):Told 164 X2.sg :=
 told_n h fn164 (l:=[]) trivial (fun x=>X2.eq fuel x.1)
abbrev S6.ls:List (Nat × Sig):=[(164,X2.sg)]
def S6.E:Env:=mkE S6.ls
def S6.raw (m:Nat) (x0:(Ty.den SI)):Option (Args [.bool]):=let y1:=X2.val x0; bif X2.dom x0 then (some ((!y1.1,()))) else none
def S6.val (x0:(Ty.den SI)):=(S6.raw fuel x0).getD (dfltA [.bool])
def S6.dom (x0:(Ty.den SI)):=(S6.raw fuel x0).isSome
def S6.sg:Sig:=⟨[SI],[.bool],false,fun x=>S6.dom x.1,fun x=>S6.val x.1⟩
theorem S6.eq (m:Nat) (x0:(Ty.den SI)):runS S6.E Go.Proofs.Tryz.f163 S6.sg (nL m) (x0,()) = S6.raw m x0:=by kernel_rfl
theorem S6.told(h:Base0) (hs:AllT S6.ls):Told 163 S6.sg :=
 told_n h fn163 hs (fun x=>S6.eq fuel x.1)
end Pt
end
section
open Go Go.Am
open IntKind (i64 u64 u8 i32 u32)
namespace Pt
set_option maxRecDepth 100000
abbrev B5.ls:List (Nat × Sig):=[(163,S6.sg)]
def B5.E:Env:=⟨T,sigL B5.ls,inlL [],annL [(9002,⟨some [0,1,7,8],[],[],some [4]⟩)],[163],primL [],globL⟩
def B5.l0 (K0:Int → Option (Args [I6])) (K1:Option (Args [I6])):Nat → (Ty.den (.slice SI)) → (Ty.den .fn) → Int → Int → Option (Args [I6])
 | 0,_,_,_,_=>none
 | m + 1,v1,v2,v3,v4=>bif decide (v4 < v3) then (bif decide ((0:Int) ≤ v4) && decide (v4 < (↑(List.length v1):Int)) then (bif v2 == Option.some (163:Go.FuncId) then (let z5:=List.getD v1 (Int.toNat v4) (Ty.int i64).slice.dflt; let y6:=S6.val z5; bif S6.dom z5 then (bif y6.1 then (K0 v4) else (B5.l0 K0 K1 m v1 v2 v3 (i64.wrap (v4 + (1:Int))))) else none) else (none)) else (none)) else (K1)
def B5.l0.t:St:=⟨jka 10 [.one (.sc (.lf (.slice SI) (Ty.dflt (.slice SI)))),.one (.sc (.lf .fn none)),jk,jk,jk,jk,jk,zv I6,zv I6],[],0⟩
def B5.l0.e0:St:=⟨jka 14 [jk,jk,jk,jk,zv I6],[],0⟩
def B5.l0.e1:St:=⟨jka 18 [jk],[],0⟩
def B5.raw (m:Nat) (x0:(Ty.den (.slice SI))) (x1:(Ty.den .fn)):Option (Args [I6]):=B5.l0 (fun o7=>some ((o7,()))) (some (((-1:Int),()))) m x0 x1 ((↑(List.length x0):Int)) ((0:Int))
def B5.val (x0:(Ty.den (.slice SI))) (x1:(Ty.den .fn)):=(B5.raw fuel x0 x1).getD (dfltA [I6])
def B5.dom (x0:(Ty.den (.slice SI))) (x1:(Ty.den .fn)):=(B5.raw fuel x0 x1).isSome
def B5.sg:Sig:=⟨[(.slice SI),.fn],[I6],false,fun x=>B5.dom x.1 x.2.1,fun x=>B5.val x.1 x.2.1⟩
noncomputable def B5.q0 (m:Nat) (s:St) (k:X → St → Option (Args [I6])):Option (Args [I6]) :=
 match unSt B5.l0.t [(.slice SI),.fn,I6,I6] s with
  | some x=>B5.l0 (fun o0=>k .ret (mkSt B5.l0.e0 [I6] (o0,()))) (k (.exit 0) (mkSt B5.l0.e1 [] ())) m x.1 x.2.1 x.2.2.1 x.2.2.2.1
  | none=>none
noncomputable def B5.L (m:Nat) (c:Code) (s:St) (k:X → St → Option (Args [I6])):Option (Args [I6]) :=
 match O9 c with
 | some r=>bif Nat.beq r 9002 then (B5.q0 m s k) else none
 | none=>none
theorem B5.cs_eq:loopsL Go.Proofs.Tryz.f183 [] = [(loopsL Go.Proofs.Tryz.f183 []).getD 0 .skip]:=by kernel_rfl
theorem B5.good:Good (B5.E) (fun c=>c ∈ loopsL Go.Proofs.Tryz.f183 []) B5.L:=by
 have cases:∀ c,c ∈ loopsL Go.Proofs.Tryz.f183 [] → c = (loopsL Go.Proofs.Tryz.f183 []).getD 0 .skip:=by
  intro c hc; rw [B5.cs_eq] at hc; simpa only [List.mem_cons,List.not_mem_nil,or_false] using hc
 refine ⟨?_,?_,fun c hc=>T4 c hc⟩
 ·intro c s k r hc h
  rcases cases c hc with rfl
  ·have h':B5.q0 0 s k = some r:=Eq.trans (by kernel_rfl) h
   unfold B5.q0 at h'
   split at h'
   ·rename_i x hx
    have h2:(none:Option (Args [I6])) = some r:=Eq.trans (by kernel_rfl) h'
    cases h2
   cases h'
 ·intro m c s k r hc h
  rcases cases c hc with rfl
  ·have h':B5.q0 (m + 1) s k = some r:=Eq.trans (by kernel_rfl) h
   unfold B5.q0 at h'
   split at h'
   ·rename_i x hx
    rw [O8 hx]
    exact Eq.trans (by kernel_rfl) h'
   cases h'
theorem B5.eq (m:Nat) (x0:(Ty.den (.slice SI))) (x1:(Ty.den .fn)):runS B5.E Go.Proofs.Tryz.f183 B5.sg (B5.L m) (x0,(x1,())) = B5.raw m x0 x1:=by kernel_rfl
theorem B5.told (h:Base0) (hs:AllT B5.ls):Told 183 B5.sg :=
 T5 h fn183 (il:=[]) (pl:=[]) hs trivial trivial (L:=B5.L) B5.good (fun x=>B5.eq fuel x.1 x.2.1)
end Pt
end
section
open Go Go.Am
namespace Pt
set_option maxRecDepth 100000
abbrev E1.ls:List (Nat × Sig):=[(183,B5.sg),(163,S6.sg)]
def E1.E:Env:=⟨T,sigL E1.ls,inlL [],annL [],[163],primL [],globL⟩
def E1.raw (m:Nat) (x0:(Ty.den (.slice SI))) (x1:(Ty.den .fn)):Option (Args [.bool]):=let y1:=B5.val x0 x1; bif B5.dom x0 x1 then (some ((decide (y1.1 ≥ (0:Int)),()))) else none
def E1.val (x0:(Ty.den (.slice SI))) (x1:(Ty.den .fn)):=(E1.raw fuel x0 x1).getD (dfltA [.bool])
def E1.dom (x0:(Ty.den (.slice SI))) (x1:(Ty.den .fn)):=(E1.raw fuel x0 x1).isSome
def E1.sg:Sig:=⟨[(.slice SI),.fn],[.bool],false,fun x=>E1.dom x.1 x.2.1,fun x=>E1.val x.1 x.2.1⟩
theorem E1.eq (m:Nat) (x0:(Ty.den (.slice SI))) (x1:(Ty.den .fn)):runS E1.E Go.Proofs.Tryz.f162 E1.sg (nL m) (x0,(x1,())) = E1.raw m x0 x1:=by kernel_rfl
theorem E1.told (h:Base0) (hs:AllT E1.ls):Told 162 E1.sg :=
 T5 h fn162 (il:=[]) (pl:=[]) hs trivial trivial (L:=(fun _ _ _ _=>none)) a14 (fun x=>E1.eq fuel x.1 x.2.1)
abbrev U4.ls:List (Nat × Sig):=[(162,E1.sg),(163,S6.sg)]
def U4.E:Env:=⟨T,sigL U4.ls,inlL [],annL [],[163],primL [],globL⟩
def U4.raw (m:Nat) (x0:(Ty.den B8)):Option (Args [.bool]):=bif decide ((↑(List.length x0.1):Int) ≤ (2:Int)) then (let y1:=E1.val x0.1 (Option.some (163:Nat)); bif E1.dom x0.1 (Option.some (163:Nat)) then (some ((!y1.1,()))) else none) else (some ((false,())))
def U4.val (x0:(Ty.den B8)):=(U4.raw fuel x0).getD (dfltA [.bool])
def U4.dom (x0:(Ty.den B8)):=(U4.raw fuel x0).isSome
def U4.sg:Sig:=⟨[B8],[.bool],false,fun x=>U4.dom x.1,fun x=>U4.val x.1⟩
theorem U4.eq (m:Nat) (x0:(Ty.den B8)):runS U4.E Go.Proofs.Tryz.f144 U4.sg (nL m) (x0,()) = U4.raw m x0:=by kernel_rfl
theorem U4.told (h:Base0) (hs:AllT U4.ls):Told 144 U4.sg :=
 T5 h fn144 (il:=[]) (pl:=[]) hs trivial trivial (L:=(fun _ _ _ _=>none)) a14 (fun x=>U4.eq fuel x.1)
end Pt
end
section
open Go Go.Am
open IntKind (i64 u64 u8 i32 u32)
namespace Pt
set_option maxRecDepth 100000
abbrev O6.ls:List (Nat × Sig):=[(144,U4.sg)]
def O6.E:Env:=mkE O6.ls
def O6.raw (m:Nat) (x0:(Ty.den B8)):Option (Args [B8]):=let y1:=U4.val x0; bif U4.dom x0 then (bif !y1.1 then (some (((nl (Ty.int i64).slice.den,false,()),()))) else (some ((x0,())))) else none
def O6.val (x0:(Ty.den B8)):=(O6.raw fuel x0).getD (dfltA [B8])
def O6.dom (x0:(Ty.den B8)):=(O6.raw fuel x0).isSome
def O6.sg:Sig:=⟨[B8],[B8],false,fun x=>O6.dom x.1,fun x=>O6.val x.1⟩
theorem O6.eq (m:Nat) (x0:(Ty.den B8)):runS O6.E Go.Proofs.Tryz.f121 O6.sg (nL m) (x0,()) = O6.raw m x0:=by kernel_rfl
theorem O6.told(h:Base0) (hs:AllT O6.ls):Told 121 O6.sg :=
 told_n h fn121 hs (fun x=>O6.eq fuel x.1)
end Pt
end
section
open Go Go.Am
namespace Pt
set_option maxRecDepth 100000
abbrev E9.ls:List (Nat × Sig):=[(121,O6.sg)]
def E9.E:Env:=mkE E9.ls
def E9.raw (m:Nat) (x0:(Ty.den B8)):Option (Args [B8]):=let y1:=O6.val x0; bif O6.dom x0 then (some (((y1.1.1,true,()),()))) else none
def E9.val (x0:(Ty.den B8)):=(E9.raw fuel x0).getD (dfltA [B8])
def E9.dom (x0:(Ty.den B8)):=(E9.raw fuel x0).isSome
def E9.sg:Sig:=⟨[B8],[B8],false,fun x=>E9.dom x.1,fun x=>E9.val x.1⟩
theorem E9.eq (m:Nat) (x0:(Ty.den B8)):runS E9.E Go.Proofs.Tryz.f158 E9.sg (nL m) (x0,()) = E9.raw m x0:=by kernel_rfl
theorem E9.told(h:Base0) (hs:AllT E9.ls):Told 158 E9.sg :=
 told_n h fn158 hs (fun x=>E9.eq fuel x.1)
abbrev V5.ls:List (Nat × Sig):=[(156,D3.sg),(158,E9.sg)]
def V5.E:Env:=mkE V5.ls
def V5.raw (m:Nat) (x0:(Ty.den B1)):Option (Args [B1]):=let y1:=D3.val x0; bif D3.dom x0 then (let y2:=E9.val y1.1.2.2.1.1; bif E9.dom y1.1.2.2.1.1 then (some (((y1.1.1,y1.1.2.1,(y2.1,y1.1.2.2.1.2),()),()))) else none) else none
def V5.val (x0:(Ty.den B1)):=(V5.raw fuel x0).getD (dfltA [B1])
def V5.dom (x0:(Ty.den B1)):=(V5.raw fuel x0).isSome
def V5.sg:Sig:=⟨[B1],[B1],false,fun x=>V5.dom x.1,fun x=>V5.val x.1⟩
theorem V5.eq (m:Nat) (x0:(Ty.den B1)):runS V5.E Go.Proofs.Tryz.f134 V5.sg (nL m) (x0,()) = V5.raw m x0:=by kernel_rfl
theorem V5.told(h:Base0) (hs:AllT V5.ls):Told 134 V5.sg :=
 told_n h fn134 hs (fun x=>V5.eq fuel x.1)
abbrev M6.ls:List (Nat × Sig):=[(134,V5.sg)]
def M6.E:Env:=mkE M6.ls
def M6.raw (m:Nat) (x0:(Ty.den a7)) (x1:Int):Option (Args [a7]):=let y1:=V5.val x0.2.2.2.1; bif V5.dom x0.2.2.2.1 then (some (((x0.1,x0.2.1,x0.2.2.1,y1.1,x0.2.2.2.2.1,(true,x0.2.2.2.2.2.1.2),x0.2.2.2.2.2.2),()))) else none
def M6.val (x0:(Ty.den a7)) (x1:Int):=(M6.raw fuel x0 x1).getD (dfltA [a7])
def M6.dom (x0:(Ty.den a7)) (x1:Int):=(M6.raw fuel x0 x1).isSome
def M6.sg:Sig:=⟨[a7,I6],[a7],false,fun x=>M6.dom x.1 x.2.1,fun x=>M6.val x.1 x.2.1⟩
theorem M6.eq (m:Nat) (x0:(Ty.den a7)) (x1:Int):runS M6.E Go.Proofs.Tryz.f110 M6.sg (nL m) (x0,(x1,())) = M6.raw m x0 x1:=by kernel_rfl
theorem M6.told(h:Base0) (hs:AllT M6.ls):Told 110 M6.sg :=
 told_n h fn110 hs (fun x=>M6.eq fuel x.1 x.2.1)
def a63.E:Env:=mkE []
def a63.raw (m:Nat) (x0:(Ty.den B1)) (x1:Int):Option (Args [I6]):=bif decide (x1 < (0:Int)) then (some (((0:Int),()))) else (bif decide (x1 > (5:Int)) then (some (((0:Int),()))) else (bif decide ((0:Int) ≤ x1) && decide (x1 < (6:Int)) then (bif x1 == (0:Int) then (some (((↑(List.length x0.2.2.1.1.1):Int),()))) else (bif x1 == (1:Int) then (some (((↑(List.length x0.2.2.1.2.1.1):Int),()))) else (bif x1 == (2:Int) then (some (((↑(List.length x0.2.2.1.2.2.1.1):Int),()))) else (bif x1 == (3:Int) then (some (((↑(List.length x0.2.2.1.2.2.2.1.1):Int),()))) else (bif x1 == (4:Int) then (some (((↑(List.length x0.2.2.1.2.2.2.2.1.1):Int),()))) else (bif x1 == (5:Int) then (some (((↑(List.length x0.2.2.1.2.2.2.2.2.1.1):Int),()))) else (none))))))) else (none)))
def a63.val (x0:(Ty.den B1)) (x1:Int):=(a63.raw fuel x0 x1).getD (dfltA [I6])
def a63.dom (x0:(Ty.den B1)) (x1:Int):=(a63.raw fuel x0 x1).isSome
def a63.sg:Sig:=⟨[B1,I6],[I6],false,fun x=>a63.dom x.1 x.2.1,fun x=>a63.val x.1 x.2.1⟩
theorem a63.eq (m:Nat) (x0:(Ty.den B1)) (x1:Int):runS a63.E Go.Proofs.Tryz.f131 a63.sg (nL m) (x0,(x1,())) = a63.raw m x0 x1:=by kernel_rfl
theorem a63.told(h:Base0):Told 131 a63.sg :=
 told_n h fn131 (l:=[]) trivial (fun x=>a63.eq fuel x.1 x.2.1)
end Pt
end
section
open Go Go.Am
namespace Pt
def C1.val (x0:(Ty.den SI)):Args [.slice I6]:=(x0,())
def C1.dom (x0:(Ty.den SI)):Bool:=decide (List.length x0 ≤ 1073741824)
def C1.sg:Sig:=⟨[.slice I6],[.slice I6],true,fun x=>C1.dom x.1,fun x=>C1.val x.1⟩
def R3.val (x0:(Ty.den SB)):Args [.slice (.int .u8)]:=(x0,())
def R3.dom (x0:(Ty.den SB)):Bool:=decide (List.length x0 ≤ 1073741824)
def R3.sg:Sig:=⟨[.slice (.int .u8)],[.slice (.int .u8)],true,fun x=>R3.dom x.1,fun x=>R3.val x.1⟩
def T9.val (x0:(Ty.den (.slice (a52)))):Args [.slice (a52)]:=(x0,())
def T9.dom (x0:(Ty.den (.slice (a52)))):Bool:=decide (List.length x0 ≤ 1073741824)
def T9.sg:Sig:=⟨[.slice (a52)],[.slice (a52)],true,fun x=>T9.dom x.1,fun x=>T9.val x.1⟩
end Pt
end
section
open Go Go.Am
namespace Pt
set_option maxRecDepth 100000
abbrev Z9.ls:List (Nat × Sig):=[(86,N7.sg),(155,R3.sg)]
def Z9.E:Env:=mkE Z9.ls
def Z9.raw (m:Nat) (x0:(Ty.den D7)) (x1:Int):Option (Args [D7,SB]):=let y1:=N7.val x0; bif N7.dom x0 then (let z2:=if (↑(List.length y1.1.1):Int) < x1 then (↑(List.length y1.1.1):Int) else x1; let z3:=if z2 > (0:Int) then z2 else (0:Int); bif decide ((0:Int) ≤ z3) && decide (z3 ≤ (↑(List.length y1.1.1):Int)) then (let y4:=R3.val (List.take z3.toNat y1.1.1); bif R3.dom (List.take z3.toNat y1.1.1) then (bif decide ((0:Int) ≤ z3) && decide (z3 ≤ (↑(List.length y1.1.1):Int)) && decide ((↑(List.length y1.1.1):Int) ≤ (↑(List.length y1.1.1):Int)) then (some (((List.drop z3.toNat (List.take (↑(List.length y1.1.1):Int).toNat y1.1.1),y1.1.2),y4))) else (none)) else none) else (none)) else none
def Z9.val (x0:(Ty.den D7)) (x1:Int):=(Z9.raw fuel x0 x1).getD (dfltA [D7,SB])
def Z9.dom (x0:(Ty.den D7)) (x1:Int):=(Z9.raw fuel x0 x1).isSome
def Z9.sg:Sig:=⟨[D7,I6],[D7,SB],false,fun x=>Z9.dom x.1 x.2.1,fun x=>Z9.val x.1 x.2.1⟩
theorem Z9.eq (m:Nat) (x0:(Ty.den D7)) (x1:Int):runS Z9.E Go.Proofs.Tryz.f132 Z9.sg (nL m) (x0,(x1,())) = Z9.raw m x0 x1:=by kernel_rfl
theorem Z9.told(h:Base0) (hs:AllT Z9.ls):Told 132 Z9.sg :=
 told_n h fn132 hs (fun x=>Z9.eq fuel x.1 x.2.1)
abbrev X6.ls:List (Nat × Sig):=[(121,O6.sg),(164,X2.sg),(170,C1.sg)]
def X6.E:Env:=mkE X6.ls
def X6.raw (m:Nat) (x0:(Ty.den B8)) (x1:(Ty.den SI)):Option (Args [B8,.bool]):=let y1:=O6.val x0; bif O6.dom x0 then (bif y1.1.2.1 then (some ((y1.1,false,()))) else (bif (↑(List.length y1.1.1):Int) == (2:Int) then (some ((y1.1,false,()))) else (let y2:=X2.val x1; bif X2.dom x1 then (bif !y2.1 then (some ((y1.1,false,()))) else (bif decide ((0:Int) ≤ (↑(List.length y1.1.1):Int)) && decide ((↑(List.length y1.1.1):Int) ≤ (↑(List.length y1.1.1):Int)) && decide ((↑(List.length y1.1.1):Int) ≤ (↑(List.length y1.1.1):Int)) then (bif decide ((↑(List.length y1.1.1):Int) = (↑(List.length y1.1.1):Int)) then (let y3:=C1.val x1; bif C1.dom x1 then (let z4:=(List.take (↑(List.length y1.1.1):Int).toNat y1.1.1).length; let z5:=z4 + [y3.1].length; bif decide (z5 * (24:Nat) ≤ (140737488355328:Nat)) && decide (z5 ≤ lim) && (decide ((0:Nat) < [y3.1].length) || decide (z4 = (0:Nat))) then (some (((List.take (↑(List.length y1.1.1):Int).toNat y1.1.1 ++ [y3.1],y1.1.2),true,()))) else (none)) else none) else (let y6:=C1.val x1; bif C1.dom x1 then (none) else none)) else (none))) else none))) else none
def X6.val (x0:(Ty.den B8)) (x1:(Ty.den SI)):=(X6.raw fuel x0 x1).getD (dfltA [B8,.bool])
def X6.dom (x0:(Ty.den B8)) (x1:(Ty.den SI)):=(X6.raw fuel x0 x1).isSome
def X6.sg:Sig:=⟨[B8,SI],[B8,.bool],false,fun x=>X6.dom x.1 x.2.1,fun x=>X6.val x.1 x.2.1⟩
theorem X6.eq (m:Nat) (x0:(Ty.den B8)) (x1:(Ty.den SI)):runS X6.E Go.Proofs.Tryz.f157 X6.sg (nL m) (x0,(x1,())) = X6.raw m x0 x1:=by kernel_rfl
theorem X6.told(h:Base0) (hs:AllT X6.ls):Told 157 X6.sg :=
 told_n h fn157 hs (fun x=>X6.eq fuel x.1 x.2.1)
abbrev Z8.ls:List (Nat × Sig):=[(156,D3.sg),(157,X6.sg)]
def Z8.E:Env:=mkE Z8.ls
def Z8.raw (m:Nat) (x0:(Ty.den B1)) (x1:(Ty.den SI)):Option (Args [B1,.bool]):=let y1:=D3.val x0; bif D3.dom x0 then (let y2:=X6.val y1.1.2.2.1.1 x1; bif X6.dom y1.1.2.2.1.1 x1 then (some (((y1.1.1,y1.1.2.1,(y2.1,y1.1.2.2.1.2),()),y2.2))) else none) else none
def Z8.val (x0:(Ty.den B1)) (x1:(Ty.den SI)):=(Z8.raw fuel x0 x1).getD (dfltA [B1,.bool])
def Z8.dom (x0:(Ty.den B1)) (x1:(Ty.den SI)):=(Z8.raw fuel x0 x1).isSome
def Z8.sg:Sig:=⟨[B1,SI],[B1,.bool],false,fun x=>Z8.dom x.1 x.2.1,fun x=>Z8.val x.1 x.2.1⟩
theorem Z8.eq (m:Nat) (x0:(Ty.den B1)) (x1:(Ty.den SI)):runS Z8.E Go.Proofs.Tryz.f133 Z8.sg (nL m) (x0,(x1,())) = Z8.raw m x0 x1:=by kernel_rfl
theorem Z8.told(h:Base0) (hs:AllT Z8.ls):Told 133 Z8.sg :=
 told_n h fn133 hs (fun x=>Z8.eq fuel x.1 x.2.1)
end Pt
end
section
open Go Go.Am
open IntKind (i64 u64 u8 i32 u32)
namespace Pt
set_option maxRecDepth 100000
abbrev L8.ls:List (Nat × Sig):=[(110,M6.sg),(131,a63.sg),(132,Z9.sg),(133,Z8.sg)]
def L8.E:Env:=⟨T,sigL L8.ls,inlL [],annL [(50008,⟨some [2,4,6,7,8,47,48,49],[],[(2,a7),(4,a7),(6,D7)],some [2,4,6,7,8]⟩)],[],primL [],globL⟩
def L8.l0 (K0:(Ty.den SB) → (Ty.den a7) → (Ty.den a7) → (Ty.den D7) → (Ty.den SI) → Option (Args [a7,.bool])):Nat → (Ty.den SB) → (Ty.den SB) → Int → Int → (Ty.den a7) → (Ty.den a7) → (Ty.den D7) → (Ty.den SI) → Option (Args [a7,.bool])
 | 0,_,_,_,_,_,_,_,_=>none
 | m + 1,v3,v4,v5,v6,v7,v8,v9,v10=>bif decide (v6 < v5) then (bif decide ((0:Int) ≤ v6) && decide (v6 < (↑(List.length v4):Int)) then (let z11:=List.length v10 + [i64.wrap (List.getD v4 (Int.toNat v6) (0:Int))].length; bif decide (z11 * (8:Nat) ≤ (140737488355328:Nat)) && decide (z11 ≤ lim) then (L8.l0 K0 m v3 v4 v5 (i64.wrap (v6 + (1:Int))) v7 v8 v9 (v10 ++ [i64.wrap (List.getD v4 (Int.toNat v6) (0:Int))])) else (none)) else (none)) else (K0 v3 v7 v8 v9 v10)
def L8.l0.t:St:=⟨jka 26 [jk,jk,.one (.sc (.ptr 0 0)),jk,.one (.sc (.ptr 1 0)),jk,.one (.sc (.ptr 3 0)),zv SB,.one (.sc (.own 5 0)),jk,jk,jk,jk,jk,jk,jk,jk,jk,jk,jk,jk,jk,jk,jk,jk,jk,jk,jk,jk,jk,jk,jk,jk,jk,jk,jk,jk,jk,jk,jk,jk,jk,jk,jk,jk,jk,jk,zv SB,zv I6,zv I6],[.cells (dc a7),.cells (dc a7),.free,.cells (dc D7),.free,.row I6 true 0 []],0⟩
def L8.l0.e0:St:=⟨jka 67 [jk,jk,.one (.sc (.ptr 0 0)),jk,.one (.sc (.ptr 1 0)),jk,.one (.sc (.ptr 3 0)),zv SB,.one (.sc (.own 5 0))],[.cells (dc a7),.cells (dc a7),.free,.cells (dc D7),.free,.row I6 true 0 []],0⟩
def L8.raw (m:Nat) (x0:(Ty.den a7)) (x1:Int):Option (Args [a7,.bool]):=bif (↑(List.length x0.2.2.1.1):Int) == (0:Int) then (bif x0.2.2.1.2.1 then (let y1:=M6.val x0 x1; bif M6.dom x0 x1 then (some ((y1.1,true,()))) else none) else (bif (↑(List.length x0.2.2.1.1):Int) == (0:Int) then (some ((x0,false,()))) else (bif decide ((↑(List.length x0.2.2.2.1.2.2.1.1.1):Int) ≥ (2:Int)) then (some ((x0,false,()))) else (let y2:=Z9.val x0.2.2.1 ((8:Int)); bif Z9.dom x0.2.2.1 ((8:Int)) then (bif decide ((0:Int) ≤ (↑(List.length y2.2.1):Int)) && decide ((↑(List.length y2.2.1):Int) * (8:Int) ≤ (140737488355328:Int)) && decide ((↑(List.length y2.2.1):Int) ≤ (1099511627776:Int)) then (let z12:=(((0:Int),(ByteArray.mk (nl UInt8).toArray,()),(nl (Ty.int i64).den,()),(nl (Ty.int i64).den,(false,(0:Int),false,false,()),()),nl (Ty.int i64).den,()),nl (Ty.int i64).den,false,false,()); let z13:=((nl (Ty.int i64).slice.den,false,()),(nl (Ty.int i64).slice.den,false,()),(nl (Ty.int i64).slice.den,false,()),(nl (Ty.int i64).slice.den,false,()),(nl (Ty.int i64).slice.den,false,()),()); let z14:=((false,(z12,z12,z12,z12,z12,()),((nl (Ty.int i64).slice.den,false,()),z13),()),nl (Ty.int u8).den,(false,false,()),(0:Int),()); L8.l0 (fun o15 o16 o17 o18 o19=>let y20:=Z8.val o16.2.2.2.1 o19; bif Z8.dom o16.2.2.2.1 o19 then (some (((o16.1,o16.2.1,o18,y20.1,o16.2.2.2.2.1,o16.2.2.2.2.2.1,i64.wrap (o16.2.2.2.2.2.2.1 + (↑(List.length o15):Int)),()),true,()))) else none) m y2.2.1 y2.2.1 ((↑(List.length y2.2.1):Int)) ((0:Int)) x0 ((false,false,(nl (Ty.int u8).den,false,(0:Int),nl (Ty.int u8).den,()),z14)) y2.1 (List.replicate (0:Nat) (0:Int))) else (none)) else none)))) else (bif (↑(List.length x0.2.2.1.1):Int) == (0:Int) then (some ((x0,false,()))) else (bif decide ((↑(List.length x0.2.2.2.1.2.2.1.1.1):Int) ≥ (2:Int)) then (some ((x0,false,()))) else (let y21:=Z9.val x0.2.2.1 ((8:Int)); bif Z9.dom x0.2.2.1 ((8:Int)) then (bif decide ((0:Int) ≤ (↑(List.length y21.2.1):Int)) && decide ((↑(List.length y21.2.1):Int) * (8:Int) ≤ (140737488355328:Int)) && decide ((↑(List.length y21.2.1):Int) ≤ (1099511627776:Int)) then (let z22:=(((0:Int),(ByteArray.mk (nl UInt8).toArray,()),(nl (Ty.int i64).den,()),(nl (Ty.int i64).den,(false,(0:Int),false,false,()),()),nl (Ty.int i64).den,()),nl (Ty.int i64).den,false,false,()); let z23:=((nl (Ty.int i64).slice.den,false,()),(nl (Ty.int i64).slice.den,false,()),(nl (Ty.int i64).slice.den,false,()),(nl (Ty.int i64).slice.den,false,()),(nl (Ty.int i64).slice.den,false,()),()); let z24:=((false,(z22,z22,z22,z22,z22,()),((nl (Ty.int i64).slice.den,false,()),z23),()),nl (Ty.int u8).den,(false,false,()),(0:Int),()); L8.l0 (fun o25 o26 o27 o28 o29=>let y30:=Z8.val o26.2.2.2.1 o29; bif Z8.dom o26.2.2.2.1 o29 then (some (((o26.1,o26.2.1,o28,y30.1,o26.2.2.2.2.1,o26.2.2.2.2.2.1,i64.wrap (o26.2.2.2.2.2.2.1 + (↑(List.length o25):Int)),()),true,()))) else none) m y21.2.1 y21.2.1 ((↑(List.length y21.2.1):Int)) ((0:Int)) x0 ((false,false,(nl (Ty.int u8).den,false,(0:Int),nl (Ty.int u8).den,()),z24)) y21.1 (List.replicate (0:Nat) (0:Int))) else (none)) else none)))
def L8.val (x0:(Ty.den a7)) (x1:Int):=(L8.raw fuel x0 x1).getD (dfltA [a7,.bool])
def L8.dom (x0:(Ty.den a7)) (x1:Int):=(L8.raw fuel x0 x1).isSome
def L8.sg:Sig:=⟨[a7,I6],[a7,.bool],false,fun x=>L8.dom x.1 x.2.1,fun x=>L8.val x.1 x.2.1⟩
noncomputable def L8.q0 (m:Nat) (s:St) (k:X → St → Option (Args [a7,.bool])):Option (Args [a7,.bool]) :=
 match unSt L8.l0.t [SB,SB,I6,I6,a7,a7,D7,SI] s with
  | some x=>L8.l0 (fun o0 o1 o2 o3 o4=>k (.exit 1) (mkSt L8.l0.e0 [SB,a7,a7,D7,SI] (o0,(o1,(o2,(o3,(o4,()))))))) m x.1 x.2.1 x.2.2.1 x.2.2.2.1 x.2.2.2.2.1 x.2.2.2.2.2.1 x.2.2.2.2.2.2.1 x.2.2.2.2.2.2.2.1
  | none=>none
noncomputable def L8.L (m:Nat) (c:Code) (s:St) (k:X → St → Option (Args [a7,.bool])):Option (Args [a7,.bool]) :=
 match O9 c with
 | some r=>bif Nat.beq r 50008 then (L8.q0 m s k) else none
 | none=>none
theorem L8.cs_eq:loopsL Go.Proofs.Tryz.f109 [] = [(loopsL Go.Proofs.Tryz.f109 []).getD 0 .skip]:=by kernel_rfl
theorem L8.good:Good (L8.E) (fun c=>c ∈ loopsL Go.Proofs.Tryz.f109 []) L8.L:=by
 have cases:∀ c,c ∈ loopsL Go.Proofs.Tryz.f109 [] → c = (loopsL Go.Proofs.Tryz.f109 []).getD 0 .skip:=by
  intro c hc; rw [L8.cs_eq] at hc; simpa only [List.mem_cons,List.not_mem_nil,or_false] using hc
 refine ⟨?_,?_,fun c hc=>T4 c hc⟩
 ·intro c s k r hc h
  rcases cases c hc with rfl
  ·have h':L8.q0 0 s k = some r:=Eq.trans (by kernel_rfl) h
   unfold L8.q0 at h'
   split at h'
   ·rename_i x hx
    have h2:(none:Option (Args [a7,.bool])) = some r:=Eq.trans (by kernel_rfl) h'
    cases h2
   cases h'
 ·intro m c s k r hc h
  rcases cases c hc with rfl
  ·have h':L8.q0 (m + 1) s k = some r:=Eq.trans (by kernel_rfl) h
   unfold L8.q0 at h'
   split at h'
   ·rename_i x hx
    rw [O8 hx]
    exact Eq.trans (by kernel_rfl) h'
   cases h'
theorem L8.eq (m:Nat) (x0:(Ty.den a7)) (x1:Int):runS L8.E Go.Proofs.Tryz.f109 L8.sg (L8.L m) (x0,(x1,())) = L8.raw m x0 x1:=by kernel_rfl
theorem L8.told (h:Base0) (hs:AllT L8.ls):Told 109 L8.sg :=
 T5 h fn109 (il:=[]) (pl:=[]) hs trivial trivial (L:=L8.L) L8.good (fun x=>L8.eq fuel x.1 x.2.1)
end Pt
end
section
open Go Go.Am
namespace Pt
set_option maxRecDepth 100000
def a39.E:Env:=mkE []
def a39.raw (m:Nat) (x0:(Ty.den a7)) (x1:Int):Option (Args [.bool]):=some ((x0.2.2.2.2.2.1.1,()))
def a39.val (x0:(Ty.den a7)) (x1:Int):=(a39.raw fuel x0 x1).getD (dfltA [.bool])
def a39.dom (x0:(Ty.den a7)) (x1:Int):=(a39.raw fuel x0 x1).isSome
def a39.sg:Sig:=⟨[a7,I6],[.bool],false,fun x=>a39.dom x.1 x.2.1,fun x=>a39.val x.1 x.2.1⟩
theorem a39.eq (m:Nat) (x0:(Ty.den a7)) (x1:Int):runS a39.E Go.Proofs.Tryz.f111 a39.sg (nL m) (x0,(x1,())) = a39.raw m x0 x1:=by kernel_rfl
theorem a39.told(h:Base0):Told 111 a39.sg :=
 told_n h fn111 (l:=[]) trivial (fun x=>a39.eq fuel x.1 x.2.1)
def a24.E:Env:=mkE []
def a24.raw (m:Nat) (x0:Int):Option (Args [.bool]):=bif decide (x0 ≥ (0:Int)) then (some ((decide (x0 < (5:Int)),()))) else (some ((false,())))
def a24.val (x0:Int):=(a24.raw fuel x0).getD (dfltA [.bool])
def a24.dom (x0:Int):=(a24.raw fuel x0).isSome
def a24.sg:Sig:=⟨[I6],[.bool],false,fun x=>a24.dom x.1,fun x=>a24.val x.1⟩
theorem a24.eq (m:Nat) (x0:Int):runS a24.E Go.Proofs.Tryz.f137 a24.sg (nL m) (x0,()) = a24.raw m x0:=by kernel_rfl
theorem a24.told(h:Base0):Told 137 a24.sg :=
 told_n h fn137 (l:=[]) trivial (fun x=>a24.eq fuel x.1)
end Pt
end
section
open Go Go.Am
namespace Pt
def N1.is (x0:(Ty.den X1)):Bool:=bif !x0.1 then (x0.2.1 == (0:Int) && !x0.2.2.1 && !x0.2.2.2.1) else (bif x0.2.1 == (14:Int) then (bif x0.2.2.1 then (!x0.2.2.2.1) else (false)) else (bif x0.2.1 == (4:Int) then (!x0.2.2.2.1) else (bif x0.2.1 == (5:Int) then (!x0.2.2.2.1) else (bif x0.2.1 == (6:Int) then (!x0.2.2.1) else (bif decide (x0.2.1 ≥ (0:Int)) then (bif decide (x0.2.1 ≤ (14:Int)) then (bif !x0.2.2.1 then (!x0.2.2.2.1) else (false)) else (false)) else (false))))))
def N1.val (x0:(Ty.den X1)):Args [.bool]:=(N1.is x0,())
def N1.dom (x0:(Ty.den X1)):Bool:=true
def N1.sg:Sig:=⟨[X1],[.bool],false,fun x=>N1.dom x.1,fun x=>N1.val x.1⟩
end Pt
end
section
open Go Go.Am
namespace Pt
set_option maxRecDepth 100000
abbrev U7.ls:List (Nat × Sig):=[(184,N1.sg)]
def U7.E:Env:=mkE U7.ls
def U7.raw (m:Nat) (x0:(Ty.den Y1)):Option (Args [.bool]):=bif decide ((↑(List.length x0.1):Int) ≤ (32:Int)) then (let y1:=N1.val x0.2.1; bif N1.dom x0.2.1 then (bif y1.1 then (some ((x0.2.1.1 == decide ((↑(List.length x0.1):Int) > (0:Int)),()))) else (some ((false,())))) else none) else (some ((false,())))
def U7.val (x0:(Ty.den Y1)):=(U7.raw fuel x0).getD (dfltA [.bool])
def U7.dom (x0:(Ty.den Y1)):=(U7.raw fuel x0).isSome
def U7.sg:Sig:=⟨[Y1],[.bool],false,fun x=>U7.dom x.1,fun x=>U7.val x.1⟩
theorem U7.eq (m:Nat) (x0:(Ty.den Y1)):runS U7.E Go.Proofs.Tryz.f167 U7.sg (nL m) (x0,()) = U7.raw m x0:=by kernel_rfl
theorem U7.told(h:Base0) (hs:AllT U7.ls):Told 167 U7.sg :=
 told_n h fn167 hs (fun x=>U7.eq fuel x.1)
def a47.E:Env:=mkE []
def a47.raw (m:Nat) :Option (Args [(.slice N9)]):=let z1:=[((2364:Int),(2364:Int),(7:Int),()),((2381:Int),(2381:Int),(9:Int),()),((8400:Int),(8401:Int),(230:Int),()),((12441:Int),(12442:Int),(8:Int),())]; let z2:=((1615:Int),(1615:Int),(31:Int),()) :: ((1616:Int),(1616:Int),(32:Int),()) :: ((1617:Int),(1617:Int),(33:Int),()) :: ((1618:Int),(1618:Int),(34:Int),()) :: z1; let z3:=((1611:Int),(1611:Int),(27:Int),()) :: ((1612:Int),(1612:Int),(28:Int),()) :: ((1613:Int),(1613:Int),(29:Int),()) :: ((1614:Int),(1614:Int),(30:Int),()) :: z2; let z4:=((863:Int),(863:Int),(233:Int),()) :: ((864:Int),(865:Int),(234:Int),()) :: ((866:Int),(866:Int),(233:Int),()) :: ((867:Int),(879:Int),(230:Int),()) :: z3; let z5:=((857:Int),(858:Int),(220:Int),()) :: ((859:Int),(859:Int),(230:Int),()) :: ((860:Int),(860:Int),(233:Int),()) :: ((861:Int),(862:Int),(234:Int),()) :: z4; let z6:=((848:Int),(850:Int),(230:Int),()) :: ((851:Int),(854:Int),(220:Int),()) :: ((855:Int),(855:Int),(230:Int),()) :: ((856:Int),(856:Int),(232:Int),()) :: z5; let z7:=((838:Int),(838:Int),(230:Int),()) :: ((839:Int),(841:Int),(220:Int),()) :: ((842:Int),(844:Int),(230:Int),()) :: ((845:Int),(846:Int),(220:Int),()) :: z6; let z8:=((820:Int),(824:Int),(1:Int),()) :: ((825:Int),(828:Int),(220:Int),()) :: ((829:Int),(836:Int),(230:Int),()) :: ((837:Int),(837:Int),(240:Int),()) :: z7; let z9:=((801:Int),(802:Int),(202:Int),()) :: ((803:Int),(806:Int),(220:Int),()) :: ((807:Int),(808:Int),(202:Int),()) :: ((809:Int),(819:Int),(220:Int),()) :: z8; let z10:=((790:Int),(793:Int),(220:Int),()) :: ((794:Int),(794:Int),(232:Int),()) :: ((795:Int),(795:Int),(216:Int),()) :: ((796:Int),(800:Int),(220:Int),()) :: z9; some ((((768:Int),(788:Int),(230:Int),()) :: ((789:Int),(789:Int),(232:Int),()) :: z10,()))
def a47.val :=(a47.raw fuel ).getD (dfltA [(.slice N9)])
def a47.dom :=(a47.raw fuel ).isSome
def a47.sg:Sig:=⟨[],[(.slice N9)],false,fun x=>a47.dom ,fun x=>a47.val ⟩
theorem a47.eq (m:Nat) :runS a47.E Go.Proofs.Tryz.f230 a47.sg (nL m) () = a47.raw m :=by kernel_rfl
theorem a47.told(h:Base0):Told 230 a47.sg :=
 told_n h fn230 (l:=[]) trivial (fun x=>a47.eq fuel )
abbrev O0.ls:List (Nat × Sig):=[(213,Y6.sg),(230,a47.sg)]
def O0.E:Env:=mkE O0.ls
def O0.raw (m:Nat) (x0:Int):Option (Args [I6]):=let z1:=[((2364:Int),(2364:Int),(7:Int),()),((2381:Int),(2381:Int),(9:Int),()),((8400:Int),(8401:Int),(230:Int),()),((12441:Int),(12442:Int),(8:Int),())]; let z2:=((1615:Int),(1615:Int),(31:Int),()) :: ((1616:Int),(1616:Int),(32:Int),()) :: ((1617:Int),(1617:Int),(33:Int),()) :: ((1618:Int),(1618:Int),(34:Int),()) :: z1; let z3:=((1611:Int),(1611:Int),(27:Int),()) :: ((1612:Int),(1612:Int),(28:Int),()) :: ((1613:Int),(1613:Int),(29:Int),()) :: ((1614:Int),(1614:Int),(30:Int),()) :: z2; let z4:=((863:Int),(863:Int),(233:Int),()) :: ((864:Int),(865:Int),(234:Int),()) :: ((866:Int),(866:Int),(233:Int),()) :: ((867:Int),(879:Int),(230:Int),()) :: z3; let z5:=((857:Int),(858:Int),(220:Int),()) :: ((859:Int),(859:Int),(230:Int),()) :: ((860:Int),(860:Int),(233:Int),()) :: ((861:Int),(862:Int),(234:Int),()) :: z4; let z6:=((848:Int),(850:Int),(230:Int),()) :: ((851:Int),(854:Int),(220:Int),()) :: ((855:Int),(855:Int),(230:Int),()) :: ((856:Int),(856:Int),(232:Int),()) :: z5; let z7:=((838:Int),(838:Int),(230:Int),()) :: ((839:Int),(841:Int),(220:Int),()) :: ((842:Int),(844:Int),(230:Int),()) :: ((845:Int),(846:Int),(220:Int),()) :: z6; let z8:=((820:Int),(824:Int),(1:Int),()) :: ((825:Int),(828:Int),(220:Int),()) :: ((829:Int),(836:Int),(230:Int),()) :: ((837:Int),(837:Int),(240:Int),()) :: z7; let z9:=((801:Int),(802:Int),(202:Int),()) :: ((803:Int),(806:Int),(220:Int),()) :: ((807:Int),(808:Int),(202:Int),()) :: ((809:Int),(819:Int),(220:Int),()) :: z8; let z10:=((790:Int),(793:Int),(220:Int),()) :: ((794:Int),(794:Int),(232:Int),()) :: ((795:Int),(795:Int),(216:Int),()) :: ((796:Int),(800:Int),(220:Int),()) :: z9; let z11:=((768:Int),(788:Int),(230:Int),()) :: ((789:Int),(789:Int),(232:Int),()) :: z10; let y12:=Y6.val z11 x0; bif Y6.dom z11 x0 then (some y12.1.2.2) else none
def O0.val (x0:Int):=(O0.raw fuel x0).getD (dfltA [I6])
def O0.dom (x0:Int):=(O0.raw fuel x0).isSome
def O0.sg:Sig:=⟨[I6],[I6],false,fun x=>O0.dom x.1,fun x=>O0.val x.1⟩
theorem O0.eq (m:Nat) (x0:Int):runS O0.E Go.Proofs.Tryz.f202 O0.sg (nL m) (x0,()) = O0.raw m x0:=by kernel_rfl
theorem O0.told(h:Base0) (hs:AllT O0.ls):Told 202 O0.sg :=
 told_n h fn202 hs (fun x=>O0.eq fuel x.1)
abbrev R2.ls:List (Nat × Sig):=[(202,O0.sg)]
def R2.E:Env:=mkE R2.ls
def R2.raw (m:Nat) (x0:Int):Option (Args [.bool]):=let y1:=O0.val x0; bif O0.dom x0 then (some ((decide (y1.1 > (0:Int)),()))) else none
def R2.val (x0:Int):=(R2.raw fuel x0).getD (dfltA [.bool])
def R2.dom (x0:Int):=(R2.raw fuel x0).isSome
def R2.sg:Sig:=⟨[I6],[.bool],false,fun x=>R2.dom x.1,fun x=>R2.val x.1⟩
theorem R2.eq (m:Nat) (x0:Int):runS R2.E Go.Proofs.Tryz.f192 R2.sg (nL m) (x0,()) = R2.raw m x0:=by kernel_rfl
theorem R2.told(h:Base0) (hs:AllT R2.ls):Told 192 R2.sg :=
 told_n h fn192 hs (fun x=>R2.eq fuel x.1)
abbrev T8.ls:List (Nat × Sig):=[(192,R2.sg)]
def T8.E:Env:=mkE T8.ls
def T8.raw (m:Nat) (x0:Int):Option (Args [.bool]):=let y1:=R2.val x0; bif R2.dom x0 then (some ((!y1.1,()))) else none
def T8.val (x0:Int):=(T8.raw fuel x0).getD (dfltA [.bool])
def T8.dom (x0:Int):=(T8.raw fuel x0).isSome
def T8.sg:Sig:=⟨[I6],[.bool],false,fun x=>T8.dom x.1,fun x=>T8.val x.1⟩
theorem T8.eq (m:Nat) (x0:Int):runS T8.E Go.Proofs.Tryz.f191 T8.sg (nL m) (x0,()) = T8.raw m x0:=by kernel_rfl
theorem T8.told(h:Base0) (hs:AllT T8.ls):Told 191 T8.sg :=
 told_n h fn191 hs (fun x=>T8.eq fuel x.1)
end Pt
end
end
