/- What functions of the given program compute, each by the abstract machine. Conditions: none beyond the statement's own. -/
import Derived.Test.YtkciioajiopobaaGreatDoorTypes1
import Derived.Test.YtkciioajiopobaaGreatDoorWalks1
import Derived.Test.YtkciioajiopobaaGreatDoorWalks3
import Derived.Test.YtkciioajiopobaaGreatDoorWalks7
set_option linter.all false
noncomputable section
section
open Go Go.Am
namespace Pt
set_option maxRecDepth 100000
abbrev Z0.ls:List (Nat × Sig):=[(56,M8.sg),(59,Y8.sg)]
def Z0.E:Env:=mkE Z0.ls
def Z0.raw (m:Nat) (x0:(Ty.den a7)) (x1:Int):Option (Args [a7,I6]):=let y1:=M8.val x0; bif M8.dom x0 then (let y2:=Y8.val y1.1.2.2.1 x1; bif Y8.dom y1.1.2.2.1 x1 then (some (((y1.1.1,y1.1.2.1,y2.1,y1.1.2.2.2),y2.2))) else none) else none
def Z0.val (x0:(Ty.den a7)) (x1:Int):=(Z0.raw fuel x0 x1).getD (dfltA [a7,I6])
def Z0.dom (x0:(Ty.den a7)) (x1:Int):=(Z0.raw fuel x0 x1).isSome
def Z0.sg:Sig:=⟨[a7,I6],[a7,I6],false,fun x=>Z0.dom x.1 x.2.1,fun x=>Z0.val x.1 x.2.1⟩
theorem Z0.eq (m:Nat) (x0:(Ty.den a7)) (x1:Int):runS Z0.E Go.Proofs.Tryz.f18 Z0.sg (nL m) (x0,(x1,())) = Z0.raw m x0 x1:=by kernel_rfl
theorem Z0.told(h:Base0) (hs:AllT Z0.ls):Told 18 Z0.sg :=
 told_n h fn18 hs (fun x=>Z0.eq fuel x.1 x.2.1)
abbrev V1.ls:List (Nat × Sig):=[(86,N7.sg)]
def V1.E:Env:=mkE V1.ls
def V1.raw (m:Nat) (x0:(Ty.den D7)):Option (Args [D7]):=let y1:=N7.val x0; bif N7.dom x0 then (some (((y1.1.1,true,y1.1.2.2),()))) else none
def V1.val (x0:(Ty.den D7)):=(V1.raw fuel x0).getD (dfltA [D7])
def V1.dom (x0:(Ty.den D7)):=(V1.raw fuel x0).isSome
def V1.sg:Sig:=⟨[D7],[D7],false,fun x=>V1.dom x.1,fun x=>V1.val x.1⟩
theorem V1.eq (m:Nat) (x0:(Ty.den D7)):runS V1.E Go.Proofs.Tryz.f60 V1.sg (nL m) (x0,()) = V1.raw m x0:=by kernel_rfl
theorem V1.told(h:Base0) (hs:AllT V1.ls):Told 60 V1.sg :=
 told_n h fn60 hs (fun x=>V1.eq fuel x.1)
abbrev V0.ls:List (Nat × Sig):=[(56,M8.sg),(60,V1.sg)]
def V0.E:Env:=mkE V0.ls
def V0.raw (m:Nat) (x0:(Ty.den a7)):Option (Args [a7]):=let y1:=M8.val x0; bif M8.dom x0 then (let y2:=V1.val y1.1.2.2.1; bif V1.dom y1.1.2.2.1 then (some (((y1.1.1,y1.1.2.1,y2.1,y1.1.2.2.2),()))) else none) else none
def V0.val (x0:(Ty.den a7)):=(V0.raw fuel x0).getD (dfltA [a7])
def V0.dom (x0:(Ty.den a7)):=(V0.raw fuel x0).isSome
def V0.sg:Sig:=⟨[a7],[a7],false,fun x=>V0.dom x.1,fun x=>V0.val x.1⟩
theorem V0.eq (m:Nat) (x0:(Ty.den a7)):runS V0.E Go.Proofs.Tryz.f19 V0.sg (nL m) (x0,()) = V0.raw m x0:=by kernel_rfl
theorem V0.told(h:Base0) (hs:AllT V0.ls):Told 19 V0.sg :=
 told_n h fn19 hs (fun x=>V0.eq fuel x.1)
abbrev V2.ls:List (Nat × Sig):=[(25,L5.sg),(56,M8.sg)]
def V2.E:Env:=mkE V2.ls
def V2.raw (m:Nat) (x0:(Ty.den a7)):Option (Args [a7]):=let y1:=M8.val x0; bif M8.dom x0 then (let y2:=L5.val y1.1; bif L5.dom y1.1 then (bif !y2.1 then (some (((y1.1.1,true,(nl Int,true,y1.1.2.2.1.2.2),y1.1.2.2.2),()))) else (some y1)) else none) else none
def V2.val (x0:(Ty.den a7)):=(V2.raw fuel x0).getD (dfltA [a7])
def V2.dom (x0:(Ty.den a7)):=(V2.raw fuel x0).isSome
def V2.sg:Sig:=⟨[a7],[a7],false,fun x=>V2.dom x.1,fun x=>V2.val x.1⟩
theorem V2.eq (m:Nat) (x0:(Ty.den a7)):runS V2.E Go.Proofs.Tryz.f72 V2.sg (nL m) (x0,()) = V2.raw m x0:=by kernel_rfl
theorem V2.told(h:Base0) (hs:AllT V2.ls):Told 72 V2.sg :=
 told_n h fn72 hs (fun x=>V2.eq fuel x.1)
end Pt
end
section
open Go Go.Am
open IntKind (i64 u64 u8 i32 u32)
namespace Pt
set_option maxRecDepth 100000
abbrev S4.ls:List (Nat × Sig):=[(16,S2.sg),(18,Z0.sg),(19,V0.sg),(27,R7.sg),(72,V2.sg)]
def S4.E:Env:=⟨T,sigL S4.ls,inlL [],annL [(56017,⟨some [2,3,4,11],[],[(2,a7),(3,O5),(4,a7)],some [2,4]⟩)],[],primL [],globL⟩
def S4.l0 (K0:(Ty.den a7) → (Ty.den a7) → Option (Args [a7])):Nat → Int → (Ty.den a7) → (Ty.den O5) → (Ty.den a7) → Option (Args [a7])
 | 0,_,_,_,_=>none
 | m + 1,v6,v7,v8,v9=>bif decide (v6 < i64.wrap (i64.wrap (↑(BitVec.ofInt (64:Nat) v8.2.1 &&& BitVec.ofInt (64:Nat) (7:Int)).toNat:Int) * (7:Int))) then (let y10:=R7.val v7 (Int.tmod v6 (7:Int)); bif R7.dom v7 (Int.tmod v6 (7:Int)) then (S4.l0 K0 m (i64.wrap (v6 + (1:Int))) y10.1 v8 v9) else none) else (K0 v7 v9)
def S4.l0.t:St:=⟨jka 61 [jk,jk,.one (.sc (.ptr 0 0)),.one (.sc (.ptr 1 0)),.one (.sc (.ptr 2 0)),jk,jk,jk,jk,jk,jk,zv I6],[.cells (dc a7),.cells (dc O5),.cells (dc a7)],0⟩
def S4.l0.e0:St:=⟨jka 68 [jk,jk,.one (.sc (.ptr 0 0)),jk,.one (.sc (.ptr 2 0))],[.cells (dc a7),.free,.cells (dc a7)],0⟩
def S4.raw (m:Nat) (x0:(Ty.den a7)) (x1:(Ty.den O5)):Option (Args [a7]):=bif x1.1 == (0:Int) then (let y1:=S2.val x0 x1.2.2.1; bif S2.dom x0 x1.2.2.1 then (some ((y1.1,()))) else none) else (bif x1.1 == (1:Int) then (let y2:=V0.val x0; bif V0.dom x0 then (some y2) else none) else (bif x1.1 == (2:Int) then (let y3:=Z0.val x0 x1.2.1; bif Z0.dom x0 x1.2.1 then (some ((y3.1,()))) else none) else (bif x1.1 == (3:Int) then (let y4:=V2.val x0; bif V2.dom x0 then (some y4) else none) else (bif x1.1 == (4:Int) then (let y5:=R7.val x0 x1.2.1; bif R7.dom x0 x1.2.1 then (some ((y5.1,()))) else none) else (bif x1.1 == (5:Int) then (let z11:=(((0:Int),(ByteArray.mk (nl UInt8).toArray,()),(nl Int,()),(nl Int,(false,(0:Int),false,false,()),()),nl Int,()),nl Int,false,false,()); let z12:=((nl (List (Ty.int i64).den),false,()),(nl (List (Ty.int i64).den),false,()),(nl (List (Ty.int i64).den),false,()),(nl (List (Ty.int i64).den),false,()),(nl (List (Ty.int i64).den),false,()),()); let z13:=((false,(z11,z11,z11,z11,z11,()),((nl (List (Ty.int i64).den),false,()),z12),()),nl Int,(false,false,()),(0:Int),()); S4.l0 (fun o14 o15=>some ((o14,()))) m ((0:Int)) x0 x1 ((false,false,(nl Int,false,(0:Int),nl Int,()),z13))) else (some ((x0,()))))))))
def S4.val (x0:(Ty.den a7)) (x1:(Ty.den O5)):=(S4.raw fuel x0 x1).getD (dfltA [a7])
def S4.dom (x0:(Ty.den a7)) (x1:(Ty.den O5)):=(S4.raw fuel x0 x1).isSome
def S4.sg:Sig:=⟨[a7,O5],[a7],false,fun x=>S4.dom x.1 x.2.1,fun x=>S4.val x.1 x.2.1⟩
noncomputable def S4.q0 (m:Nat) (s:St) (k:X → St → Option (Args [a7])):Option (Args [a7]) :=
 match unSt S4.l0.t [I6,a7,O5,a7] s with
  | some x=>S4.l0 (fun o0 o1=>k (.exit 1) (mkSt S4.l0.e0 [a7,a7] (o0,(o1,())))) m x.1 x.2.1 x.2.2.1 x.2.2.2.1
  | none=>none
noncomputable def S4.L (m:Nat) (c:Code) (s:St) (k:X → St → Option (Args [a7])):Option (Args [a7]) :=
 match O9 c with
 | some r=>bif Nat.beq r 56017 then (S4.q0 m s k) else none
 | none=>none
theorem S4.cs_eq:loopsL Go.Proofs.Tryz.f73 [] = [(loopsL Go.Proofs.Tryz.f73 []).getD 0 .skip]:=by kernel_rfl
theorem S4.good:Good (S4.E) (fun c=>c ∈ loopsL Go.Proofs.Tryz.f73 []) S4.L:=by
 have cases:∀ c,c ∈ loopsL Go.Proofs.Tryz.f73 [] → c = (loopsL Go.Proofs.Tryz.f73 []).getD 0 .skip:=by
  intro c hc; rw [S4.cs_eq] at hc; simpa only [List.mem_cons,List.not_mem_nil,or_false] using hc
 refine ⟨?_,?_,fun c hc=>T4 c hc⟩
 ·intro c s k r hc h
  rcases cases c hc with rfl
  ·have h':S4.q0 0 s k = some r:=Eq.trans (by kernel_rfl) h
   unfold S4.q0 at h'
   split at h'
   ·rename_i x hx
    have h2:(none:Option (Args [a7])) = some r:=Eq.trans (by kernel_rfl) h'
    cases h2
   cases h'
 ·intro m c s k r hc h
  rcases cases c hc with rfl
  ·have h':S4.q0 (m + 1) s k = some r:=Eq.trans (by kernel_rfl) h
   unfold S4.q0 at h'
   split at h'
   ·rename_i x hx
    rw [O8 hx]
    exact Eq.trans (by kernel_rfl) h'
   cases h'
theorem S4.eq (m:Nat) (x0:(Ty.den a7)) (x1:(Ty.den O5)):runS S4.E Go.Proofs.Tryz.f73 S4.sg (S4.L m) (x0,(x1,())) = S4.raw m x0 x1:=by kernel_rfl
theorem S4.told (h:Base0) (hs:AllT S4.ls):Told 73 S4.sg :=
 T5 h fn73 (il:=[]) (pl:=[]) hs trivial trivial (L:=S4.L) S4.good (fun x=>S4.eq fuel x.1 x.2.1)
abbrev N2.ls:List (Nat × Sig):=[(17,X9.sg),(73,S4.sg)]
def N2.E:Env:=⟨T,sigL N2.ls,inlL [],annL [(6003,⟨some [0,2,3,4],[],[(2,a7),(3,a7)],some [2,3]⟩)],[],primL [],globL⟩
def N2.l0 (K0:(Ty.den a7) → (Ty.den a7) → Option (Args [a7])):Nat → (Ty.den (.slice O5)) → Int → (Ty.den a7) → (Ty.den a7) → Option (Args [a7])
 | 0,_,_,_,_=>none
 | m + 1,v2,v3,v4,v5=>bif decide (v3 < (↑(List.length v2):Int)) then (bif decide ((0:Int) ≤ v3) && decide (v3 < (↑(List.length v2):Int)) then (let z6:=List.getD v2 (Int.toNat v3) O5.dflt; let y7:=S4.val v5 z6; bif S4.dom v5 z6 then (N2.l0 K0 m v2 (i64.wrap (v3 + (1:Int))) v4 y7.1) else none) else (none)) else (K0 v4 v5)
def N2.l0.t:St:=⟨jka 14 [zv (.slice O5),jk,.one (.sc (.ptr 0 0)),.one (.sc (.ptr 2 0)),zv I6],[.cells (dc a7),.free,.cells (dc a7)],0⟩
def N2.l0.e0:St:=⟨jka 15 [jk,jk,.one (.sc (.ptr 0 0)),.one (.sc (.ptr 2 0))],[.cells (dc a7),.free,.cells (dc a7)],0⟩
def N2.raw (m:Nat) (x0:(Ty.den (.slice O5))):Option (Args [a7]):=let y1:=X9.val; bif X9.dom then (let z8:=(((0:Int),(ByteArray.mk (nl UInt8).toArray,()),(nl Int,()),(nl Int,(false,(0:Int),false,false,()),()),nl Int,()),nl Int,false,false,()); let z9:=((nl (List (Ty.int i64).den),false,()),(nl (List (Ty.int i64).den),false,()),(nl (List (Ty.int i64).den),false,()),(nl (List (Ty.int i64).den),false,()),(nl (List (Ty.int i64).den),false,()),()); let z10:=((false,(z8,z8,z8,z8,z8,()),((nl (List (Ty.int i64).den),false,()),z9),()),nl Int,(false,false,()),(0:Int),()); N2.l0 (fun o11 o12=>some ((o12,()))) m x0 ((0:Int)) ((false,false,(nl Int,false,(0:Int),nl Int,()),z10)) y1.1) else none
def N2.val (x0:(Ty.den (.slice O5))):=(N2.raw fuel x0).getD (dfltA [a7])
def N2.dom (x0:(Ty.den (.slice O5))):=(N2.raw fuel x0).isSome
def N2.sg:Sig:=⟨[(.slice O5)],[a7],false,fun x=>N2.dom x.1,fun x=>N2.val x.1⟩
noncomputable def N2.q0 (m:Nat) (s:St) (k:X → St → Option (Args [a7])):Option (Args [a7]) :=
 match unSt N2.l0.t [(.slice O5),I6,a7,a7] s with
  | some x=>N2.l0 (fun o0 o1=>k (.exit 0) (mkSt N2.l0.e0 [a7,a7] (o0,(o1,())))) m x.1 x.2.1 x.2.2.1 x.2.2.2.1
  | none=>none
noncomputable def N2.L (m:Nat) (c:Code) (s:St) (k:X → St → Option (Args [a7])):Option (Args [a7]) :=
 match O9 c with
 | some r=>bif Nat.beq r 6003 then (N2.q0 m s k) else none
 | none=>none
theorem N2.cs_eq:loopsL Go.Proofs.Tryz.f34 [] = [(loopsL Go.Proofs.Tryz.f34 []).getD 0 .skip]:=by kernel_rfl
theorem N2.good:Good (N2.E) (fun c=>c ∈ loopsL Go.Proofs.Tryz.f34 []) N2.L:=by
 have cases:∀ c,c ∈ loopsL Go.Proofs.Tryz.f34 [] → c = (loopsL Go.Proofs.Tryz.f34 []).getD 0 .skip:=by
  intro c hc; rw [N2.cs_eq] at hc; simpa only [List.mem_cons,List.not_mem_nil,or_false] using hc
 refine ⟨?_,?_,fun c hc=>T4 c hc⟩
 ·intro c s k r hc h
  rcases cases c hc with rfl
  ·have h':N2.q0 0 s k = some r:=Eq.trans (by kernel_rfl) h
   unfold N2.q0 at h'
   split at h'
   ·rename_i x hx
    have h2:(none:Option (Args [a7])) = some r:=Eq.trans (by kernel_rfl) h'
    cases h2
   cases h'
 ·intro m c s k r hc h
  rcases cases c hc with rfl
  ·have h':N2.q0 (m + 1) s k = some r:=Eq.trans (by kernel_rfl) h
   unfold N2.q0 at h'
   split at h'
   ·rename_i x hx
    rw [O8 hx]
    exact Eq.trans (by kernel_rfl) h'
   cases h'
theorem N2.eq (m:Nat) (x0:(Ty.den (.slice O5))):runS N2.E Go.Proofs.Tryz.f34 N2.sg (N2.L m) (x0,()) = N2.raw m x0:=by kernel_rfl
theorem N2.told (h:Base0) (hs:AllT N2.ls):Told 34 N2.sg :=
 T5 h fn34 (il:=[]) (pl:=[]) hs trivial trivial (L:=N2.L) N2.good (fun x=>N2.eq fuel x.1)
abbrev M4.ls:List (Nat × Sig):=[(119,U6.sg),(120,V7.sg)]
def M4.E:Env:=mkE M4.ls
def M4.raw (m:Nat) (x0:(Ty.den L3)):Option (Args [I6]):=let y1:=U6.val x0; bif U6.dom x0 then (let y2:=V7.val y1.1.1; bif V7.dom y1.1.1 then (some ((i64.wrap (y2.1 + (↑(List.length y1.1.2.1):Int)),()))) else none) else none
def M4.val (x0:(Ty.den L3)):=(M4.raw fuel x0).getD (dfltA [I6])
def M4.dom (x0:(Ty.den L3)):=(M4.raw fuel x0).isSome
def M4.sg:Sig:=⟨[L3],[I6],false,fun x=>M4.dom x.1,fun x=>M4.val x.1⟩
theorem M4.eq (m:Nat) (x0:(Ty.den L3)):runS M4.E Go.Proofs.Tryz.f91 M4.sg (nL m) (x0,()) = M4.raw m x0:=by kernel_rfl
theorem M4.told(h:Base0) (hs:AllT M4.ls):Told 91 M4.sg :=
 told_n h fn91 hs (fun x=>M4.eq fuel x.1)
abbrev D1.ls:List (Nat × Sig):=[(121,O6.sg)]
def D1.E:Env:=⟨T,sigL D1.ls,inlL [],annL [(11003,⟨some [3,8,9,10],[],[],some [3]⟩)],[],primL [],globL⟩
def D1.l0 (K0:Int → Option (Args [I6])):Nat → Int → (Ty.den (.slice SI)) → Int → Int → Option (Args [I6])
 | 0,_,_,_,_=>none
 | m + 1,v2,v3,v4,v5=>bif decide (v5 < v4) then (bif decide ((0:Int) ≤ v5) && decide (v5 < (↑(List.length v3):Int)) then (D1.l0 K0 m (i64.wrap (v2 + (↑(List.length (List.getD v3 (Int.toNat v5) (Ty.int i64).slice.dflt)):Int))) v3 v4 (i64.wrap (v5 + (1:Int)))) else (none)) else (K0 v2)
def D1.l0.t:St:=⟨jka 9 [jk,jk,jk,zv I6,jk,jk,jk,jk,.one (.sc (.lf (.slice SI) (Ty.dflt (.slice SI)))),zv I6,zv I6],[],0⟩
def D1.l0.e0:St:=⟨jka 16 [jk,jk,jk,zv I6],[],0⟩
def D1.raw (m:Nat) (x0:(Ty.den B8)):Option (Args [I6]):=let y1:=O6.val x0; bif O6.dom x0 then (D1.l0 (fun o6=>some ((o6,()))) m ((0:Int)) y1.1.1 ((↑(List.length y1.1.1):Int)) ((0:Int))) else none
def D1.val (x0:(Ty.den B8)):=(D1.raw fuel x0).getD (dfltA [I6])
def D1.dom (x0:(Ty.den B8)):=(D1.raw fuel x0).isSome
def D1.sg:Sig:=⟨[B8],[I6],false,fun x=>D1.dom x.1,fun x=>D1.val x.1⟩
noncomputable def D1.q0 (m:Nat) (s:St) (k:X → St → Option (Args [I6])):Option (Args [I6]) :=
 match unSt D1.l0.t [I6,(.slice SI),I6,I6] s with
  | some x=>D1.l0 (fun o0=>k (.exit 0) (mkSt D1.l0.e0 [I6] (o0,()))) m x.1 x.2.1 x.2.2.1 x.2.2.2.1
  | none=>none
noncomputable def D1.L (m:Nat) (c:Code) (s:St) (k:X → St → Option (Args [I6])):Option (Args [I6]) :=
 match O9 c with
 | some r=>bif Nat.beq r 11003 then (D1.q0 m s k) else none
 | none=>none
theorem D1.cs_eq:loopsL Go.Proofs.Tryz.f92 [] = [(loopsL Go.Proofs.Tryz.f92 []).getD 0 .skip]:=by kernel_rfl
theorem D1.good:Good (D1.E) (fun c=>c ∈ loopsL Go.Proofs.Tryz.f92 []) D1.L:=by
 have cases:∀ c,c ∈ loopsL Go.Proofs.Tryz.f92 [] → c = (loopsL Go.Proofs.Tryz.f92 []).getD 0 .skip:=by
  intro c hc; rw [D1.cs_eq] at hc; simpa only [List.mem_cons,List.not_mem_nil,or_false] using hc
 refine ⟨?_,?_,fun c hc=>T4 c hc⟩
 ·intro c s k r hc h
  rcases cases c hc with rfl
  ·have h':D1.q0 0 s k = some r:=Eq.trans (by kernel_rfl) h
   unfold D1.q0 at h'
   split at h'
   ·rename_i x hx
    have h2:(none:Option (Args [I6])) = some r:=Eq.trans (by kernel_rfl) h'
    cases h2
   cases h'
 ·intro m c s k r hc h
  rcases cases c hc with rfl
  ·have h':D1.q0 (m + 1) s k = some r:=Eq.trans (by kernel_rfl) h
   unfold D1.q0 at h'
   split at h'
   ·rename_i x hx
    rw [O8 hx]
    exact Eq.trans (by kernel_rfl) h'
   cases h'
theorem D1.eq (m:Nat) (x0:(Ty.den B8)):runS D1.E Go.Proofs.Tryz.f92 D1.sg (D1.L m) (x0,()) = D1.raw m x0:=by kernel_rfl
theorem D1.told (h:Base0) (hs:AllT D1.ls):Told 92 D1.sg :=
 T5 h fn92 (il:=[]) (pl:=[]) hs trivial trivial (L:=D1.L) D1.good (fun x=>D1.eq fuel x.1)
abbrev D0.ls:List (Nat × Sig):=[(91,M4.sg),(92,D1.sg)]
def D0.E:Env:=⟨T,sigL D0.ls,inlL [],annL [(11003,⟨some [1,3,9,10],[],[(1,B1)],some [1,3]⟩),(21008,⟨some [3,19,20],[],[],some [3]⟩)],[],primL [],globL⟩
def D0.l1 (K0:Int → Option (Args [I6])):Nat → Int → (Ty.den w05) → Int → Option (Args [I6])
 | 0,_,_,_=>none
 | m + 1,v12,v13,v14=>bif decide (v14 < (6:Int)) then (bif decide ((0:Int) ≤ v14) && decide (v14 < (6:Int)) then (bif v14 == (0:Int) then (let y15:=D1.val v13.1; bif D1.dom v13.1 then (D0.l1 K0 m (i64.wrap (v12 + y15.1)) v13 (i64.wrap (v14 + (1:Int)))) else none) else (bif v14 == (1:Int) then (let y16:=D1.val v13.2.1; bif D1.dom v13.2.1 then (D0.l1 K0 m (i64.wrap (v12 + y16.1)) v13 (i64.wrap (v14 + (1:Int)))) else none) else (bif v14 == (2:Int) then (let y17:=D1.val v13.2.2.1; bif D1.dom v13.2.2.1 then (D0.l1 K0 m (i64.wrap (v12 + y17.1)) v13 (i64.wrap (v14 + (1:Int)))) else none) else (bif v14 == (3:Int) then (let y18:=D1.val v13.2.2.2.1; bif D1.dom v13.2.2.2.1 then (D0.l1 K0 m (i64.wrap (v12 + y18.1)) v13 (i64.wrap (v14 + (1:Int)))) else none) else (bif v14 == (4:Int) then (let y19:=D1.val v13.2.2.2.2.1; bif D1.dom v13.2.2.2.2.1 then (D0.l1 K0 m (i64.wrap (v12 + y19.1)) v13 (i64.wrap (v14 + (1:Int)))) else none) else (bif v14 == (5:Int) then (let y20:=D1.val v13.2.2.2.2.2.1; bif D1.dom v13.2.2.2.2.2.1 then (D0.l1 K0 m (i64.wrap (v12 + y20.1)) v13 (i64.wrap (v14 + (1:Int)))) else none) else (none))))))) else (none)) else (K0 v12)
def D0.l1.t:St:=⟨jka 8 [jk,jk,jk,zv I6,jk,jk,jk,jk,jk,jk,jk,jk,jk,jk,jk,jk,jk,jk,jk,.one (.agg (dc w05)),zv I6],[],0⟩
def D0.l1.e0:St:=⟨jka 25 [jk,jk,jk,zv I6],[],0⟩
def D0.l0 (K0:Int → (Ty.den B1) → Option (Args [I6])):Nat → Int → (Ty.den a97) → Int → (Ty.den B1) → Option (Args [I6])
 | 0,_,_,_,_=>none
 | m + 1,v1,v2,v3,v4=>bif decide (v3 < (5:Int)) then (bif decide ((0:Int) ≤ v3) && decide (v3 < (5:Int)) then (bif v3 == (0:Int) then (let y5:=M4.val v2.1; bif M4.dom v2.1 then (D0.l0 K0 m (i64.wrap (v1 + y5.1)) v2 (i64.wrap (v3 + (1:Int))) v4) else none) else (bif v3 == (1:Int) then (let y6:=M4.val v2.2.1; bif M4.dom v2.2.1 then (D0.l0 K0 m (i64.wrap (v1 + y6.1)) v2 (i64.wrap (v3 + (1:Int))) v4) else none) else (bif v3 == (2:Int) then (let y7:=M4.val v2.2.2.1; bif M4.dom v2.2.2.1 then (D0.l0 K0 m (i64.wrap (v1 + y7.1)) v2 (i64.wrap (v3 + (1:Int))) v4) else none) else (bif v3 == (3:Int) then (let y8:=M4.val v2.2.2.2.1; bif M4.dom v2.2.2.2.1 then (D0.l0 K0 m (i64.wrap (v1 + y8.1)) v2 (i64.wrap (v3 + (1:Int))) v4) else none) else (bif v3 == (4:Int) then (let y9:=M4.val v2.2.2.2.2.1; bif M4.dom v2.2.2.2.2.1 then (D0.l0 K0 m (i64.wrap (v1 + y9.1)) v2 (i64.wrap (v3 + (1:Int))) v4) else none) else (none)))))) else (none)) else (K0 v1 v4)
def D0.l0.t:St:=⟨jka 18 [jk,.one (.sc (.ptr 0 0)),jk,zv I6,jk,jk,jk,jk,jk,.one (.agg (dc a97)),zv I6],[.cells (dc B1)],0⟩
def D0.l0.e0:St:=⟨jka 25 [jk,.one (.sc (.ptr 0 0)),jk,zv I6],[.cells (dc B1)],0⟩
def D0.raw (m:Nat) (x0:(Ty.den B1)):Option (Args [I6]):=D0.l0 (fun o10 o11=>D0.l1 (fun o21=>some ((o21,()))) m o10 o11.2.2.1 ((0:Int))) m ((0:Int)) x0.2.1 ((0:Int)) x0
def D0.val (x0:(Ty.den B1)):=(D0.raw fuel x0).getD (dfltA [I6])
def D0.dom (x0:(Ty.den B1)):=(D0.raw fuel x0).isSome
def D0.sg:Sig:=⟨[B1],[I6],false,fun x=>D0.dom x.1,fun x=>D0.val x.1⟩
noncomputable def D0.q0 (m:Nat) (s:St) (k:X → St → Option (Args [I6])):Option (Args [I6]) :=
 match unSt D0.l0.t [I6,a97,I6,B1] s with
  | some x=>D0.l0 (fun o0 o1=>k (.exit 0) (mkSt D0.l0.e0 [I6,B1] (o0,(o1,())))) m x.1 x.2.1 x.2.2.1 x.2.2.2.1
  | none=>none
noncomputable def D0.q1 (m:Nat) (s:St) (k:X → St → Option (Args [I6])):Option (Args [I6]) :=
 match unSt D0.l1.t [I6,w05,I6] s with
  | some x=>D0.l1 (fun o0=>k (.exit 2) (mkSt D0.l1.e0 [I6] (o0,()))) m x.1 x.2.1 x.2.2.1
  | none=>none
noncomputable def D0.L (m:Nat) (c:Code) (s:St) (k:X → St → Option (Args [I6])):Option (Args [I6]) :=
 match O9 c with
 | some r=>bif Nat.beq r 11003 then (D0.q0 m s k) else bif Nat.beq r 21008 then (D0.q1 m s k) else none
 | none=>none
theorem D0.cs_eq:loopsL Go.Proofs.Tryz.f67 [] = [(loopsL Go.Proofs.Tryz.f67 []).getD 0 .skip,(loopsL Go.Proofs.Tryz.f67 []).getD 1 .skip]:=by kernel_rfl
theorem D0.good:Good (D0.E) (fun c=>c ∈ loopsL Go.Proofs.Tryz.f67 []) D0.L:=by
 have cases:∀ c,c ∈ loopsL Go.Proofs.Tryz.f67 [] → c = (loopsL Go.Proofs.Tryz.f67 []).getD 0 .skip ∨ c = (loopsL Go.Proofs.Tryz.f67 []).getD 1 .skip:=by
  intro c hc; rw [D0.cs_eq] at hc; simpa only [List.mem_cons,List.not_mem_nil,or_false] using hc
 refine ⟨?_,?_,fun c hc=>T4 c hc⟩
 ·intro c s k r hc h
  rcases cases c hc with rfl | rfl
  ·have h':D0.q0 0 s k = some r:=Eq.trans (by kernel_rfl) h
   unfold D0.q0 at h'
   split at h'
   ·rename_i x hx
    have h2:(none:Option (Args [I6])) = some r:=Eq.trans (by kernel_rfl) h'
    cases h2
   cases h'
  ·have h':D0.q1 0 s k = some r:=Eq.trans (by kernel_rfl) h
   unfold D0.q1 at h'
   split at h'
   ·rename_i x hx
    have h2:(none:Option (Args [I6])) = some r:=Eq.trans (by kernel_rfl) h'
    cases h2
   cases h'
 ·intro m c s k r hc h
  rcases cases c hc with rfl | rfl
  ·have h':D0.q0 (m + 1) s k = some r:=Eq.trans (by kernel_rfl) h
   unfold D0.q0 at h'
   split at h'
   ·rename_i x hx
    rw [O8 hx]
    exact Eq.trans (by kernel_rfl) h'
   cases h'
  ·have h':D0.q1 (m + 1) s k = some r:=Eq.trans (by kernel_rfl) h
   unfold D0.q1 at h'
   split at h'
   ·rename_i x hx
    rw [O8 hx]
    exact Eq.trans (by kernel_rfl) h'
   cases h'
theorem D0.eq (m:Nat) (x0:(Ty.den B1)):runS D0.E Go.Proofs.Tryz.f67 D0.sg (D0.L m) (x0,()) = D0.raw m x0:=by kernel_rfl
theorem D0.told (h:Base0) (hs:AllT D0.ls):Told 67 D0.sg :=
 T5 h fn67 (il:=[]) (pl:=[]) hs trivial trivial (L:=D0.L) D0.good (fun x=>D0.eq fuel x.1)
abbrev Z7.ls:List (Nat × Sig):=[(67,D0.sg)]
def Z7.E:Env:=mkE Z7.ls
def Z7.raw (m:Nat) (x0:(Ty.den a7)):Option (Args [I6]):=let y1:=D0.val x0.2.2.2.1; bif D0.dom x0.2.2.2.1 then (some ((i64.wrap (y1.1 + (↑(List.length x0.2.2.2.2.1):Int)),()))) else none
def Z7.val (x0:(Ty.den a7)):=(Z7.raw fuel x0).getD (dfltA [I6])
def Z7.dom (x0:(Ty.den a7)):=(Z7.raw fuel x0).isSome
def Z7.sg:Sig:=⟨[a7],[I6],false,fun x=>Z7.dom x.1,fun x=>Z7.val x.1⟩
theorem Z7.eq (m:Nat) (x0:(Ty.den a7)):runS Z7.E Go.Proofs.Tryz.f28 Z7.sg (nL m) (x0,()) = Z7.raw m x0:=by kernel_rfl
theorem Z7.told(h:Base0) (hs:AllT Z7.ls):Told 28 Z7.sg :=
 told_n h fn28 hs (fun x=>Z7.eq fuel x.1)
def N6.E:Env:=⟨T,sigL [],inlL [],annL [(11004,⟨some [0,1,5],[],[],some [4]⟩)],[],primL [],globL⟩
def N6.l0 (K0:Bool → Option (Args [.bool])) (K1:Option (Args [.bool])):Nat → (Ty.den SI) → (Ty.den SI) → Int → Option (Args [.bool])
 | 0,_,_,_=>none
 | m + 1,v1,v2,v3=>bif decide (v3 < (↑(List.length v1):Int)) then (bif decide ((0:Int) ≤ v3) && decide (v3 < (↑(List.length v1):Int)) then (bif decide ((0:Int) ≤ v3) && decide (v3 < (↑(List.length v2):Int)) then (bif List.getD v1 (Int.toNat v3) (0:Int) != List.getD v2 (Int.toNat v3) (0:Int) then (K0 false) else (N6.l0 K0 K1 m v1 v2 (i64.wrap (v3 + (1:Int))))) else (none)) else (none)) else (K1)
def N6.l0.t:St:=⟨jka 20 [zv SI,zv SI,jk,jk,jk,zv I6],[],0⟩
def N6.l0.e0:St:=⟨jka 21 [jk,jk,jk,jk,zv .bool],[],0⟩
def N6.l0.e1:St:=⟨jka 25 [jk],[],0⟩
def N6.raw (m:Nat) (x0:(Ty.den SI)) (x1:(Ty.den SI)):Option (Args [.bool]):=bif (↑(List.length x0):Int) != (↑(List.length x1):Int) then (some ((false,()))) else (N6.l0 (fun o4=>some ((o4,()))) (some ((true,()))) m x0 x1 ((0:Int)))
def N6.val (x0:(Ty.den SI)) (x1:(Ty.den SI)):=(N6.raw fuel x0 x1).getD (dfltA [.bool])
def N6.dom (x0:(Ty.den SI)) (x1:(Ty.den SI)):=(N6.raw fuel x0 x1).isSome
def N6.sg:Sig:=⟨[SI,SI],[.bool],false,fun x=>N6.dom x.1 x.2.1,fun x=>N6.val x.1 x.2.1⟩
noncomputable def N6.q0 (m:Nat) (s:St) (k:X → St → Option (Args [.bool])):Option (Args [.bool]) :=
 match unSt N6.l0.t [SI,SI,I6] s with
  | some x=>N6.l0 (fun o0=>k .ret (mkSt N6.l0.e0 [.bool] (o0,()))) (k (.exit 0) (mkSt N6.l0.e1 [] ())) m x.1 x.2.1 x.2.2.1
  | none=>none
noncomputable def N6.L (m:Nat) (c:Code) (s:St) (k:X → St → Option (Args [.bool])):Option (Args [.bool]) :=
 match O9 c with
 | some r=>bif Nat.beq r 11004 then (N6.q0 m s k) else none
 | none=>none
theorem N6.cs_eq:loopsL Go.Proofs.Tryz.f36 [] = [(loopsL Go.Proofs.Tryz.f36 []).getD 0 .skip]:=by kernel_rfl
theorem N6.good:Good (N6.E) (fun c=>c ∈ loopsL Go.Proofs.Tryz.f36 []) N6.L:=by
 have cases:∀ c,c ∈ loopsL Go.Proofs.Tryz.f36 [] → c = (loopsL Go.Proofs.Tryz.f36 []).getD 0 .skip:=by
  intro c hc; rw [N6.cs_eq] at hc; simpa only [List.mem_cons,List.not_mem_nil,or_false] using hc
 refine ⟨?_,?_,fun c hc=>T4 c hc⟩
 ·intro c s k r hc h
  rcases cases c hc with rfl
  ·have h':N6.q0 0 s k = some r:=Eq.trans (by kernel_rfl) h
   unfold N6.q0 at h'
   split at h'
   ·rename_i x hx
    have h2:(none:Option (Args [.bool])) = some r:=Eq.trans (by kernel_rfl) h'
    cases h2
   cases h'
 ·intro m c s k r hc h
  rcases cases c hc with rfl
  ·have h':N6.q0 (m + 1) s k = some r:=Eq.trans (by kernel_rfl) h
   unfold N6.q0 at h'
   split at h'
   ·rename_i x hx
    rw [O8 hx]
    exact Eq.trans (by kernel_rfl) h'
   cases h'
theorem N6.eq (m:Nat) (x0:(Ty.den SI)) (x1:(Ty.den SI)):runS N6.E Go.Proofs.Tryz.f36 N6.sg (N6.L m) (x0,(x1,())) = N6.raw m x0 x1:=by kernel_rfl
theorem N6.told (h:Base0):Told 36 N6.sg :=
 T5 h fn36 (l:=[]) (il:=[]) (pl:=[]) trivial trivial trivial (L:=N6.L) N6.good (fun x=>N6.eq fuel x.1 x.2.1)
end Pt
end
section
open Go Go.Am
namespace Pt
set_option maxRecDepth 100000
abbrev a09.ls:List (Nat × Sig):=[(22,T1.sg),(23,a16.sg),(28,Z7.sg),(29,a41.sg),(36,N6.sg),(64,a19.sg)]
def a09.E:Env:=mkE a09.ls
def a09.raw (m:Nat) (x0:(Ty.den a7)) (x1:(Ty.den a7)):Option (Args [.bool]):=bif (bytesOf x0.2.2.1.2.2.2.1).toList == (bytesOf x1.2.2.1.2.2.2.1).toList then (bif x0.2.2.2.2.2.2.1 == x1.2.2.2.2.2.2.1 then (bif (↑(List.length x0.2.2.2.2.1):Int) == (↑(List.length x1.2.2.2.2.1):Int) then (let y1:=Z7.val x0; bif Z7.dom x0 then (let y2:=Z7.val x1; bif Z7.dom x1 then (bif y1.1 == y2.1 then (let y3:=T1.val x0; bif T1.dom x0 then (let y4:=T1.val x1; bif T1.dom x1 then (let y5:=N6.val y3.1 y4.1; bif N6.dom y3.1 y4.1 then (some y5) else none) else none) else none) else (some ((false,())))) else none) else none) else (some ((false,())))) else (some ((false,())))) else (some ((false,())))
def a09.val (x0:(Ty.den a7)) (x1:(Ty.den a7)):=(a09.raw fuel x0 x1).getD (dfltA [.bool])
def a09.dom (x0:(Ty.den a7)) (x1:(Ty.den a7)):=(a09.raw fuel x0 x1).isSome
def a09.sg:Sig:=⟨[a7,a7],[.bool],false,fun x=>a09.dom x.1 x.2.1,fun x=>a09.val x.1 x.2.1⟩
theorem a09.eq (m:Nat) (x0:(Ty.den a7)) (x1:(Ty.den a7)):runS a09.E Go.Proofs.Tryz.f37 a09.sg (nL m) (x0,(x1,())) = a09.raw m x0 x1:=by kernel_rfl
theorem a09.told(h:Base0) (hs:AllT a09.ls):Told 37 a09.sg :=
 told_n h fn37 hs (fun x=>a09.eq fuel x.1 x.2.1)
end Pt
end
section
open Go Go.Am
open IntKind (i64 u64 u8 i32 u32)
namespace Pt
set_option maxRecDepth 100000
abbrev O4.ls:List (Nat × Sig):=[(15,V4.sg),(20,E2.sg),(31,N8.sg),(34,N2.sg),(35,D9.sg),(37,a09.sg)]
def O4.E:Env:=mkE O4.ls
def O4.raw (m:Nat) (x0:(Ty.den (.slice O5))) (x1:(Ty.den SI)) (x2:(Ty.den SI)) (x3:Int) (x4:Int):Option (Args [.bool]):=let y1:=V4.val; bif V4.dom then (let y2:=N8.val x0; bif N8.dom x0 then (bif !y2.1 then (some y1) else (bif decide ((↑(List.length x1):Int) > (30:Int)) then (some y1) else (bif decide ((↑(List.length x2):Int) > (30:Int)) then (some y1) else (bif decide (x3 < (0:Int)) then (some y1) else (bif decide (x3 > (20:Int)) then (some y1) else (bif decide (x4 < (0:Int)) then (some y1) else (bif decide (x4 > (20:Int)) then (some y1) else (let y3:=N2.val x0; bif N2.dom x0 then (bif decide (((0:Nat) + List.length x1) * (8:Nat) ≤ (140737488355328:Nat)) && decide ((0:Nat) + List.length x1 ≤ lim) then (let z4:=(nl Int ++ x1).length + List.length x2; bif decide (z4 * (8:Nat) ≤ (140737488355328:Nat)) && decide (z4 ≤ lim) then (let y5:=D9.val y3.1 x1; bif D9.dom y3.1 x1 then (let y6:=D9.val y5.1 x2; bif D9.dom y5.1 x2 then (let y7:=D9.val y3.1 (nl Int ++ x1 ++ x2); bif D9.dom y3.1 (nl Int ++ x1 ++ x2) then (bif i64.wrap (y5.2.1 + y6.2.1) != y7.2.1 then (some ((false,()))) else (let y8:=a09.val y6.1 y7.1; bif a09.dom y6.1 y7.1 then (bif !y8.1 then (some ((false,()))) else (let y9:=E2.val y3.1 x1 x3; bif E2.dom y3.1 x1 x3 then (let y10:=E2.val y9.1 x1 x4; bif E2.dom y9.1 x1 x4 then (let y11:=E2.val y3.1 x1 (i64.wrap (x3 + x4)); bif E2.dom y3.1 x1 (i64.wrap (x3 + x4)) then (bif y1.1 then (bif i64.wrap (y9.2.1 + y10.2.1) == y11.2.1 then (let y12:=a09.val y10.1 y11.1; bif a09.dom y10.1 y11.1 then (some y12) else none) else (some ((false,())))) else (some ((false,())))) else none) else none) else none)) else none)) else none) else none) else none) else (none)) else (none)) else none)))))))) else none) else none
def O4.val (x0:(Ty.den (.slice O5))) (x1:(Ty.den SI)) (x2:(Ty.den SI)) (x3:Int) (x4:Int):=(O4.raw fuel x0 x1 x2 x3 x4).getD (dfltA [.bool])
def O4.dom (x0:(Ty.den (.slice O5))) (x1:(Ty.den SI)) (x2:(Ty.den SI)) (x3:Int) (x4:Int):=(O4.raw fuel x0 x1 x2 x3 x4).isSome
def O4.sg:Sig:=⟨[(.slice O5),SI,SI,I6,I6],[.bool],false,fun x=>O4.dom x.1 x.2.1 x.2.2.1 x.2.2.2.1 x.2.2.2.2.1,fun x=>O4.val x.1 x.2.1 x.2.2.1 x.2.2.2.1 x.2.2.2.2.1⟩
theorem O4.eq (m:Nat) (x0:(Ty.den (.slice O5))) (x1:(Ty.den SI)) (x2:(Ty.den SI)) (x3:Int) (x4:Int):runS O4.E Go.Proofs.Tryz.f7 O4.sg (nL m) (x0,(x1,(x2,(x3,(x4,()))))) = O4.raw m x0 x1 x2 x3 x4:=by kernel_rfl
theorem O4.told(h:Base0) (hs:AllT O4.ls):Told 7 O4.sg :=
 told_n h fn7 hs (fun x=>O4.eq fuel x.1 x.2.1 x.2.2.1 x.2.2.2.1 x.2.2.2.2.1)
end Pt
end
end
