/- Contracts of functions that the abstract machine does not take. Conditions: none beyond the statement's own. -/
import Derived.Test.YtkciioajiopobaaGreatDoorTypes1
import Derived.Test.YtkciioajiopobaaGreatDoorWalks1
import Derived.Test.YtkciioajiopobaaGreatDoorWalks3
import Derived.Test.YtkciioajiopobaaGreatDoorWalks5
import Derived.Shelf.Spec.SlicesInsertGrow
import Derived.Shelf.Spec.SlicesGrow
import Derived.WalkKit
import Derived.Laws.Cover3
import Derived.Laws.StructEq
import Derived.Shelf.Strings.OnBuilder
import Derived.Shelf.Strings.BuilderK
import Derived.Shelf.Strings.BuilderRune
import Derived.Shelf.Strings.Cut
import Derived.Shelf.Strings.Split
import Derived.Shelf.Strings.Repeat
import Derived.Ground.SlgfProg
import Derived.Shelf.SlicesE.DeleteFunc
import Derived.Test.YtkciioajiopobaaGreatDoorProg
import Derived.WalkSmall
import Derived.BigCall
import Derived.Maps.Own
import Derived.Deep.LoopGhost
import Derived.Lib.SliceRun
set_option linter.all false
noncomputable section
section
open Go Go.Shelf Go.Proofs
namespace Pt
def insRen:Ren:=⟨fun | 21=>203 | 27=>231 | 28=>232 | 35=>261 | 39=>298 | n=>n,fun | 22=>23 | n=>n,fun n=>n⟩
theorem laysIns:Lays2.n21 Tryz.prog insRen where
 mixed:=by kernel_rfl
 f21:=Tryz.func203.trans (congrArg some (by kernel_rfl))
 f27:=Tryz.func231.trans (congrArg some (by kernel_rfl))
 f28:=Tryz.func232.trans (congrArg some (by kernel_rfl))
 f35:=Tryz.func261.trans (congrArg some (by kernel_rfl))
 f39:=Tryz.func298.trans (congrArg some (by kernel_rfl))
 t0:=Tryz.underlying0
 a0:=Tryz.isAgg0
 z0:=Tryz.sizeOf0
 v0:=Tryz.zeroValue0
 t3:=Tryz.underlying3
 a3:=Tryz.isAgg3
 z3:=Tryz.sizeOf3
 v3:=Tryz.zeroValue3
 t4:=Tryz.underlying4
 a4:=Tryz.isAgg4
 z4:=Tryz.sizeOf4
 v4:=Tryz.zeroValue4
 t22:=Tryz.underlying23
 a22:=Tryz.isAgg23
 z22:=Tryz.sizeOf23
 v22:=Tryz.zeroValue23
 i3:=by kernel_rfl
def growRen:Ren:=⟨fun | 4=>93 | n=>n,fun | 25=>5 | n=>n,fun n=>n⟩
theorem laysGrow:Lays8.n4 Tryz.prog growRen where
 mixed:=by kernel_rfl
 f4:=⟨Tryz.f93.name,by decide,Tryz.func93.trans (congrArg some (by kernel_rfl))⟩
 t0:=Tryz.underlying0
 a0:=Tryz.isAgg0
 z0:=Tryz.sizeOf0
 v0:=Tryz.zeroValue0
 t3:=Tryz.underlying3
 a3:=Tryz.isAgg3
 z3:=Tryz.sizeOf3
 v3:=Tryz.zeroValue3
 t4:=Tryz.underlying4
 a4:=Tryz.isAgg4
 z4:=Tryz.sizeOf4
 v4:=Tryz.zeroValue4
 t9:=Tryz.underlying9
 a9:=Tryz.isAgg9
 z9:=Tryz.sizeOf9
 v9:=Tryz.zeroValue9
 t20:=Tryz.underlying20
 a20:=Tryz.isAgg20
 z20:=Tryz.sizeOf20
 v20:=Tryz.zeroValue20
 t22:=Tryz.underlying22
 a22:=Tryz.isAgg22
 z22:=Tryz.sizeOf22
 v22:=Tryz.zeroValue22
end Pt
end
section
open Go Go.Am
open Go.RowKit (Below)
namespace Pt
theorem info5:∃ i,Pg.info? 5 = some i ∧ i.zero = some (.int .u8 0) ∧ i.size = 1 ∧ i.bytes = 1:=by
 have h:(Pg.info? 5).map (fun i=>(i.zero,i.size,i.bytes)) = some (some (.int .u8 0),1,1):=by kernel_rfl
 obtain ⟨i,hi,hb⟩:=Option.map_eq_some_iff.1 h
 exact ⟨i,hi,congrArg Prod.fst hb,congrArg (fun p=>p.2.1) hb,congrArg (fun p=>p.2.2) hb⟩
theorem primGrow_ok:PrimOk Pg WI 93 B60:=by
 intro B w0 H μ w I nid av f vs hW hr hf h hv
 have h':(growA nid av).eval = some f:=h
 unfold growA at h'
 split at h'
 ·rename_i n
  obtain ⟨hh,h2⟩:=a33 h'
  cases h2
  simp only [Bool.and_eq_true,decide_eq_true_eq] at hh
  obtain ⟨h0,h1⟩:=hh
  obtain ⟨v0,v1,rfl,ha0,ha1⟩:∃ v0 v1,vs = [v0,v1] ∧ RepAV H μ w I (.one (.sc .nilS)) v0 ∧ RepAV H μ w I (.one (.sc (.lf (.int .i64) n))) v1:=by
   match vs,hv with
   | [v0,v1],⟨q0,q1,_⟩=>exact ⟨v0,v1,rfl,q0,q1⟩
  have e0:v0 = .slice none 0 0:=ha0
  have e1:v1 = .int .i64 n:=w44 ha1
  subst e0 e1
  clear h' hv h
  obtain ⟨k,rfl⟩:∃ k:Nat,n = ((k:Nat):Int):=⟨Int.toNat n,(Int.toNat_of_nonneg h0).symm⟩
  have hk:k ≤ 1073741824:=by
   have:(k:Int) ≤ (1073741824:Int):=h1
   omega
  have hlt:=(List.getElem?_eq_some_iff.1 hf).1
  cases k with
  | zero =>
   refine (Go.Proofs.Any8.slices_Grow_room laysGrow none 0 0 0 w (Nat.le_refl _) (by omega) (by omega) (Nat.le_refl _)).mono ?_
   rintro e w' ⟨rfl,rfl⟩
   refine ⟨_,rfl,?_⟩
   obtain ⟨m1,m2⟩:=hr.lay_none hf (.int .u8) true 0
   exact ⟨_,I,m1,m2,⟨.int .u8,true,0,[],a44 hlt _,Nat.le_refl _,fun _=>by rw [Z4]; exact ⟨rfl,_,rfl⟩⟩,_,_,_,rfl⟩
  | succ k =>
   obtain ⟨i,hi,hz,hs,hb⟩:=info5
   refine (Go.Proofs.Any8.slices_Grow_grow laysGrow i (.int .u8 0) hi hz (by omega) none 0 0 (k + 1) [] w (Nat.le_refl _) (by omega) (by rw [hb]; omega) (by omega) (by simp) (fun _=>rfl) (fun _ ha=>by cases ha)).mono ?_
   rintro e w' ⟨rfl,rfl⟩
   refine ⟨_,rfl,?_⟩
   have hge:=grownCap_ge w (0 + (k + 1)) 0 (growRen.t 25)
   have hle:=grownCap_le_maxLen w (0 + (k + 1)) 0 (growRen.t 25) (by unfold maxLen; omega)
   revert hge hle
   generalize grownCap w (0 + (k + 1)) 0 (growRen.t 25) = g
   intro hge hle
   have hxd:Ext H.length H μ w I H μ w.drew I:=Ext.drew _
   obtain ⟨m1,m2⟩:=hr.drew.lay_row (e:=.int .u8) hf true 0 (l:=[]) (c:=([]:List Value).toArray ++ Builtin.zeroCells (Value.int .u8 0).cells (0 + (k + 1) - 0) ++ Builtin.zeroCells (Value.int .u8 0).cells (g - (0 + (k + 1)))) (growRen.t 25) (vs:=[]) rfl rfl
   refine ⟨_,I,m1,hxd.trans m2,?_⟩
   refine B47 (e:=.int .u8) (l:=[]) (a44 hlt _) (Z4 _ _ _) (Nat.zero_le _) hle ?_
   rw [Array.size_append,Array.size_append,size_zeroCells,size_zeroCells,show (Value.int .u8 0).cells.size = 1 from rfl]
   show g * 1 = _
   simp
   omega
 ·cases h'
end Pt
end
section
open Go Go.Am
open Go.RowKit (Below)
set_option maxRecDepth 8000
namespace Pt
theorem eql_nil (t e:TypeId) (h:Go.Proofs.Tryz.prog.underlying t = some (.slice e)) (a:Option Addr) (l c:Nat) (w:World) :
  (binOp .eql t (.slice a l c) (.slice none 0 0)).run Go.Proofs.Tryz.prog w = .ok (.bool a.isNone) w:=by
 simp only [binOp]
 simp [run_equal_slice_nil w t e a l c h]
theorem B74 {n:Nat} {e:Ty} (h1:Told n ⟨[.slice e],[.slice e],true,fun x=>decide (0 < List.length x.1) && decide (List.length x.1 ≤ 1073741824),fun x=>(x.1,())⟩)
  (h2:∀ (base:Option Addr) (cap:Nat) (w:World),Calls Pg n #[.slice base 0 cap] w fun e w'=>∃ b,e = .returned (.slice b 0 0) ∧ Below w.heap.size w w') :
  Told n ⟨[.slice e],[.slice e],true,fun x=>decide (List.length x.1 ≤ 1073741824),fun x=>(x.1,())⟩:=by
 refine ⟨fun w I vals x hw hI hargs hd=>?_,h1.en⟩
 obtain ⟨x,xe⟩:=x
 cases xe
 have hd':decide (List.length x ≤ 1073741824) = true:=hd
 cases x with
 | nil =>
  obtain ⟨v,vs,rfl,hv,hvs⟩:=hargs
  have hvs':vs = []:=hvs
  subst hvs'
  have hv':RepC w I (.slice e) [] [v]:=by
   rcases hv with ⟨_,hv⟩ | ⟨hf,_⟩
   ·exact hv
   ·cases hf
  obtain ⟨base,cap,hc,_,_⟩:=hv'
  have hc':v = .slice base 0 cap:=by simpa using hc
  subst hc'
  refine (h2 base cap w).mono ?_
  rintro e' w' ⟨b,rfl,hb⟩
  exact ⟨_,fun _ _=>False,rfl,hb,fun _ _ hf=>hf.elim,e,[],rfl,.inl ⟨rfl,b,rfl⟩⟩
 | cons a l =>
  exact h1.ct w I vals (a :: l,()) hw hI hargs (by simpa using hd')
theorem C1.run (x:List (Ty.den (.int .i64))):runFn ⟨T,sigL [],inlL [],annL [],[],primL [],globL⟩ Go.Proofs.Tryz.f170 [.slice (.int .i64)] [.slice (.int .i64)] true (fun _ _ _=>none) (x,()) =
  (bif decide (0 < List.length x) then (bif decide ((0 + List.length x) * 8 ≤ 140737488355328) && decide (0 + List.length x ≤ lim) then some (x,()) else none) else none):=by kernel_rfl
theorem C1.empty (base:Option Addr) (cap:Nat) (w:World) :
  Calls Go.Proofs.Tryz.prog 170 #[.slice base 0 cap] w fun e w'=>∃ b,e = .returned (.slice b 0 0) ∧ Below w.heap.size w w':=by
 have k:=eql_nil 23 3 Go.Proofs.Tryz.underlying23
 cases base with
 | none =>
  go_enter Go.Proofs.Tryz.func170,Go.Proofs.Tryz.ntmps170
  go_wp2
  go_ret
  exact ⟨_,rfl,Below.refl _ _⟩
 | some b =>
  go_enter Go.Proofs.Tryz.func170,Go.Proofs.Tryz.ntmps170
  go_wp2
  go_ret
  exact ⟨_,rfl,(Below.refl _ w).alloc (Nat.le_refl _) _⟩
theorem C1.told (h:Base0):Told 170 C1.sg:=by
 refine B74 (Told.weaken (T5 h fn170 (l:=[]) (il:=[]) (pl:=[]) (an:=annL []) (fns:=[]) (args:=[.slice (.int .i64)]) (res:=[.slice (.int .i64)]) (fresh:=true)
  (raw:=fun x=>bif decide (0 < List.length x.1) then (bif decide ((0 + List.length x.1) * 8 ≤ 140737488355328) && decide (0 + List.length x.1 ≤ lim) then some (x.1,()) else none) else none)
  trivial trivial trivial (L:=fun _ _ _ _=>none) a14 (fun x=>C1.run x.1)) fun x hx=>?_) C1.empty
 obtain ⟨x,xe⟩:=x
 cases xe
 have hx':=Bool.and_eq_true _ _ ▸ hx
 have h0:0 < List.length x:=of_decide_eq_true hx'.1
 have h1:List.length x ≤ 1073741824:=of_decide_eq_true hx'.2
 have e:(bif decide (0 < List.length x) then (bif decide ((0 + List.length x) * 8 ≤ 140737488355328) && decide (0 + List.length x ≤ lim) then some (x,()) else none) else (none:Option (Args [.slice (.int .i64)]))) = some (x,()):=by
  have a1:decide (0 < List.length x) = true:=decide_eq_true h0
  have a2:decide ((0 + List.length x) * 8 ≤ 140737488355328) = true:=decide_eq_true (by omega)
  have a3:decide (0 + List.length x ≤ lim) = true:=decide_eq_true (by unfold lim; omega)
  rw [a1,a2,a3]
  rfl
 exact ⟨by show (Option.isSome (bif _ then _ else none)) = true; rw [e]; rfl,by show Option.getD (bif _ then _ else none) _ = _; rw [e]; rfl⟩
theorem R3.run (x:List (Ty.den (.int .u8))):runFn ⟨T,sigL [],inlL [],annL [],[],primL [],globL⟩ Go.Proofs.Tryz.f155 [.slice (.int .u8)] [.slice (.int .u8)] true (fun _ _ _=>none) (x,()) =
  (bif decide (0 < List.length x) then (bif decide ((0 + List.length x) * 1 ≤ 140737488355328) && decide (0 + List.length x ≤ lim) then some (x,()) else none) else none):=by kernel_rfl
theorem R3.empty (base:Option Addr) (cap:Nat) (w:World) :
  Calls Go.Proofs.Tryz.prog 155 #[.slice base 0 cap] w fun e w'=>∃ b,e = .returned (.slice b 0 0) ∧ Below w.heap.size w w':=by
 have k:=eql_nil 22 5 Go.Proofs.Tryz.underlying22
 cases base with
 | none =>
  go_enter Go.Proofs.Tryz.func155,Go.Proofs.Tryz.ntmps155
  go_wp2
  go_ret
  exact ⟨_,rfl,Below.refl _ _⟩
 | some b =>
  go_enter Go.Proofs.Tryz.func155,Go.Proofs.Tryz.ntmps155
  go_wp2
  go_ret
  exact ⟨_,rfl,(Below.refl _ w).alloc (Nat.le_refl _) _⟩
theorem R3.told (h:Base0):Told 155 R3.sg:=by
 refine B74 (Told.weaken (T5 h fn155 (l:=[]) (il:=[]) (pl:=[]) (an:=annL []) (fns:=[]) (args:=[.slice (.int .u8)]) (res:=[.slice (.int .u8)]) (fresh:=true)
  (raw:=fun x=>bif decide (0 < List.length x.1) then (bif decide ((0 + List.length x.1) * 1 ≤ 140737488355328) && decide (0 + List.length x.1 ≤ lim) then some (x.1,()) else none) else none)
  trivial trivial trivial (L:=fun _ _ _ _=>none) a14 (fun x=>R3.run x.1)) fun x hx=>?_) R3.empty
 obtain ⟨x,xe⟩:=x
 cases xe
 have hx':=Bool.and_eq_true _ _ ▸ hx
 have h0:0 < List.length x:=of_decide_eq_true hx'.1
 have h1:List.length x ≤ 1073741824:=of_decide_eq_true hx'.2
 have e:(bif decide (0 < List.length x) then (bif decide ((0 + List.length x) * 1 ≤ 140737488355328) && decide (0 + List.length x ≤ lim) then some (x,()) else none) else (none:Option (Args [.slice (.int .u8)]))) = some (x,()):=by
  have a1:decide (0 < List.length x) = true:=decide_eq_true h0
  have a2:decide ((0 + List.length x) * 1 ≤ 140737488355328) = true:=decide_eq_true (by omega)
  have a3:decide (0 + List.length x ≤ lim) = true:=decide_eq_true (by unfold lim; omega)
  rw [a1,a2,a3]
  rfl
 exact ⟨by show (Option.isSome (bif _ then _ else none)) = true; rw [e]; rfl,by show Option.getD (bif _ then _ else none) _ = _; rw [e]; rfl⟩
theorem T9.run (x:List (Ty.den a52)):runFn ⟨T,sigL [],inlL [],annL [],[],primL [],globL⟩ Go.Proofs.Tryz.f84 [.slice a52] [.slice a52] true (fun _ _ _=>none) (x,()) =
  (bif decide (0 < List.length x) then (bif decide ((0 + List.length x) * 1120 ≤ 140737488355328) && decide (0 + List.length x ≤ lim) then some (x,()) else none) else none):=by kernel_rfl
theorem T9.empty (base:Option Addr) (cap:Nat) (w:World) :
  Calls Go.Proofs.Tryz.prog 84 #[.slice base 0 cap] w fun e w'=>∃ b,e = .returned (.slice b 0 0) ∧ Below w.heap.size w w':=by
 have k:=eql_nil 80 129 Go.Proofs.Tryz.underlying80
 cases base with
 | none =>
  go_enter Go.Proofs.Tryz.func84,Go.Proofs.Tryz.ntmps84
  go_wp2
  go_ret
  exact ⟨_,rfl,Below.refl _ _⟩
 | some b =>
  go_enter Go.Proofs.Tryz.func84,Go.Proofs.Tryz.ntmps84
  go_wp2
  go_ret
  exact ⟨_,rfl,(Below.refl _ w).alloc (Nat.le_refl _) _⟩
def N1.raw0 (x0:(Ty.den X1)):Option (Args [.bool]):=bif !x0.1 then (none) else (bif x0.2.1 == (14:Int) then (bif x0.2.2.1 then (some ((!x0.2.2.2.1,()))) else (some ((false,())))) else (bif x0.2.1 == (4:Int) then (some ((!x0.2.2.2.1,()))) else (bif x0.2.1 == (5:Int) then (some ((!x0.2.2.2.1,()))) else (bif x0.2.1 == (6:Int) then (some ((!x0.2.2.1,()))) else (bif decide (x0.2.1 ≥ (0:Int)) then (bif decide (x0.2.1 ≤ (14:Int)) then (bif !x0.2.2.1 then (some ((!x0.2.2.2.1,()))) else (some ((false,())))) else (some ((false,())))) else (some ((false,()))))))))
theorem N1.run (x0:(Ty.den X1)):runFn ⟨T,sigL [],inlL [],annL [],[],primL [],globL⟩ Go.Proofs.Tryz.f184 [X1] [.bool] false (fun _ _ _=>none) (x0,()) = N1.raw0 x0:=by kernel_rfl
theorem N1.off (k:Int) (p o:Bool) (w:World) :
  Calls Go.Proofs.Tryz.prog 184 #[.agg #[.bool false,.int .i64 k,.bool p,.bool o]] w fun e w'=>e = .returned (.bool (k == 0 && !p && !o)) ∧ Below w.heap.size w w':=by
 go_enter Go.Proofs.Tryz.func184,Go.Proofs.Tryz.ntmps184
 go_wp2
 all_goals
  go_ret
  refine ⟨?_,(Below.refl _ w).alloc (Nat.le_refl _) _⟩
  simp_all
theorem cond_pt (c a b:Bool):(bif c then some ((a,()):Bool × Unit) else some ((b,()):Bool × Unit)) = some ((bif c then a else b,()):Bool × Unit):=by cases c <;> rfl
theorem N1.told (h:Base0):Told 184 N1.sg:=by
 have h1:Told 184 ⟨[X1],[.bool],false,fun x=>x.1.1,fun x=>N1.val x.1⟩:=by
  refine Told.weaken (T5 h fn184 (l:=[]) (il:=[]) (pl:=[]) (an:=annL []) (fns:=[]) (args:=[X1]) (res:=[.bool]) (fresh:=false)
   (raw:=fun x=>N1.raw0 x.1) trivial trivial trivial (L:=fun _ _ _ _=>none) a14 (fun x=>N1.run x.1)) fun x hx=>?_
  have e:N1.raw0 x.1 = some (N1.val x.1):=by
   have hx':x.1.1 = true:=hx
   unfold N1.raw0 N1.val N1.is
   rw [hx']
   simp only [Bool.not_true,cond_false]
   simp only [cond_pt]
  exact ⟨by show (N1.raw0 x.1).isSome = true; rw [e]; rfl,by show (N1.raw0 x.1).getD _ = _; rw [e]; rfl⟩
 refine ⟨fun w I vals x hw hI hargs hd=>?_,h1.en⟩
 obtain ⟨⟨s,k,p,o,u⟩,xe⟩:=x
 cases xe
 cases s with
 | true=>exact h1.ct w I vals ((true,k,p,o,u),()) hw hI hargs rfl
 | false =>
  obtain ⟨v,vs,rfl,hv,hvs⟩:=hargs
  have hvs':vs = []:=hvs
  subst hvs'
  have hv':v = .agg #[.bool false,.int .i64 k,.bool p,.bool o]:=by
   rcases hv with ⟨hf,_⟩ | ⟨_,cs,rfl,hr⟩
   ·cases hf
   ·obtain ⟨c1,d1,e1,rfl,c2,d2,rfl,rfl,c3,d3,rfl,rfl,c4,d4,rfl,rfl,rfl⟩:=hr
    congr 1
    exact Array.ext' e1
  subst hv'
  refine (N1.off k p o w).mono ?_
  rintro e' w' ⟨rfl,hb⟩
  exact ⟨_,fun _ _=>False,rfl,hb,fun _ _ hf=>hf.elim,.inl ⟨rfl,rfl⟩⟩
end Pt
end
section
namespace Go.Proofs
open Go.Shelf
def Tryz.lays145_ren:Go.Shelf.Ren:=⟨fun | 145=>197 | 220=>224 | 219=>248 | 217=>275 | 225=>276 | 224=>277 | 267=>278 | 266=>303 | 314=>304 | n=>n,fun | 9=>9 | 4=>4 | 59=>237 | 3=>3 | 5=>5 | 46=>156 | 146=>323 | 51=>215 | n=>n,fun | 1=>2 | n=>n⟩
theorem Tryz.lays145:Go.Proofs.Lays.n145 Tryz.prog Tryz.lays145_ren:={
 mixed:=by kernel_rfl
 f145:=Tryz.func197.trans (congrArg some (by kernel_rfl))
 f217:=Tryz.func275.trans (congrArg some (by kernel_rfl))
 f219:=Tryz.func248.trans (congrArg some (by kernel_rfl))
 f220:=Tryz.func224.trans (congrArg some (by kernel_rfl))
 f224:=Tryz.func277.trans (congrArg some (by kernel_rfl))
 f225:=Tryz.func276.trans (congrArg some (by kernel_rfl))
 f266:=Tryz.func303.trans (congrArg some (by kernel_rfl))
 f267:=Tryz.func278.trans (congrArg some (by kernel_rfl))
 f314:=Tryz.func304.trans (congrArg some (by kernel_rfl))
 t3:=Tryz.underlying3
 a3:=Tryz.isAgg3
 z3:=Tryz.sizeOf3
 v3:=Tryz.zeroValue3
 t4:=Tryz.underlying4
 a4:=Tryz.isAgg4
 z4:=Tryz.sizeOf4
 v4:=Tryz.zeroValue4
 t5:=Tryz.underlying5
 a5:=Tryz.isAgg5
 z5:=Tryz.sizeOf5
 v5:=Tryz.zeroValue5
 t9:=Tryz.underlying9
 a9:=Tryz.isAgg9
 z9:=Tryz.sizeOf9
 v9:=Tryz.zeroValue9
 t46:=Tryz.underlying156
 a46:=Tryz.isAgg156
 z46:=Tryz.sizeOf156
 v46:=Tryz.zeroValue156
 t51:=Tryz.underlying215
 a51:=Tryz.isAgg215
 z51:=Tryz.sizeOf215
 v51:=Tryz.zeroValue215
 t59:=Tryz.underlying237
 a59:=Tryz.isAgg237
 z59:=Tryz.sizeOf237
 v59:=Tryz.zeroValue237
 t146:=Tryz.underlying323
 a146:=Tryz.isAgg323
 z146:=Tryz.sizeOf323
 v146:=Tryz.zeroValue323
 g1:=by kernel_rfl }
open Go.RowKit Go.Lib in
theorem Tryz.strings_Cut (s sep:ByteArray) (m:Int) (w:World) (hs:s.size < 4294967281) (hm:w.cell? ⟨2,0,none⟩ = some (.int .i64 m)) :
  Calls Tryz.prog 197 #[.string s,.string sep] w fun e w'=>e = .returned (.tuple #[.string ⟨(Lib.cut s.data.toList sep.data.toList).1.toArray⟩,.string ⟨(Lib.cut s.data.toList sep.data.toList).2.1.toArray⟩,.bool (Lib.cut s.data.toList sep.data.toList).2.2]) ∧ ∃ n,w' = w.drewN n:=Any.strings_Cut Tryz.lays145 s sep m w hs hm
def Tryz.lays146_ren:Go.Shelf.Ren:=⟨fun | 146=>228 | 221=>258 | 268=>290 | 138=>291 | 143=>292 | 195=>312 | 197=>204 | 218=>313 | 219=>248 | 260=>233 | 217=>275 | 225=>276 | 224=>277 | 267=>278 | 266=>303 | 314=>304 | n=>n,fun | 9=>9 | 31=>259 | 3=>3 | 4=>4 | 0=>0 | 105=>243 | 21=>21 | 5=>5 | 46=>156 | 119=>265 | 139=>268 | 138=>267 | 146=>323 | 51=>215 | n=>n,fun | 1=>2 | 3=>0 | 4=>1 | n=>n⟩
theorem Tryz.lays146:Go.Proofs.Lays.n146 Tryz.prog Tryz.lays146_ren:={
 mixed:=by kernel_rfl
 f138:=Tryz.func291.trans (congrArg some (by kernel_rfl))
 f143:=Tryz.func292.trans (congrArg some (by kernel_rfl))
 f146:=Tryz.func228.trans (congrArg some (by kernel_rfl))
 f195:=Tryz.func312.trans (congrArg some (by kernel_rfl))
 f197:=Tryz.func204.trans (congrArg some (by kernel_rfl))
 f217:=Tryz.func275.trans (congrArg some (by kernel_rfl))
 f218:=Tryz.func313.trans (congrArg some (by kernel_rfl))
 f219:=Tryz.func248.trans (congrArg some (by kernel_rfl))
 f221:=Tryz.func258.trans (congrArg some (by kernel_rfl))
 f224:=Tryz.func277.trans (congrArg some (by kernel_rfl))
 f225:=Tryz.func276.trans (congrArg some (by kernel_rfl))
 f260:=Tryz.func233.trans (congrArg some (by kernel_rfl))
 f266:=Tryz.func303.trans (congrArg some (by kernel_rfl))
 f267:=Tryz.func278.trans (congrArg some (by kernel_rfl))
 f268:=Tryz.func290.trans (congrArg some (by kernel_rfl))
 f314:=Tryz.func304.trans (congrArg some (by kernel_rfl))
 t0:=Tryz.underlying0
 a0:=Tryz.isAgg0
 z0:=Tryz.sizeOf0
 v0:=Tryz.zeroValue0
 t3:=Tryz.underlying3
 a3:=Tryz.isAgg3
 z3:=Tryz.sizeOf3
 v3:=Tryz.zeroValue3
 t4:=Tryz.underlying4
 a4:=Tryz.isAgg4
 z4:=Tryz.sizeOf4
 v4:=Tryz.zeroValue4
 t5:=Tryz.underlying5
 a5:=Tryz.isAgg5
 z5:=Tryz.sizeOf5
 v5:=Tryz.zeroValue5
 t9:=Tryz.underlying9
 a9:=Tryz.isAgg9
 z9:=Tryz.sizeOf9
 v9:=Tryz.zeroValue9
 t21:=Tryz.underlying21
 a21:=Tryz.isAgg21
 z21:=Tryz.sizeOf21
 v21:=Tryz.zeroValue21
 t31:=Tryz.underlying259
 a31:=Tryz.isAgg259
 z31:=Tryz.sizeOf259
 v31:=Tryz.zeroValue259
 t46:=Tryz.underlying156
 a46:=Tryz.isAgg156
 z46:=Tryz.sizeOf156
 v46:=Tryz.zeroValue156
 t51:=Tryz.underlying215
 a51:=Tryz.isAgg215
 z51:=Tryz.sizeOf215
 v51:=Tryz.zeroValue215
 t105:=Tryz.underlying243
 a105:=Tryz.isAgg243
 z105:=Tryz.sizeOf243
 v105:=Tryz.zeroValue243
 t119:=Tryz.underlying265
 a119:=Tryz.isAgg265
 z119:=Tryz.sizeOf265
 t138:=Tryz.underlying267
 a138:=Tryz.isAgg267
 z138:=Tryz.sizeOf267
 v138:=Tryz.zeroValue267
 t139:=Tryz.underlying268
 a139:=Tryz.isAgg268
 z139:=Tryz.sizeOf268
 v139:=Tryz.zeroValue268
 t146:=Tryz.underlying323
 a146:=Tryz.isAgg323
 z146:=Tryz.sizeOf323
 v146:=Tryz.zeroValue323
 g1:=by kernel_rfl
 g3:=by kernel_rfl
 g4:=by kernel_rfl }
open Go.RowKit Go.Lib in
theorem Tryz.strings_Split (s sep:ByteArray) (m:Int) (w:World) (hs:s.size < 4294967281) (hm:w.cell? ⟨2,0,none⟩ = some (.int .i64 m)) (h1:1 ≤ sep.size) :
  Calls Tryz.prog 228 #[.string s,.string sep] w fun e w' =>
   e = .returned (.slice (some ⟨w.heap.size,0,none⟩) (Lib.countB s sep + 1) (Lib.countB s sep + 1)) ∧ w' = w.alloc (.cells ((Lib.splitB sep 0 (Lib.countB s sep) s).map Value.string).toArray 9):=Any.strings_Split Tryz.lays146 (by kernel_rfl) s sep m w hs hm h1
def Tryz.lays105_ren:Go.Shelf.Ren:=⟨fun | 105=>227 | 212=>255 | 99=>256 | 165=>249 | 166=>250 | 170=>257 | 169=>124 | 263=>287 | 264=>288 | 206=>289 | 240=>145 | 241=>279 | 276=>165 | 277=>305 | n=>n,fun | 9=>9 | 3=>3 | 4=>4 | 20=>20 | 0=>0 | 46=>156 | 109=>298 | 5=>5 | 72=>165 | 76=>168 | 51=>215 | 146=>323 | 53=>303 | 148=>325 | 70=>163 | 37=>22 | 75=>167 | 127=>191 | 164=>213 | 80=>170 | n=>n,fun | n=>n⟩
theorem Tryz.lays105:Go.Proofs.Lays.n105 Tryz.prog Tryz.lays105_ren:={
 mixed:=by kernel_rfl
 f99:=Tryz.func256.trans (congrArg some (by kernel_rfl))
 f105:=Tryz.func227.trans (congrArg some (by kernel_rfl))
 f165:=Tryz.func249.trans (congrArg some (by kernel_rfl))
 f166:=Tryz.func250.trans (congrArg some (by kernel_rfl))
 f169:=Tryz.func124.trans (congrArg some (by kernel_rfl))
 f170:=Tryz.func257.trans (congrArg some (by kernel_rfl))
 f206:=Tryz.func289.trans (congrArg some (by kernel_rfl))
 f212:=Tryz.func255.trans (congrArg some (by kernel_rfl))
 f240:=Tryz.func145.trans (congrArg some (by kernel_rfl))
 f241:=Tryz.func279.trans (congrArg some (by kernel_rfl))
 f263:=Tryz.func287.trans (congrArg some (by kernel_rfl))
 f264:=Tryz.func288.trans (congrArg some (by kernel_rfl))
 f276:=Tryz.func165.trans (congrArg some (by kernel_rfl))
 f277:=Tryz.func305.trans (congrArg some (by kernel_rfl))
 t0:=Tryz.underlying0
 a0:=Tryz.isAgg0
 z0:=Tryz.sizeOf0
 v0:=Tryz.zeroValue0
 t3:=Tryz.underlying3
 a3:=Tryz.isAgg3
 z3:=Tryz.sizeOf3
 v3:=Tryz.zeroValue3
 t4:=Tryz.underlying4
 a4:=Tryz.isAgg4
 z4:=Tryz.sizeOf4
 v4:=Tryz.zeroValue4
 t5:=Tryz.underlying5
 a5:=Tryz.isAgg5
 z5:=Tryz.sizeOf5
 v5:=Tryz.zeroValue5
 t9:=Tryz.underlying9
 a9:=Tryz.isAgg9
 z9:=Tryz.sizeOf9
 v9:=Tryz.zeroValue9
 t20:=Tryz.underlying20
 a20:=Tryz.isAgg20
 z20:=Tryz.sizeOf20
 v20:=Tryz.zeroValue20
 t37:=Tryz.underlying22
 a37:=Tryz.isAgg22
 z37:=Tryz.sizeOf22
 v37:=Tryz.zeroValue22
 t46:=Tryz.underlying156
 a46:=Tryz.isAgg156
 z46:=Tryz.sizeOf156
 v46:=Tryz.zeroValue156
 t51:=Tryz.underlying215
 a51:=Tryz.isAgg215
 z51:=Tryz.sizeOf215
 v51:=Tryz.zeroValue215
 t53:=Tryz.underlying303
 a53:=Tryz.isAgg303
 z53:=Tryz.sizeOf303
 v53:=Tryz.zeroValue303
 t70:=Tryz.underlying163
 a70:=Tryz.isAgg163
 z70:=Tryz.sizeOf163
 v70:=Tryz.zeroValue163
 t72:=Tryz.underlying165
 a72:=Tryz.isAgg165
 z72:=Tryz.sizeOf165
 v72:=Tryz.zeroValue165
 t75:=Tryz.underlying167
 a75:=Tryz.isAgg167
 z75:=Tryz.sizeOf167
 v75:=Tryz.zeroValue167
 t76:=Tryz.underlying168
 a76:=Tryz.isAgg168
 z76:=Tryz.sizeOf168
 v76:=Tryz.zeroValue168
 t109:=Tryz.underlying298
 a109:=Tryz.isAgg298
 z109:=Tryz.sizeOf298
 v109:=Tryz.zeroValue298
 t127:=Tryz.underlying191
 a127:=Tryz.isAgg191
 z127:=Tryz.sizeOf191
 v127:=Tryz.zeroValue191
 t146:=Tryz.underlying323
 a146:=Tryz.isAgg323
 z146:=Tryz.sizeOf323
 v146:=Tryz.zeroValue323
 t148:=Tryz.underlying325
 a148:=Tryz.isAgg325
 z148:=Tryz.sizeOf325
 v148:=Tryz.zeroValue325
 t164:=Tryz.underlying213
 a164:=Tryz.isAgg213
 z164:=Tryz.sizeOf213
 v164:=Tryz.zeroValue213 }
theorem Tryz.Builder_Extra_105:Builder.Extra Tryz.prog Tryz.lays105_ren:={
 sizeBuilder:=by kernel_rfl
 liesBuilder:=by kernel_rfl
 t5:=Tryz.underlying5
 a5:=Tryz.isAgg5
 z5:=Tryz.sizeOf5
 v5:=Tryz.zeroValue5
 infoByte:=by kernel_rfl
 cellsByte:=by kernel_rfl
 sizeByte:=by kernel_rfl
 neB5:=by decide }
open Go.RowKit Go.Lib in
theorem Tryz.strings_Repeat (s:ByteArray) (c:Nat) (w:World) (hc:c ≤ 9223372036854775807) (hlen:s.size * c ≤ 140737488355328) :
  Calls Tryz.prog 227 #[.string s,.int .i64 c] w fun e w'=>e = .returned (.string ⟨(Lib.repeatL s.data.toList c).toArray⟩) ∧ Below w.heap.size w w':=Any.strings_Repeat Tryz.lays105 Tryz.Builder_Extra_105 s c w hc hlen
def Tryz.lays158_ren:Go.Shelf.Ren:=⟨fun | 158=>225 | 165=>249 | 166=>250 | 167=>251 | 169=>124 | 230=>252 | 203=>253 | 240=>145 | 241=>279 | 197=>204 | 118=>280 | 168=>123 | 270=>281 | 262=>282 | 276=>165 | 277=>305 | 260=>233 | 242=>146 | 313=>306 | 278=>166 | 274=>320 | 275=>321 | n=>n,fun | 9=>9 | 4=>4 | 3=>3 | 5=>5 | 72=>165 | 0=>0 | 76=>168 | 75=>167 | 107=>297 | 70=>163 | 20=>20 | 37=>22 | 127=>191 | 21=>21 | 105=>243 | 164=>213 | 162=>341 | 203=>339 | 119=>265 | 46=>156 | 139=>268 | 138=>267 | 51=>215 | 160=>351 | 208=>361 | 206=>359 | 80=>170 | n=>n,fun | 13=>3 | 3=>0 | 4=>1 | n=>n⟩
theorem Tryz.lays158:Go.Proofs.Lays.n158 Tryz.prog Tryz.lays158_ren:={
 mixed:=by kernel_rfl
 f118:=Tryz.func280.trans (congrArg some (by kernel_rfl))
 f158:=Tryz.func225.trans (congrArg some (by kernel_rfl))
 f165:=Tryz.func249.trans (congrArg some (by kernel_rfl))
 f166:=Tryz.func250.trans (congrArg some (by kernel_rfl))
 f167:=Tryz.func251.trans (congrArg some (by kernel_rfl))
 f168:=Tryz.func123.trans (congrArg some (by kernel_rfl))
 f169:=Tryz.func124.trans (congrArg some (by kernel_rfl))
 f197:=Tryz.func204.trans (congrArg some (by kernel_rfl))
 f203:=Tryz.func253.trans (congrArg some (by kernel_rfl))
 f230:=Tryz.func252.trans (congrArg some (by kernel_rfl))
 f240:=Tryz.func145.trans (congrArg some (by kernel_rfl))
 f241:=Tryz.func279.trans (congrArg some (by kernel_rfl))
 f242:=Tryz.func146.trans (congrArg some (by kernel_rfl))
 f260:=Tryz.func233.trans (congrArg some (by kernel_rfl))
 f262:=Tryz.func282.trans (congrArg some (by kernel_rfl))
 f270:=Tryz.func281.trans (congrArg some (by kernel_rfl))
 f274:=Tryz.func320.trans (congrArg some (by kernel_rfl))
 f275:=Tryz.func321.trans (congrArg some (by kernel_rfl))
 f276:=Tryz.func165.trans (congrArg some (by kernel_rfl))
 f277:=Tryz.func305.trans (congrArg some (by kernel_rfl))
 f278:=Tryz.func166.trans (congrArg some (by kernel_rfl))
 f313:=Tryz.func306.trans (congrArg some (by kernel_rfl))
 t0:=Tryz.underlying0
 a0:=Tryz.isAgg0
 z0:=Tryz.sizeOf0
 v0:=Tryz.zeroValue0
 t3:=Tryz.underlying3
 a3:=Tryz.isAgg3
 z3:=Tryz.sizeOf3
 v3:=Tryz.zeroValue3
 t4:=Tryz.underlying4
 a4:=Tryz.isAgg4
 z4:=Tryz.sizeOf4
 v4:=Tryz.zeroValue4
 t5:=Tryz.underlying5
 a5:=Tryz.isAgg5
 z5:=Tryz.sizeOf5
 v5:=Tryz.zeroValue5
 t9:=Tryz.underlying9
 a9:=Tryz.isAgg9
 z9:=Tryz.sizeOf9
 v9:=Tryz.zeroValue9
 t20:=Tryz.underlying20
 a20:=Tryz.isAgg20
 z20:=Tryz.sizeOf20
 v20:=Tryz.zeroValue20
 t21:=Tryz.underlying21
 a21:=Tryz.isAgg21
 z21:=Tryz.sizeOf21
 v21:=Tryz.zeroValue21
 t37:=Tryz.underlying22
 a37:=Tryz.isAgg22
 z37:=Tryz.sizeOf22
 v37:=Tryz.zeroValue22
 t46:=Tryz.underlying156
 a46:=Tryz.isAgg156
 z46:=Tryz.sizeOf156
 v46:=Tryz.zeroValue156
 t51:=Tryz.underlying215
 a51:=Tryz.isAgg215
 z51:=Tryz.sizeOf215
 v51:=Tryz.zeroValue215
 t70:=Tryz.underlying163
 a70:=Tryz.isAgg163
 z70:=Tryz.sizeOf163
 v70:=Tryz.zeroValue163
 t72:=Tryz.underlying165
 a72:=Tryz.isAgg165
 z72:=Tryz.sizeOf165
 v72:=Tryz.zeroValue165
 t75:=Tryz.underlying167
 a75:=Tryz.isAgg167
 z75:=Tryz.sizeOf167
 v75:=Tryz.zeroValue167
 t76:=Tryz.underlying168
 a76:=Tryz.isAgg168
 z76:=Tryz.sizeOf168
 v76:=Tryz.zeroValue168
 t105:=Tryz.underlying243
 a105:=Tryz.isAgg243
 z105:=Tryz.sizeOf243
 v105:=Tryz.zeroValue243
 t107:=Tryz.underlying297
 a107:=Tryz.isAgg297
 z107:=Tryz.sizeOf297
 v107:=Tryz.zeroValue297
 t119:=Tryz.underlying265
 a119:=Tryz.isAgg265
 z119:=Tryz.sizeOf265
 t127:=Tryz.underlying191
 a127:=Tryz.isAgg191
 z127:=Tryz.sizeOf191
 v127:=Tryz.zeroValue191
 t138:=Tryz.underlying267
 a138:=Tryz.isAgg267
 z138:=Tryz.sizeOf267
 v138:=Tryz.zeroValue267
 t139:=Tryz.underlying268
 a139:=Tryz.isAgg268
 z139:=Tryz.sizeOf268
 v139:=Tryz.zeroValue268
 t160:=Tryz.underlying351
 a160:=Tryz.isAgg351
 z160:=Tryz.sizeOf351
 v160:=Tryz.zeroValue351
 t162:=Tryz.underlying341
 a162:=Tryz.isAgg341
 z162:=Tryz.sizeOf341
 v162:=Tryz.zeroValue341
 t164:=Tryz.underlying213
 a164:=Tryz.isAgg213
 z164:=Tryz.sizeOf213
 v164:=Tryz.zeroValue213
 t203:=Tryz.underlying339
 a203:=Tryz.isAgg339
 z203:=Tryz.sizeOf339
 v203:=Tryz.zeroValue339
 t206:=Tryz.underlying359
 a206:=Tryz.isAgg359
 z206:=Tryz.sizeOf359
 v206:=Tryz.zeroValue359
 t208:=Tryz.underlying361
 a208:=Tryz.isAgg361
 z208:=Tryz.sizeOf361
 v208:=Tryz.zeroValue361
 g3:=by kernel_rfl
 g4:=by kernel_rfl
 g13:=by kernel_rfl }
theorem Tryz.Builder_Extra_158:Builder.Extra Tryz.prog Tryz.lays158_ren:={
 sizeBuilder:=by kernel_rfl
 liesBuilder:=by kernel_rfl
 t5:=Tryz.underlying5
 a5:=Tryz.isAgg5
 z5:=Tryz.sizeOf5
 v5:=Tryz.zeroValue5
 infoByte:=by kernel_rfl
 cellsByte:=by kernel_rfl
 sizeByte:=by kernel_rfl
 neB5:=by decide }
open Go.RowKit in
theorem Tryz.strings_ToUpper_ascii (s:ByteArray) (w:World) (hs:s.size ≤ 140737488355328) (hascii:∀ (j:Nat) (b:UInt8),s.data.toList[j]? = some b → b.toNat < 128) :
  Calls Tryz.prog 225 #[.string s] w fun e w'=>e = .returned (.string ⟨(Lib.toUpperA s.data.toList).toArray⟩) ∧ Below w.heap.size w w':=Any.strings_ToUpper_ascii Tryz.lays158 Tryz.Builder_Extra_158 s w hs hascii
def Tryz.lays169_ren:Go.Shelf.Ren:=⟨fun | 169=>124 | n=>n,fun | 70=>163 | 9=>9 | 0=>0 | 72=>165 | 37=>22 | 127=>191 | 3=>3 | 5=>5 | n=>n,fun | n=>n⟩
theorem Tryz.lays169:Go.Proofs.Lays.n169 Tryz.prog Tryz.lays169_ren:={
 mixed:=by kernel_rfl
 f169:=Tryz.func124.trans (congrArg some (by kernel_rfl))
 t0:=Tryz.underlying0
 a0:=Tryz.isAgg0
 z0:=Tryz.sizeOf0
 v0:=Tryz.zeroValue0
 t3:=Tryz.underlying3
 a3:=Tryz.isAgg3
 z3:=Tryz.sizeOf3
 v3:=Tryz.zeroValue3
 t9:=Tryz.underlying9
 a9:=Tryz.isAgg9
 z9:=Tryz.sizeOf9
 v9:=Tryz.zeroValue9
 t37:=Tryz.underlying22
 a37:=Tryz.isAgg22
 z37:=Tryz.sizeOf22
 v37:=Tryz.zeroValue22
 t70:=Tryz.underlying163
 a70:=Tryz.isAgg163
 z70:=Tryz.sizeOf163
 v70:=Tryz.zeroValue163
 t72:=Tryz.underlying165
 a72:=Tryz.isAgg165
 z72:=Tryz.sizeOf165
 v72:=Tryz.zeroValue165
 t127:=Tryz.underlying191
 a127:=Tryz.isAgg191
 z127:=Tryz.sizeOf191
 v127:=Tryz.zeroValue191 }
theorem Tryz.Builder_Extra_169:Builder.Extra Tryz.prog Tryz.lays169_ren:={
 sizeBuilder:=by kernel_rfl
 liesBuilder:=by kernel_rfl
 t5:=Tryz.underlying5
 a5:=Tryz.isAgg5
 z5:=Tryz.sizeOf5
 v5:=Tryz.zeroValue5
 infoByte:=by kernel_rfl
 cellsByte:=by kernel_rfl
 sizeByte:=by kernel_rfl
 neB5:=by decide }
open Go.RowKit in
theorem Tryz.Builder_String_any_k (B b:Nat) (l:List UInt8) (w:World) (h:Lib.IsBuilderF 165 5 B b (Lib.byteCells l) w) (hBw:B ≤ w.heap.size) :
  Calls Tryz.prog 124 #[.pointer (some ⟨b,0,none⟩)] w fun e w'=>e = .returned (.string ⟨l.toArray⟩) ∧ (Lib.IsBuilderF 165 5 B b (Lib.byteCells l) w' ∧ Below B w w' ∧ Lib.OthersKept 5 (some b) w w'):=Any.Builder_String_any_k Tryz.lays169 Tryz.Builder_Extra_169 B b l w h hBw
def Tryz.laysSlH10_f187_ren:Go.Shelf.Ren:=⟨fun | 10=>187 | 6=>217 | n=>n,fun | 22=>23 | 23=>3 | 25=>136 | 3=>3 | 4=>4 | 0=>0 | n=>n,fun | n=>n⟩
theorem Tryz.laysSlH10_f187:Go.Proofs.SlLaysH.n10 Tryz.prog Tryz.laysSlH10_f187_ren:={
 mixed:=by kernel_rfl
 f6:=⟨Tryz.f217.name,by decide,Tryz.func217.trans (congrArg some (by kernel_rfl))⟩
 f10:=⟨Tryz.f187.name,by decide,Tryz.func187.trans (congrArg some (by kernel_rfl))⟩
 t0:=Tryz.underlying0
 a0:=Tryz.isAgg0
 z0:=Tryz.sizeOf0
 v0:=Tryz.zeroValue0
 t3:=Tryz.underlying3
 a3:=Tryz.isAgg3
 z3:=Tryz.sizeOf3
 v3:=Tryz.zeroValue3
 t4:=Tryz.underlying4
 a4:=Tryz.isAgg4
 z4:=Tryz.sizeOf4
 v4:=Tryz.zeroValue4
 t22:=Tryz.underlying23
 a22:=Tryz.isAgg23
 z22:=Tryz.sizeOf23
 v22:=Tryz.zeroValue23
 a23:=Tryz.isAgg3
 z23:=Tryz.sizeOf3
 t25:=Tryz.underlying136
 a25:=Tryz.isAgg136
 z25:=Tryz.sizeOf136
 v25:=Tryz.zeroValue136 }
open Go.RowKit Go.Lib Go.Sort in
theorem Tryz.slices_DeleteFunc {α:Type} [Inhabited α] (enc:α → Value) (hO:OneCell enc) (p:α → Bool) (g:Nat) (lb:Array Value) (eg:∀ args w,(callFunc g args).run Tryz.prog w = .ok (.enter g args) w) (zr:α) (v23:∀ w,(zeroValue 3).run Tryz.prog w = .ok (enc zr) w) (blk off cap:Nat) (d:Array α) (w:World) (hp:PredAt Tryz.prog g lb enc p w) (hpo:PredOver Tryz.prog g lb enc p blk off d.size w) (hH:Holds enc w blk off d) (hsz:d.size ≤ 9223372036854775807) (hcap:d.size ≤ cap) :
  Calls Tryz.prog 187 #[.slice (some ⟨blk,off,none⟩) d.size cap,.func (.func g) #[] lb] w fun e w'=>e = .returned (.slice (some ⟨blk,off,none⟩) (d.toList.filter fun x=>!p x).length cap) ∧ ∃ q,w' = putRow enc (Sort.ahead w q) blk off ((d.toList.filter fun x=>!p x) ++ List.replicate (d.size - (d.toList.filter fun x=>!p x).length) zr).toArray:=AnyE.slices_DeleteFunc Tryz.laysSlH10_f187 enc hO p g lb eg zr v23 blk off cap d w hp hpo hH hsz hcap
theorem Tryz.lays168:Go.Proofs.Lays.n168 Tryz.prog Tryz.lays158_ren:={ Tryz.lays158 with }
end Go.Proofs
end
section
open Go Go.Am
open Go.RowKit (Below)
namespace Pt
theorem B52 {w:World} {I:Cells} {x:ByteArray} {v:Value} (h:RepV w I .str x v):v = .string x:=by
 rcases h with ⟨_,hv⟩ | ⟨hf,_⟩
 ·have h2:[v] = [.string x]:=hv
  simpa using h2
 ·cases hf
theorem int_of {w:World} {I:Cells} {k:IntKind} {x:Int} {v:Value} (h:RepV w I (.int k) x v):v = .int k x:=by
 rcases h with ⟨_,hv⟩ | ⟨hf,_⟩
 ·have h2:[v] = [.int k x]:=hv
  simpa using h2
 ·cases hf
theorem str_mk (w:World) (I:Cells) (x:ByteArray):RepV w I .str x (.string x):=.inl ⟨rfl,rfl⟩
theorem bool_mk (w:World) (I:Cells) (x:Bool):RepV w I .bool x (.bool x):=.inl ⟨rfl,rfl⟩
theorem strings_Cut.told:Told 197 strings_Cut.sg:=by
 refine ⟨fun w I vals x hw hI hargs hd=>?_,fn197.2⟩
 obtain ⟨s,sep,xe⟩:=x
 cases xe
 obtain ⟨v,vs,rfl,hv,v2,vs2,rfl,hv2,hvs⟩:=hargs
 have hvs':vs2 = []:=hvs
 subst hvs'
 have e1:=B52 hv
 have e2:=B52 hv2
 subst e1 e2
 have hd':decide (s.size < 4294967281) = true:=hd
 obtain ⟨m,hm⟩:=hw.max
 refine (Go.Proofs.Tryz.strings_Cut s sep m w (of_decide_eq_true hd') hm).mono ?_
 rintro e w' ⟨rfl,n,rfl⟩
 refine ⟨_,fun _ _=>False,rfl,Go.below_drewN (Below.refl _ w) n,fun _ _ hf=>hf.elim,?_⟩
 exact ⟨_,rfl,_,_,rfl,str_mk _ _ _,_,_,rfl,str_mk _ _ _,_,_,rfl,bool_mk _ _ _,rfl⟩
theorem M5.told:Told 225 M5.sg:=by
 refine ⟨fun w I vals x hw hI hargs hd=>?_,fn225.2⟩
 obtain ⟨s,xe⟩:=x
 cases xe
 obtain ⟨v,vs,rfl,hv,hvs⟩:=hargs
 have hvs':vs = []:=hvs
 subst hvs'
 have e1:=B52 hv
 subst e1
 have hd':=Bool.and_eq_true _ _ ▸ hd
 have h1:s.size ≤ 140737488355328:=of_decide_eq_true hd'.1
 have h2:(s.data.toList.all fun b=>decide (b.toNat < 128)) = true:=hd'.2
 refine (Go.Proofs.Tryz.strings_ToUpper_ascii s w h1 fun j b hj=>of_decide_eq_true (List.all_eq_true.1 h2 b (List.mem_of_getElem? hj))).mono ?_
 rintro e w' ⟨rfl,hb⟩
 exact ⟨_,fun _ _=>False,rfl,hb,fun _ _ hf=>hf.elim,str_mk _ _ _⟩
theorem strings_Repeat.told:Told 227 strings_Repeat.sg:=by
 refine ⟨fun w I vals x hw hI hargs hd=>?_,fn227.2⟩
 obtain ⟨s,c,xe⟩:=x
 cases xe
 obtain ⟨v,vs,rfl,hv,v2,vs2,rfl,hv2,hvs⟩:=hargs
 have hvs':vs2 = []:=hvs
 subst hvs'
 have e1:=B52 hv
 have e2:=int_of hv2
 subst e1 e2
 have hd':=Bool.and_eq_true _ _ ▸ hd
 have hd2:=Bool.and_eq_true _ _ ▸ hd'.1
 have h0:(0:Int) ≤ c:=of_decide_eq_true hd2.1
 have h1:c ≤ (9223372036854775807:Int):=of_decide_eq_true hd2.2
 have h2:s.size * Int.toNat c ≤ 140737488355328:=of_decide_eq_true hd'.2
 obtain ⟨n,rfl⟩:∃ n:Nat,c = (n:Int):=⟨Int.toNat c,(Int.toNat_of_nonneg h0).symm⟩
 have hn:n ≤ 9223372036854775807:=by
  have:(n:Int) ≤ 9223372036854775807:=h1
  omega
 refine (Go.Proofs.Tryz.strings_Repeat s n w hn h2).mono ?_
 rintro e w' ⟨rfl,hb⟩
 exact ⟨_,fun _ _=>False,rfl,hb,fun _ _ hf=>hf.elim,str_mk _ _ _⟩
theorem strs_rep (w:World) (I:Cells):∀ l:List ByteArray,RepLs (RepC w I .str) l (l.map Value.string)
 | []=>rfl
 | x :: l=>⟨[.string x],l.map Value.string,rfl,rfl,strs_rep w I l⟩
theorem splitK_len (sub:List UInt8) (hs:sub ≠ []):∀ (n:Nat) (s:List UInt8),s.length ≤ n → (Go.Lib.splitK sub 0 (Go.Lib.count s sub) s).length = Go.Lib.count s sub + 1:=by
 intro n
 induction n with
 | zero =>
  intro s hn
  have:s = []:=List.length_eq_zero_iff.1 (by omega)
  subst this
  have hi:Go.Lib.index [] sub = -1:=by
   cases sub with
   | nil=>exact absurd rfl hs
   | cons a l=>rfl
  rw [Go.Lib.count_miss hi]
  rfl
 | succ n ih =>
  intro s hn
  by_cases hi:Go.Lib.index s sub = -1
  ·rw [Go.Lib.count_miss hi]
   rfl
  ·have hge:=Go.Lib.index_ge s sub
   obtain ⟨i,hii⟩:∃ i:Nat,Go.Lib.index s sub = i:=⟨(Go.Lib.index s sub).toNat,by omega⟩
   have hsh:=Go.Lib.drop_shorter (s:=s) (sub:=sub) hs (by simpa using hi)
   rw [hii,Int.toNat_natCast] at hsh
   rw [Go.Lib.count_hit hs hii,Nat.add_comm 1]
   unfold Go.Lib.splitK
   have hne:(Go.Lib.index s sub == -1) = false:=beq_eq_false_iff_ne.2 hi
   rw [hne,hii,Int.toNat_natCast]
   simp only [Bool.false_eq_true,if_false,List.length_cons]
   rw [ih _ (by omega)]
theorem splitB_len (s sep:ByteArray) (h:1 ≤ sep.size):(Go.Lib.splitB sep 0 (Go.Lib.countB s sep) s).length = Go.Lib.countB s sep + 1:=by
 have h1:=congrArg List.length (Go.Lib.splitB_data sep 0 (Go.Lib.countB s sep) s)
 rw [List.length_map] at h1
 rw [h1]
 refine splitK_len _ ?_ _ s.data.toList (Nat.le_refl _)
 intro h0
 have:sep.data.toList.length = 0:=by rw [h0]; rfl
 have h2:sep.size = sep.data.toList.length:=rfl
 omega
theorem strings_Split.told:Told 228 strings_Split.sg:=by
 refine ⟨fun w I vals x hw hI hargs hd=>?_,fn228.2⟩
 obtain ⟨s,sep,xe⟩:=x
 cases xe
 obtain ⟨v,vs,rfl,hv,v2,vs2,rfl,hv2,hvs⟩:=hargs
 have hvs':vs2 = []:=hvs
 subst hvs'
 have e1:=B52 hv
 have e2:=B52 hv2
 subst e1 e2
 have hd':=Bool.and_eq_true _ _ ▸ hd
 have h1:s.size < 4294967281:=of_decide_eq_true hd'.1
 have h2:1 ≤ sep.size:=of_decide_eq_true hd'.2
 obtain ⟨m,hm⟩:=hw.max
 refine (Go.Proofs.Tryz.strings_Split s sep m w h1 hm h2).mono ?_
 rintro e w' ⟨rfl,rfl⟩
 have key:∀ L:List ByteArray,L.length = Go.Lib.countB s sep + 1 → RepV (w.alloc (.cells (L.map Value.string).toArray 9)) (orCells I fun b o=>b = w.heap.size ∧ o < L.length) (.slice .str) L (.slice (some ⟨w.heap.size,0,none⟩) (Go.Lib.countB s sep + 1) (Go.Lib.countB s sep + 1)):=by
  intro L hlen
  refine .inl ⟨rfl,some ⟨w.heap.size,0,none⟩,Go.Lib.countB s sep + 1,?_,?_,.inr ⟨_,_,L.map Value.string,rfl,strs_rep _ _ L,?_⟩⟩
  ·rw [hlen]
  ·omega
  ·intro j v hj
   have hjl:j < L.length:=by
    have:=(List.getElem?_eq_some_iff.1 hj).1
    rwa [List.length_map] at this
   refine ⟨.inr ⟨rfl,by omega⟩,?_⟩
   rw [Nat.zero_add,World.cell?_alloc_at (w:=w) _ _ w.heap.size j rfl]
   rw [List.getElem?_toArray]
   exact hj
 refine ⟨_,_,rfl,(Below.refl _ w).alloc (Nat.le_refl _) _,fun b o hj=>?_,key _ (splitB_len s sep h2)⟩
 rw [hj.1]
 exact ⟨Nat.le_refl _,by rw [World.size_alloc]; omega⟩
end Pt
end
section
open Go Go.Am
namespace Pt
theorem a94.told (h:Base0):Told B46 a94.sg:=by
 have t:=T5 h fn198 (l:=[]) (il:=[]) (pl:=[]) (an:=annL []) (fns:=[]) (args:=[]) (res:=[.str]) (fresh:=false) (raw:=fun _=>some (tabB,()))
  trivial trivial trivial (L:=fun _ _ _ _=>none) a14 (fun _=>by kernel_rfl)
 exact t.weaken fun x hx=>⟨rfl,rfl⟩
end Pt
end
section
open Go Go.Am
open Go.RowKit (Below)
namespace Pt
theorem B41 {w:World} {b:Nat} {c:Array Value} {el:TypeId} (hb:w.heap[b]? = some (.cells c el (0,0))) (o:Nat) (v:Value) :
  w.setCell ⟨b,o,none⟩ v = w.setRow b (c.setIfInBounds o v):=by
 unfold World.setCell World.setRow
 congr 1
 apply Array.ext_getElem?
 intro g
 simp only [Array.getElem?_modify]
 by_cases h:b = g
 ·subst h; simp [hb]
 ·simp [h]
theorem w97 (w:World) (b:Nat) (c1 c2:Array Value):(w.setRow b c1).setRow b c2 = w.setRow b c2:=by
 unfold World.setRow
 congr 1
 apply Array.ext_getElem?
 intro g
 simp only [Array.getElem?_modify]
 by_cases h:b = g
 ·subst h
  simp only [if_true,Option.map_map]
  congr 1
  funext o
  cases o <;> rfl
 ·simp [h]
theorem C40 {w:World} {b:Nat} {c:Array Value} {el:TypeId} (hb:w.heap[b]? = some (.cells c el (0,0))):w.setRow b c = w:=by
 have h1:(w.setRow b c).heap = w.heap:=by
  unfold World.setRow
  apply Array.ext_getElem?
  intro g
  simp only [Array.getElem?_modify]
  by_cases h:b = g
  ·subst h; simp [hb]
  ·simp [h]
 have h2:w.setRow b c = { w with heap:=(w.setRow b c).heap }:=rfl
 rw [h2,h1]
theorem a98 {b:Nat} {el:TypeId}:∀ (vs:List Value) (o:Nat) {c:Array Value} {w:World},w.heap[b]? = some (.cells c el (0,0)) → w.setCells b o vs = w.setRow b (putAll c.toList o vs).toArray
 | [],o,c,w,hb=>by simp only [World.setCells,putAll,Array.toArray_toList]; exact (C40 hb).symm
 | v :: r,o,c,w,hb=>by
  simp only [World.setCells,putAll]
  rw [B41 hb,a98 r (o + 1) (setRow_heap w b c _ el (0,0) hb),w97,Array.toList_setIfInBounds]
theorem C21 (w:World) (c c2:Array Value) (el:TypeId):(w.alloc (.cells c el)).setRow w.heap.size c2 = w.alloc (.cells c2 el):=by
 unfold World.setRow World.alloc
 congr 1
 apply Array.ext_getElem?
 intro g
 simp only [Array.getElem?_modify,Array.getElem?_push]
 by_cases h:w.heap.size = g
 ·subst h; simp
 ·simp only [if_neg h,if_neg (fun e=>h (Eq.symm e))]
theorem ints_of {k:IntKind} {w:World} {I:Cells}:∀ {l:List Int} {vs:List Value},RepLs (RepC w I (.int k)) l vs → vs = l.map (Value.int k)
 | [],_,h=>h
 | n :: l,_,⟨a,b,h,h1,h2⟩=>by
  subst h
  rw [ints_of h2,show a = [Value.int k n] from h1]
  rfl
theorem B71 {k:IntKind} {w:World} {I:Cells}:∀ (l:List Int),RepLs (RepC w I (.int k)) l (l.map (Value.int k))
 | []=>rfl
 | n :: l=>⟨[.int k n],_,rfl,rfl,B71 l⟩
theorem ins_done {B:Nat} {w0:Base} {H:List Blk} {μ:Mu} {w:World} {I I1:Cells} {id:Nat} {vr:Nat} {l l2:List Int} {rs:List Nat} (x1:Ext H.length H μ w I (E3 H (shown H rs)) μ w I1)
  (hid1:(E3 H (shown H rs))[id]? = some (.row (.int .i64) true vr l)) {u':Value} {w':World} {μ':Mu}
  (k2:HeapRel B w0 ((E3 H (shown H rs)).set id (.row (.int .i64) true (vr + 1) l2)) μ' w' I1)
  (k3:Ext H.length (E3 H (shown H rs)) μ w I1 ((E3 H (shown H rs)).set id (.row (.int .i64) true (vr + 1) l2)) μ' w' I1)
  (k4:OwnRep (μ' id) (.int .i64) l2 u') (k5:∃ a n c,u' = .slice a n c) :
  Done B w0 H μ w I ⟨.sc (.own id (vr + 1)),shown H rs ++ [(id,.row (.int .i64) true (vr + 1) l2)]⟩ u' w':=by
 have hH:E3 H (shown H rs ++ [(id,.row (.int .i64) true (vr + 1) l2)]) = (E3 H (shown H rs)).set id (.row (.int .i64) true (vr + 1) l2):=by simp only [a57,E3]
 have hlt1:=(List.getElem?_eq_some_iff.1 hid1).1
 refine ⟨μ',I1,?_,?_,⟨.int .i64,true,vr + 1,l2,?_,Nat.le_refl _,fun _=>k4⟩,k5⟩
 ·rw [hH]; exact k2
 ·rw [hH]; exact x1.trans k3
 ·rw [hH]; exact a44 hlt1 _
theorem ins_new {B:Nat} {w0:Base} {H:List Blk} {μ:Mu} {w w1:World} {I I1:Cells} {id:Nat} {vr:Nat} {l l2:List Int} {rs:List Nat} (x1:Ext H.length H μ w I (E3 H (shown H rs)) μ w I1)
  (hid1:(E3 H (shown H rs))[id]? = some (.row (.int .i64) true vr l)) (rd:HeapRel B w0 (E3 H (shown H rs)) μ w1 I1) (xd:Ext H.length (E3 H (shown H rs)) μ w I1 (E3 H (shown H rs)) μ w1 I1)
  {c:Array Value} (el:TypeId) {cap:Nat} (htk:c.toList.take (l2.map (Value.int .i64)).length = l2.map (Value.int .i64)) (hsz:c.size = cap) (hl2:l2.length ≤ cap) (hcap:cap ≤ maxLen) :
  Done B w0 H μ w I ⟨.sc (.own id (vr + 1)),shown H rs ++ [(id,.row (.int .i64) true (vr + 1) l2)]⟩ (.slice (some ⟨w1.heap.size,0,none⟩) l2.length cap) (w1.alloc (.cells c el)):=by
 obtain ⟨m1,m2⟩:=rd.row_move (e:=.int .i64) hid1 (l2:=l2) (c:=c) el (B71 l2) htk (Nat.lt_succ_self vr)
 have hlen1:(E3 H (shown H rs)).length = H.length:=a55 _ _
 refine ins_done x1 hid1 m1 (xd.trans (m2.mono (Nat.le_of_eq hlen1.symm))) ?_ ⟨_,_,_,rfl⟩
 rw [Z4]
 exact ⟨cap,rfl,hl2,hcap,by rw [hsz]; exact Nat.mul_one _⟩
theorem ins_in {B:Nat} {w0:Base} {H:List Blk} {μ:Mu} {w w1:World} {I I1:Cells} {id:Nat} {vr:Nat} {l l2:List Int} {rs:List Nat} (x1:Ext H.length H μ w I (E3 H (shown H rs)) μ w I1)
  (hid1:(E3 H (shown H rs))[id]? = some (.row (.int .i64) true vr l)) (rd:HeapRel B w0 (E3 H (shown H rs)) μ w1 I1) (xd:Ext H.length (E3 H (shown H rs)) μ w I1 (E3 H (shown H rs)) μ w1 I1)
  {b n:Nat} (hμ:μ id = some (b,n)) {c c':Array Value} {el:TypeId} (hb:w1.heap[b]? = some (.cells c el (0,0))) {cap:Nat} (htk:c'.toList.take (l2.map (Value.int .i64)).length = l2.map (Value.int .i64))
  (hcn:cap * 1 = n) (hsz:c'.size = n) (hl2:l2.length ≤ cap) (hcap:cap ≤ maxLen) (hll:l.length ≤ l2.length) :
  Done B w0 H μ w I ⟨.sc (.own id (vr + 1)),shown H rs ++ [(id,.row (.int .i64) true (vr + 1) l2)]⟩ (.slice (some ⟨b,0,none⟩) l2.length cap) (w1.setRow b c'):=by
 have hno:∀ o,¬ I1 b o:=fun o ho=>by
  obtain ⟨e,v,l',q,_⟩:=(rd.imm b o ho).2 id _ n hid1 rfl hμ
  cases q
 obtain ⟨m1,m2⟩:=rd.row_write (e:=.int .i64) hid1 (l2:=l2) (vr2:=vr + 1) hμ hb hsz (B71 l2) htk (fun o ho=>absurd ho (hno o)) (Nat.le_succ _) (fun h=>by omega) hll
 have hlen1:(E3 H (shown H rs)).length = H.length:=a55 _ _
 refine ins_done x1 hid1 m1 (xd.trans (m2.mono (Nat.le_of_eq hlen1.symm))) ?_ ⟨_,_,_,rfl⟩
 rw [hμ]
 exact ⟨cap,rfl,hl2,hcap,hcn⟩
theorem w51 (l:List Int):∀ v ∈ l.map (Value.int .i64),v.oneCell' = true:=by
 intro v hv
 obtain ⟨x,_,rfl⟩:=List.mem_map.1 hv
 rfl
theorem shift_list (X D Y:List Value) (k:Nat) (hk:k ≤ X.length) (hr:X.length + Y.length ≤ (X ++ D).length) :
  (putAll (putAll (X ++ D) (k + Y.length) (X.drop k)) k Y).take (X.length + Y.length) = X.take k ++ Y ++ X.drop k:=by
 have hd:(X.drop k).length = X.length - k:=by simp
 rw [w21 (X.drop k) (X ++ D) (k + Y.length) (by rw [hd]; omega)]
 have hP:((X ++ D).take (k + Y.length)).length = k + Y.length:=by rw [List.length_take]; omega
 rw [w21 Y _ k (by simp only [List.length_append,List.length_take,List.length_drop] at *; omega)]
 generalize (X ++ D).drop (k + Y.length + (X.drop k).length) = R
 rw [List.append_assoc ((X ++ D).take (k + Y.length))]
 have e1:((X ++ D).take (k + Y.length) ++ (X.drop k ++ R)).take k = X.take k:=by
  rw [List.take_append_of_le_length (by omega),List.take_take,Nat.min_eq_left (by omega),List.take_append_of_le_length hk]
 have e2:((X ++ D).take (k + Y.length) ++ (X.drop k ++ R)).drop (k + Y.length) = X.drop k ++ R:=List.drop_left' hP
 rw [e1,e2,← List.append_assoc]
 exact List.take_left' (by simp only [List.length_append,List.length_take,List.length_drop]; omega)
theorem end_list (X D Y:List Value) (hr:X.length + Y.length ≤ (X ++ D).length) :
  (putAll (X ++ D) X.length Y).take (X.length + Y.length) = X ++ Y:=by
 rw [w21 Y _ _ hr,List.take_left' rfl]
 exact List.take_left' (by simp)
theorem grow_list (X Y Z1:List Value) (k:Nat) (hk:k ≤ X.length) (hz:Z1.length = X.length - k + Y.length) (Z2:List Value) :
  (putAll (putAll (X.take k ++ Z1 ++ Z2) k Y) (k + Y.length) (X.drop k)).take (X.length + Y.length) = X.take k ++ Y ++ X.drop k:=by
 have hd:(X.drop k).length = X.length - k:=by simp
 have hT:(X.take k).length = k:=by rw [List.length_take]; omega
 rw [w21 Y _ k (by simp only [List.length_append]; omega)]
 rw [List.append_assoc (X.take k) Z1 Z2]
 have e1:(X.take k ++ (Z1 ++ Z2)).take k = X.take k:=List.take_left' hT
 rw [e1]
 generalize hR:(X.take k ++ (Z1 ++ Z2)).drop (k + Y.length) = R
 have hRl:X.length - k ≤ R.length:=by
  rw [← hR,List.length_drop]
  simp only [List.length_append]
  omega
 have hP:(X.take k ++ Y).length = k + Y.length:=by rw [List.length_append,hT]
 rw [w21 (X.drop k) _ _ (by rw [List.length_append,hP,hd]; omega),List.take_left' hP]
 exact List.take_left' (by simp only [List.length_append,List.length_take,List.length_drop]; omega)
theorem ins_core {B:Nat} {w0:Base} {H:List Blk} {μ:Mu} {w:World} {I I1:Cells} {id:Nat} {vr:Nat} {l m:List Int} {rs:List Nat} (r1:HeapRel B w0 (E3 H (shown H rs)) μ w I1) (x1:Ext H.length H μ w I (E3 H (shown H rs)) μ w I1)
  (hid1:(E3 H (shown H rs))[id]? = some (.row (.int .i64) true vr l)) {v0:Value} (hown:OwnRep (μ id) (.int .i64) l v0) (hblk:BlkOk H μ w I id (.row (.int .i64) true vr l))
  {vb vc:Nat} {c2:Array Value} {el2:TypeId} (hc2:w.heap[vb]? = some (.cells c2 el2 (0,0))) (hvs:∀ j v,(List.map (Value.int .i64) m)[j]? = some v → w.cell? ⟨vb,0 + j,none⟩ = some v) (h3:0 < m.length)
  {k:Nat} (hk:k ≤ l.length) (hbig:(l.length + m.length) * 8 ≤ 140737488355328) (h5:l.length + m.length ≤ 1099511627776) (hvb:∀ b n,μ id = some (b,n) → vb ≠ b) :
  Calls Pg 203 [v0,.int .i64 k,.slice (some ⟨vb,0,none⟩) m.length vc].toArray w fun e w'=>∃ u,e = .returned u ∧ Done B w0 H μ w I ⟨.sc (.own id (vr + 1)),shown H rs ++ [(id,.row (.int .i64) true (vr + 1) (l.take k ++ m ++ l.drop k))]⟩ u w':=by
 have rd1:=r1.drew
 have xd1:Ext H.length (E3 H (shown H rs)) μ w I1 (E3 H (shown H rs)) μ w.drew I1:=Ext.drew _
 have hl2:(l.take k ++ m ++ l.drop k).length = l.length + m.length:=by simp; omega
 cases hμ:μ id with
 | none =>
  rw [hμ] at hown
  obtain ⟨rfl,base,rfl⟩:=hown
  have hk0:k = 0:=by simpa using hk
  subst hk0
  refine (Go.Proofs.Any2.slices_Insert_int_end_grow laysIns base 0 0 vb 0 m.length vc [] (m.map (Value.int .i64)) w h3 (Nat.le_refl _) (by omega) (by simpa using hbig) rfl (by simp) (fun _=>rfl) (fun _ _ _ _ hj=>by cases hj) hvs (w51 m)).mono ?_
  rintro e w' ⟨rfl,rfl⟩
  refine ⟨_,rfl,?_⟩
  have hge:=grownCap_ge w (0 + m.length) 0 (insRen.t 3)
  have hle:=grownCap_le_maxLen w (0 + m.length) 0 (insRen.t 3) (by unfold maxLen; simp at h5; omega)
  revert hge hle
  generalize grownCap w (0 + m.length) 0 (insRen.t 3) = g
  intro hge hle
  have:=ins_new (l2:=m) x1 hid1 rd1 xd1 (c:=([] ++ m.map (Value.int .i64)).toArray ++ Builtin.zeroCells (Value.int .i64 0).cells (g - (0 + m.length))) (insRen.t 3) (cap:=g)
   (by rw [Array.toList_append]; simp) (by rw [Array.size_append,size_zeroCells,show (Value.int .i64 0).cells.size = 1 from rfl]; simp; omega) (by omega) hle
  simpa using this
 | some p =>
  obtain ⟨b,n⟩:=p
  rw [hμ] at hown
  simp only [BlkOk,hμ] at hblk
  obtain ⟨cap,rfl,hlc,hcm,hcn⟩:=hown
  obtain ⟨c,el,us,hc,hsz,hls,htk⟩:=hblk
  have:=ints_of hls
  subst this
  have hvb':=hvb b n hμ
  have hcsz:c.size = cap:=by rw [hsz,← hcn]; exact Nat.mul_one _
  have hcs:∀ j v,(List.map (Value.int .i64) l)[j]? = some v → w.cell? ⟨b,0 + j,none⟩ = some v:=fun j v hj=>w26 hc j v (B10 htk hj)
  have hfz:∀ j,w.frozen? ⟨b,j,none⟩ = false:=fun j=>by
   simp only [World.frozen?,hc]
   simp
  have hfz2:∀ j,w.frozen? ⟨vb,j,none⟩ = false:=fun j=>by
   simp only [World.frozen?,hc2]
   simp
  have hcell:∀ j,j < cap → (w.cell? ⟨b,j,none⟩).isSome = true:=fun j hj=>by
   simp only [World.cell?,hc]
   simp [hcsz,hj]
  have hlong:(l.map (Value.int .i64)).length = l.length:=by simp
  have hmlong:(m.map (Value.int .i64)).length = m.length:=by simp
  have hc0:c.toList = l.map (Value.int .i64) ++ c.toList.drop l.length:=by
   have:=List.take_append_drop (l.map (Value.int .i64)).length c.toList
   rw [htk,hlong] at this
   exact this.symm
  have hcl:c.toList.length = cap:=by simpa using hcsz
  have hadd:∀ (j:Nat) (v:Value),w.cell? ⟨b,0 + j,none⟩ = some v → w.cell? ((⟨b,0,none⟩:Addr).add j) = some v:=fun j v h=>by
   rw [Nat.zero_add] at h
   cases j with
   | zero=>exact h
   | succ j=>simpa [Addr.add] using h
  unfold maxLen at hcm
  by_cases hroom:l.length + m.length ≤ cap
  ·by_cases hkl:k < l.length
   ·
    refine (Go.Proofs.Any2.slices_Insert_int_shift laysIns b 0 l.length cap k vb 0 m.length vc (l.map (Value.int .i64)) (m.map (Value.int .i64)) w hkl h3 hroom (by omega) hvb' hlong hmlong hcs (fun j hj=>by rw [Nat.zero_add]; exact hcell j (by omega)) (fun j _=>hfz _) hvs (w51 l) (w51 m)
     el2 el c2.size c.size (by simp [World.shape?,hc2]) (by simp [World.shape?,hc]) (by omega) (hfz2 _) (hfz2 _)).mono ?_
    rintro e w' ⟨rfl,rfl⟩
    refine ⟨_,rfl,?_⟩
    rw [a98 (w:=w.drew) (c:=c) (el:=el) _ _ hc,a98 (c:=_) (el:=el) _ _ (setRow_heap w.drew b c _ el (0,0) hc),w97]
    rw [← hl2]
    refine ins_in x1 hid1 rd1 xd1 hμ (w1:=w.drew) (c:=c) (el:=el) hc ?_ hcn ?_ (by rw [hl2]; exact hroom) (by unfold maxLen; exact hcm) (by omega)
    ·rw [List.length_map,hl2,List.map_append,List.map_append,List.map_take,List.map_drop]
     have q:=shift_list (l.map (Value.int .i64)) (c.toList.drop l.length) (m.map (Value.int .i64)) k (by rw [hlong]; exact hk) (by rw [← hc0,hlong,hmlong,hcl]; exact hroom)
     rw [← hc0,hlong,hmlong] at q
     simpa only [Nat.zero_add] using q
    ·rw [← hsz]
     simp [w13]
   ·have hkn:k = l.length:=by omega
    subst hkn
    refine (Go.Proofs.Any2.slices_Insert_int_end_room laysIns b 0 l.length cap vb 0 m.length vc (m.map (Value.int .i64)) w h3 hroom (by omega) hmlong (fun j hj=>hcell _ (by omega)) (fun j _=>hfz _) hvs (w51 m)).mono ?_
    rintro e w' ⟨rfl,rfl⟩
    refine ⟨_,rfl,?_⟩
    rw [a98 (c:=c) (el:=el) _ _ hc]
    rw [← hl2]
    refine ins_in x1 hid1 r1 (Ext.refl _ _ _ _ _) hμ (w1:=w) (c:=c) (el:=el) hc ?_ hcn ?_ (by rw [hl2]; exact hroom) (by unfold maxLen; exact hcm) (by omega)
    ·rw [List.length_map,hl2,List.take_length,List.drop_length,List.append_nil,List.map_append]
     have q:=end_list (l.map (Value.int .i64)) (c.toList.drop l.length) (m.map (Value.int .i64)) (by rw [← hc0,hlong,hmlong,hcl]; exact hroom)
     rw [← hc0,hlong,hmlong] at q
     simpa only [Nat.zero_add] using q
    ·rw [← hsz]
     simp [w13]
  ·by_cases hkl:k < l.length
   ·refine (Go.Proofs.Any2.slices_Insert_int_grow laysIns b 0 l.length cap k vb 0 m.length vc (l.map (Value.int .i64)) (m.map (Value.int .i64)) w hkl h3 hlc (by omega) hbig hlong hmlong hcs hvs (w51 l) (w51 m)).mono ?_
    rintro e w' ⟨rfl,rfl⟩
    refine ⟨_,rfl,?_⟩
    have hge:=grownCap_ge w (l.length + m.length) cap (insRen.t 3)
    have hle:=grownCap_le_maxLen w (l.length + m.length) cap (insRen.t 3) (by unfold maxLen; omega)
    revert hge hle
    generalize grownCap w (l.length + m.length) cap (insRen.t 3) = g
    intro hge hle
    rw [← hl2]
    have hw:∀ (C:Array Value) (el:TypeId),(((w.alloc (.cells C el)).drew.setCells w.heap.size k (m.map (Value.int .i64))).drew).setCells w.heap.size (k + m.length) ((l.map (Value.int .i64)).drop k) =
      w.drew.drew.alloc (.cells (putAll (putAll C.toList k (m.map (Value.int .i64))) (k + m.length) ((l.map (Value.int .i64)).drop k)).toArray el):=by
     intro C el
     have a1:(w.alloc (.cells C el)).drew = w.drew.alloc (.cells C el):=rfl
     have a2:w.heap.size = w.drew.heap.size:=rfl
     rw [a1,a2,a98 (c:=C) (el:=el) _ _ (heap_alloc_new w.drew _),C21]
     have a3:∀ C2:Array Value,(w.drew.alloc (.cells C2 el)).drew = w.drew.drew.alloc (.cells C2 el):=fun _=>rfl
     have a4:w.drew.heap.size = w.drew.drew.heap.size:=rfl
     rw [a3,a4,a98 (el:=el) _ _ (heap_alloc_new w.drew.drew _),C21]
    rw [hw]
    have rd2:=rd1.drew
    have xd2:Ext H.length (E3 H (shown H rs)) μ w I1 (E3 H (shown H rs)) μ w.drew.drew I1:=xd1.trans (Ext.drew _)
    refine ins_new x1 hid1 rd2 xd2 (w1:=w.drew.drew) (insRen.t 3) ?_ ?_ (by omega) hle
    ·rw [List.length_map,hl2,List.map_append,List.map_append,List.map_take,List.map_drop]
     have q:=grow_list (l.map (Value.int .i64)) (m.map (Value.int .i64)) (Builtin.zeroCells (Value.int .i64 0).cells (l.length + m.length - k)).toList k (by rw [hlong]; exact hk) (by rw [Array.length_toList,size_zeroCells,hlong,hmlong,show (Value.int .i64 0).cells.size = 1 from rfl]; omega) (Builtin.zeroCells (Value.int .i64 0).cells (g - (l.length + m.length))).toList
     rw [hlong,hmlong] at q
     simpa using q
    ·rw [List.size_toArray,w13,w13,Array.length_toList,Array.size_append,Array.size_append,size_zeroCells,size_zeroCells,show (Value.int .i64 0).cells.size = 1 from rfl]; simp; omega
   ·have hkn:k = l.length:=by omega
    subst hkn
    refine (Go.Proofs.Any2.slices_Insert_int_end_grow laysIns (some ⟨b,0,none⟩) l.length cap vb 0 m.length vc (l.map (Value.int .i64)) (m.map (Value.int .i64)) w h3 hlc (by omega) hbig hlong hmlong (fun h=>by cases h) (fun a ha j v hj=>by cases ha; exact hadd j v (hcs j v hj)) hvs (w51 m)).mono ?_
    rintro e w' ⟨rfl,rfl⟩
    refine ⟨_,rfl,?_⟩
    have hge:=grownCap_ge w (l.length + m.length) cap (insRen.t 3)
    have hle:=grownCap_le_maxLen w (l.length + m.length) cap (insRen.t 3) (by unfold maxLen; omega)
    revert hge hle
    generalize grownCap w (l.length + m.length) cap (insRen.t 3) = g
    intro hge hle
    rw [← hl2]
    refine ins_new x1 hid1 rd1 xd1 (w1:=w.drew) (insRen.t 3) ?_ ?_ (by omega) hle
    ·rw [List.take_length,List.drop_length,List.append_nil,Array.toList_append,List.map_append]
     exact List.take_left' rfl
    ·rw [Array.size_append,size_zeroCells,show (Value.int .i64 0).cells.size = 1 from rfl]; simp; omega
set_option maxHeartbeats 1000000 in
theorem primInsInt_ok:PrimOk Pg WI 203 B01:=by
 intro B w0 H μ w I nid av f vs hW hr hf h hv
 have h':(insA (.int .i64) H av).eval = some f:=h
 unfold insA at h'
 split at h'
 ·rename_i id ver i id2 ver2
  split at h'
  ·rename_i e2 vr l hid
   split at h'
   ·rename_i hc
    obtain ⟨rfl,hne⟩:=hc
    split at h'
    ·rename_i l' m hcl hm
     obtain ⟨hh,h2⟩:=a33 h'
     cases h2
     simp only [Bool.and_eq_true,decide_eq_true_eq] at hh
     obtain ⟨⟨⟨⟨h0,h1⟩,h3⟩,h4⟩,h5⟩:=hh
     obtain ⟨he,hll⟩:=cast?_some hcl
     cases he
     subst hll
     obtain ⟨v0,v1,v2,rfl,ha0,ha1,ha2⟩:∃ v0 v1 v2,vs = [v0,v1,v2] ∧ RepAV H μ w I (.one (.sc (.own id vr))) v0 ∧ RepAV H μ w I (.one (.sc (.lf (.int .i64) i))) v1 ∧ RepAV H μ w I (.one (.sc (.own id2 ver2))) v2:=by
      match vs,hv with
      | [v0,v1,v2],⟨q0,q1,q2,_⟩=>exact ⟨v0,v1,v2,rfl,q0,q1,q2⟩
     have e1:v1 = .int .i64 i:=w44 ha1
     subst e1
     obtain ⟨I1,r1,x1,s1,con1⟩:=HeapRel.shows (H0:=H) [id2] hr (Shows.refl H) rfl
     have hid1:(E3 H (shown H [id2]))[id]? = some (.row (.int .i64) true vr l'):=by rw [B33 (by simpa using hne)]; exact hid
     have rd1:=r1.drew
     have xd1:Ext H.length (E3 H (shown H [id2])) μ w I1 (E3 H (shown H [id2])) μ w.drew I1:=Ext.drew _
     simp only [fz] at hm
     split at hm
     ·rename_i e3 x3 vr3 m3 hid2
      split at hm
      ·rename_i hv3
       obtain ⟨he3,hm3⟩:=cast?_some hm
       cases he3
       subst hm3
       obtain ⟨⟨e4,x4,vr4,m4,g1,g2,g3⟩,_⟩:=ha2
       rw [hid2] at g1
       cases g1
       have hown2:=g3 hv3.symm
       have hb2:=hr.blk id2 _ hid2
       cases hμ2:μ id2 with
       | none =>
        rw [hμ2] at hown2
        have:=hown2.1
        subst this
        exact absurd h3 (by simp)
       | some p =>
        obtain ⟨vb,nb⟩:=p
        rw [hμ2] at hown2
        simp only [BlkOk,hμ2] at hb2
        obtain ⟨vc,rfl,hvl,hvc1,hvc2⟩:=hown2
        obtain ⟨c2,el2,us2,hc2,hsz2,hls2,htk2⟩:=hb2
        have:=ints_of hls2
        subst this
        have hvs:∀ j v,(List.map (Value.int .i64) m)[j]? = some v → w.cell? ⟨vb,0 + j,none⟩ = some v:=fun j v hj=>w26 hc2 j v (B10 htk2 hj)
        obtain ⟨⟨e5,x5,vr5,l5,g4,g5,g6⟩,_⟩:=ha0
        rw [hid] at g4
        cases g4
        have hown:=g6 rfl
        have hblk:=hr.blk id _ hid
        have hbig:(List.length l' + List.length m) * 8 ≤ 140737488355328:=by
         have:(List.length l' + List.length m) * 1 * 8 ≤ 70368744177664:=h4
         omega
        clear h' hv h
        obtain ⟨k,rfl⟩:∃ k:Nat,i = ((k:Nat):Int):=⟨Int.toNat i,(Int.toNat_of_nonneg h0).symm⟩
        have hk:k ≤ List.length l':=by
         have:(k:Int) ≤ ((List.length l':Nat):Int):=h1
         omega
        exact ins_core r1 x1 hid1 hown hblk hc2 hvs h3 hk hbig h5 (fun b n hb=>by
         have:=hr.inj id id2 _ _ b n nb hid hid2 rfl rfl hb
         intro e
         subst e
         exact hne (this hμ2))
      ·cases hm
     ·cases hm
    ·cases h'
   ·cases h'
  ·cases h'
 ·cases h'
end Pt
end
section
open Go Go.Am
open Go.RowKit Go.Maps
set_option maxRecDepth 100000
namespace Pt
theorem key3:Keyed Go.Proofs.Tryz.prog 3:=int_keyed Go.Proofs.Tryz.underlying3
def entryAt (n i:Nat) (p:Int × List Int):MapEntry:={ key:=.int .i64 p.1,val:=.slice (some ⟨n + 1 + i,0,none⟩) p.2.length p.2.length,born:=i }
structure Tab (w0:World) (k:Nat) (w:World):Prop where
 size:w.heap.size = w0.heap.size + 1 + k
 map:∃ es:Array MapEntry,w.heap[w0.heap.size]? = some (.map es k) ∧ es.size = k ∧ ∀ i,i < k → ∃ p,a56[i]? = some p ∧ es[i]? = some (entryAt w0.heap.size i p)
 row:∀ i,i < k → ∃ p,a56[i]? = some p ∧ w.heap[w0.heap.size + 1 + i]? = some (.cells (p.2.map (Value.int .i64)).toArray 3 (0,0))
 below:Below w0.heap.size w0 w
theorem C97:∀ i,i < 20 → ∀ j,j < 20 → i ≠ j → (a56[i]?.map (·.1)) ≠ (a56[j]?.map (·.1)):=by decide
theorem keys_wf:∀ i,i < 20 → ∃ p,a56[i]? = some p ∧ (Lit.int .i64 p.1).wf = true:=by
 have:∀ i,i < 20 → (a56[i]?.any fun p=>(Lit.int .i64 p.1).wf) = true:=by decide
 intro i hi
 have h:=this i hi
 cases e:a56[i]? with
 | none=>rw [e] at h; cases h
 | some p=>rw [e] at h; exact ⟨p,rfl,h⟩
theorem Tab.zero (w:World):Tab w 0 (w.alloc (.map #[] 0)) where
 size:=by simp
 map:=⟨#[],(MapKept.heap_alloc _ _).1,rfl,fun i hi=>absurd hi (by omega)⟩
 row:=fun i hi=>absurd hi (by omega)
 below:=(Below.refl _ w).alloc (Nat.le_refl _) _
theorem Tab.keys {w0:World} {k:Nat} {es:Array MapEntry} (hs:es.size = k) (hk:k ≤ 20) (he:∀ i,i < k → ∃ p,a56[i]? = some p ∧ es[i]? = some (entryAt w0.heap.size i p)) :
  ∀ e ∈ es.toList,∃ l,keyOf Go.Proofs.Tryz.prog 3 e.key = some l:=by
 intro e he'
 obtain ⟨i,hi,rfl⟩:=List.getElem_of_mem he'
 have hi':i < k:=by simpa [hs] using hi
 obtain ⟨p,h1,h2⟩:=he i hi'
 obtain ⟨p',h3,h4⟩:=keys_wf i (by omega)
 rw [h1] at h3
 cases h3
 have:es.toList[i] = entryAt w0.heap.size i p:=by
  have e1:es.toList[i]? = some (entryAt w0.heap.size i p):=by simpa using h2
  simpa [List.getElem?_eq_getElem hi] using e1
 rw [this]
 exact ⟨_,keyOf_int_mk Go.Proofs.Tryz.underlying3 h4⟩
theorem Tab.ins {w0:World} {k:Nat} {w:World} (h:Tab w0 k w) {key:Int} {l:List Int} {n m b:Nat} {arr:Array Value} (hp:a56[k]? = some (key,l)) (hk:k < 20)
  (hn:n = w0.heap.size) (hm:m = l.length) (harr:arr = (l.map (Value.int .i64)).toArray) (hb:b = w.heap.size) :
  ∃ w1,(Instr.mapUpdate 275 (.map (some n)) (.int .i64 key) (.slice (some ⟨b,0,none⟩) m m)).run Go.Proofs.Tryz.prog (w.alloc (.cells arr 3)) = .ok () w1 ∧ Tab w0 (k + 1) w1:=by
 subst hn hm harr hb
 obtain ⟨es,hes,hsz,hent⟩:=h.map
 have hsize:=h.size
 have halc:=MapKept.heap_alloc w (.cells (l.map (Value.int .i64)).toArray 3)
 have hes2:=(halc.2 w0.heap.size (by omega)).trans hes
 obtain ⟨p',hp',hwf⟩:=keys_wf k hk
 rw [hp] at hp'
 cases hp'
 have hkey:keyOf Go.Proofs.Tryz.prog 3 (.int .i64 key) = some (.int .i64 key):=keyOf_int_mk Go.Proofs.Tryz.underlying3 hwf
 have hck:=key3.check (w.alloc (.cells (l.map (Value.int .i64)).toArray 3)) false hkey
 have hfind:=key3.find (w.alloc (.cells (l.map (Value.int .i64)).toArray 3)) hkey es.toList (Tab.keys hsz (by omega) hent)
 have hno:(Instr.findKey 3 (.int .i64 key) es.toList).run Go.Proofs.Tryz.prog (w.alloc (.cells (l.map (Value.int .i64)).toArray 3)) = .ok none (w.alloc (.cells (l.map (Value.int .i64)).toArray 3)):=by
  rcases hfind with ⟨h1,_⟩ | ⟨j,e,_,he,hek⟩
  ·exact h1
  ·exfalso
   have hj:j < k:=by
    have:=(List.getElem?_eq_some_iff.1 he).1
    simpa [hsz] using this
   obtain ⟨p,q1,q2⟩:=hent j hj
   have:some e = some (entryAt w0.heap.size j p):=by rw [← he]; simpa using q2
   cases this
   have e2:p.1 = key:=by simpa [entryAt] using hek
   exact C97 j (by omega) k hk (by omega) (by rw [q1,hp]; simp [e2])
 refine ⟨_,by simp [Instr.mapUpdate,run_underlying Go.Proofs.Tryz.underlying275,MapKept.run_getObj_map hes2,hck,hno,MapKept.run_setObj_map _ hes2,Result.andThen]; rfl,?_⟩
 have hset:∀ (o:Obj) (r:Nat),r ≠ w0.heap.size → ((w.alloc (.cells (l.map (Value.int .i64)).toArray 3)).heap.setIfInBounds w0.heap.size o)[r]? = (w.alloc (.cells (l.map (Value.int .i64)).toArray 3)).heap[r]?:=by
  intro o r hr
  rw [Array.getElem?_setIfInBounds_ne (by omega)]
 constructor
 ·simp [hsize]; omega
 ·refine ⟨es.push { key:=.int .i64 key,val:=.slice (some ⟨w.heap.size,0,none⟩) l.length l.length,born:=k },?_,by simp [hsz],?_⟩
  ·show ((w.alloc (.cells (l.map (Value.int .i64)).toArray 3)).heap.setIfInBounds w0.heap.size _)[w0.heap.size]? = _
   rw [Array.getElem?_setIfInBounds_self_of_lt (by simp; omega)]
  ·intro i hi
   by_cases hik:i < k
   ·obtain ⟨p,q1,q2⟩:=hent i hik
    refine ⟨p,q1,?_⟩
    rw [Array.getElem?_push,if_neg (by omega)]
    exact q2
   ·have:i = k:=by omega
    subst this
    refine ⟨_,hp,?_⟩
    rw [Array.getElem?_push,if_pos (by omega)]
    simp [entryAt,hsize]
 ·intro i hi
  by_cases hik:i < k
  ·obtain ⟨p,q1,q2⟩:=h.row i hik
   refine ⟨p,q1,?_⟩
   refine (hset _ _ (by omega)).trans ?_
   exact (halc.2 _ (by omega)).trans q2
  ·have:i = k:=by omega
   subst this
   refine ⟨_,hp,?_⟩
   refine (hset _ _ (by omega)).trans ?_
   rw [show w0.heap.size + 1 + i = w.heap.size by omega]
   exact halc.1
 ·refine h.below.trans ⟨rfl,rfl,rfl,by simp,fun r hr=>?_⟩
  refine (hset _ r (by omega)).trans (halc.2 r (by omega))
set_option maxHeartbeats 4000000 in
theorem C08 (w:World):Calls Go.Proofs.Tryz.prog 239 #[] w fun e w'=>e = .returned (.map (some w.heap.size)) ∧ Tab w 20 w':=by
 have hmm:=@run_makeMap Go.Proofs.Tryz.prog
 go_enter Go.Proofs.Tryz.func239,Go.Proofs.Tryz.ntmps239
 go_wp2
 have t0:=Tab.zero w
 obtain ⟨W1,r1,t1⟩:=t0.ins (key:=181) (l:=[956]) (m:=1) (arr:=#[.int .i64 956]) (b:=w.heap.size + 1) rfl (by omega) rfl rfl rfl (by simp)
 rw [r1]
 clear r1 t0
 go_wp2
 obtain ⟨W2,r2,t2⟩:=t1.ins (key:=223) (l:=[115,115]) (m:=2) (arr:=#[.int .i64 115,.int .i64 115]) (b:=W1.heap.size) rfl (by omega) rfl rfl rfl (by simp)
 rw [r2]
 clear r2 t1
 go_wp2
 obtain ⟨W3,r3,t3⟩:=t2.ins (key:=304) (l:=[105,775]) (m:=2) (arr:=#[.int .i64 105,.int .i64 775]) (b:=W2.heap.size) rfl (by omega) rfl rfl rfl (by simp)
 rw [r3]
 clear r3 t2
 go_wp2
 obtain ⟨W4,r4,t4⟩:=t3.ins (key:=329) (l:=[700,110]) (m:=2) (arr:=#[.int .i64 700,.int .i64 110]) (b:=W3.heap.size) rfl (by omega) rfl rfl rfl (by simp)
 rw [r4]
 clear r4 t3
 go_wp2
 obtain ⟨W5,r5,t5⟩:=t4.ins (key:=376) (l:=[255]) (m:=1) (arr:=#[.int .i64 255]) (b:=W4.heap.size) rfl (by omega) rfl rfl rfl (by simp)
 rw [r5]
 clear r5 t4
 go_wp2
 obtain ⟨W6,r6,t6⟩:=t5.ins (key:=383) (l:=[115]) (m:=1) (arr:=#[.int .i64 115]) (b:=W5.heap.size) rfl (by omega) rfl rfl rfl (by simp)
 rw [r6]
 clear r6 t5
 go_wp2
 obtain ⟨W7,r7,t7⟩:=t6.ins (key:=422) (l:=[640]) (m:=1) (arr:=#[.int .i64 640]) (b:=W6.heap.size) rfl (by omega) rfl rfl rfl (by simp)
 rw [r7]
 clear r7 t6
 go_wp2
 obtain ⟨W8,r8,t8⟩:=t7.ins (key:=423) (l:=[424]) (m:=1) (arr:=#[.int .i64 424]) (b:=W7.heap.size) rfl (by omega) rfl rfl rfl (by simp)
 rw [r8]
 clear r8 t7
 go_wp2
 obtain ⟨W9,r9,t9⟩:=t8.ins (key:=425) (l:=[643]) (m:=1) (arr:=#[.int .i64 643]) (b:=W8.heap.size) rfl (by omega) rfl rfl rfl (by simp)
 rw [r9]
 clear r9 t8
 go_wp2
 obtain ⟨W10,r10,t10⟩:=t9.ins (key:=428) (l:=[429]) (m:=1) (arr:=#[.int .i64 429]) (b:=W9.heap.size) rfl (by omega) rfl rfl rfl (by simp)
 rw [r10]
 clear r10 t9
 go_wp2
 obtain ⟨W11,r11,t11⟩:=t10.ins (key:=430) (l:=[648]) (m:=1) (arr:=#[.int .i64 648]) (b:=W10.heap.size) rfl (by omega) rfl rfl rfl (by simp)
 rw [r11]
 clear r11 t10
 go_wp2
 obtain ⟨W12,r12,t12⟩:=t11.ins (key:=431) (l:=[432]) (m:=1) (arr:=#[.int .i64 432]) (b:=W11.heap.size) rfl (by omega) rfl rfl rfl (by simp)
 rw [r12]
 clear r12 t11
 go_wp2
 obtain ⟨W13,r13,t13⟩:=t12.ins (key:=837) (l:=[953]) (m:=1) (arr:=#[.int .i64 953]) (b:=W12.heap.size) rfl (by omega) rfl rfl rfl (by simp)
 rw [r13]
 clear r13 t12
 go_wp2
 obtain ⟨W14,r14,t14⟩:=t13.ins (key:=902) (l:=[940]) (m:=1) (arr:=#[.int .i64 940]) (b:=W13.heap.size) rfl (by omega) rfl rfl rfl (by simp)
 rw [r14]
 clear r14 t13
 go_wp2
 obtain ⟨W15,r15,t15⟩:=t14.ins (key:=908) (l:=[972]) (m:=1) (arr:=#[.int .i64 972]) (b:=W14.heap.size) rfl (by omega) rfl rfl rfl (by simp)
 rw [r15]
 clear r15 t14
 go_wp2
 obtain ⟨W16,r16,t16⟩:=t15.ins (key:=910) (l:=[973]) (m:=1) (arr:=#[.int .i64 973]) (b:=W15.heap.size) rfl (by omega) rfl rfl rfl (by simp)
 rw [r16]
 clear r16 t15
 go_wp2
 obtain ⟨W17,r17,t17⟩:=t16.ins (key:=911) (l:=[974]) (m:=1) (arr:=#[.int .i64 974]) (b:=W16.heap.size) rfl (by omega) rfl rfl rfl (by simp)
 rw [r17]
 clear r17 t16
 go_wp2
 obtain ⟨W18,r18,t18⟩:=t17.ins (key:=912) (l:=[953,776,769]) (m:=3) (arr:=#[.int .i64 953,.int .i64 776,.int .i64 769]) (b:=W17.heap.size) rfl (by omega) rfl rfl rfl (by simp)
 rw [r18]
 clear r18 t17
 go_wp2
 obtain ⟨W19,r19,t19⟩:=t18.ins (key:=944) (l:=[965,776,769]) (m:=3) (arr:=#[.int .i64 965,.int .i64 776,.int .i64 769]) (b:=W18.heap.size) rfl (by omega) rfl rfl rfl (by simp)
 rw [r19]
 clear r19 t18
 go_wp2
 obtain ⟨W20,r20,t20⟩:=t19.ins (key:=962) (l:=[963]) (m:=1) (arr:=#[.int .i64 963]) (b:=W19.heap.size) rfl (by omega) rfl rfl rfl (by simp)
 rw [r20]
 clear r20 t19
 go_wp2
 go_ret
 exact ⟨rfl,t20⟩
theorem zero23 (w:World):(zeroValue 23).run Go.Proofs.Tryz.prog w = .ok (.slice none 0 0) w:=by kernel_rfl
theorem find_none {α:Type} {p:α → Bool} {l:List α} (h:∀ (i:Nat) (x:α),l[i]? = some x → p x = false):l.find? p = none:=by
 rw [List.find?_eq_none]
 intro x hx
 obtain ⟨i,hi,rfl⟩:=List.getElem_of_mem hx
 rw [h i _ (List.getElem?_eq_getElem hi)]
 decide
theorem Tab.look {w0 w:World} (h:Tab w0 20 w) (r:Int) :
  (a56.find? (fun p=>p.1 == r) = none ∧ (Instr.lookup 275 (.map (some w0.heap.size)) (.int .i64 r) true).run Go.Proofs.Tryz.prog w = .ok (.tuple #[.slice none 0 0,.bool false]) w) ∨
  ∃ i p,i < 20 ∧ a56[i]? = some p ∧ a56.find? (fun p=>p.1 == r) = some p ∧
   (Instr.lookup 275 (.map (some w0.heap.size)) (.int .i64 r) true).run Go.Proofs.Tryz.prog w = .ok (.tuple #[.slice (some ⟨w0.heap.size + 1 + i,0,none⟩) p.2.length p.2.length,.bool true]) w:=by
 obtain ⟨es,hes,hsz,hent⟩:=h.map
 have hlen:a56.length = 20:=by decide
 have hik:∀ x ∈ es.toList,MapKept.IsKey (.int .i64) x.key:=by
  intro x hx
  obtain ⟨i,hi,rfl⟩:=List.getElem_of_mem hx
  have hi':i < 20:=by simpa [hsz] using hi
  obtain ⟨p,h1,h2⟩:=hent i hi'
  have:es.toList[i] = entryAt w0.heap.size i p:=by
   have e1:es.toList[i]? = some (entryAt w0.heap.size i p):=by simpa using h2
   simpa [List.getElem?_eq_getElem hi] using e1
  rw [this]
  exact rfl
 have hck:(Instr.checkKey es.isEmpty 10000 3 (.int .i64 r)).run Go.Proofs.Tryz.prog w = .ok () w:=MapKept.run_checkKey (k:=.int .i64 r) Go.Proofs.Tryz.underlying3 rfl _ 9999
 rcases MapKept.findNow_spec (d:=.int .i64) (k:=.int .i64 r) rfl es.toList 0 hik with ⟨h1,h2⟩ | ⟨j,e,h1,h2,h3⟩
 ·left
  have hf:(Instr.findKey 3 (.int .i64 r) es.toList).run Go.Proofs.Tryz.prog w = .ok none w:=MapKept.run_findKey Go.Proofs.Tryz.underlying3 h1
  refine ⟨find_none fun i p hp=>?_,?_⟩
  ·have hi:i < 20:=by rw [← hlen]; exact (List.getElem?_eq_some_iff.1 hp).1
   obtain ⟨p',q1,q2⟩:=hent i hi
   rw [hp] at q1
   cases q1
   have hm:entryAt w0.heap.size i p ∈ es.toList:=by
    have:es.toList[i]? = some (entryAt w0.heap.size i p):=by simpa using q2
    exact List.mem_of_getElem? this
   have:=h2 _ hm
   simp only [entryAt] at this
   by_cases e:p.1 = r
   ·exact absurd (by rw [e]) this
   ·simpa using e
  ·unfold Instr.lookup
   simp [run_underlying Go.Proofs.Tryz.underlying275,MapKept.run_getObj_map hes,hck,hf,Result.andThen]
 ·right
  have hf:(Instr.findKey 3 (.int .i64 r) es.toList).run Go.Proofs.Tryz.prog w = .ok (some (0 + j,e.val)) w:=MapKept.run_findKey Go.Proofs.Tryz.underlying3 h1
  have hj:j < 20:=by
   have:=(List.getElem?_eq_some_iff.1 h2).1
   simpa [hsz] using this
  obtain ⟨p,q1,q2⟩:=hent j hj
  have he:e = entryAt w0.heap.size j p:=by
   have:some e = some (entryAt w0.heap.size j p):=by rw [← h2]; simpa using q2
   simpa using this
  subst he
  have hr:p.1 = r:=by simpa [entryAt] using h3
  refine ⟨j,p,hj,q1,?_,?_⟩
  ·cases e:a56.find? (fun p=>p.1 == r) with
   | none =>
    have:=List.find?_eq_none.1 e p (List.mem_of_getElem? q1)
    exact absurd (by simpa using hr) this
   | some p' =>
    have m1:p' ∈ a56:=List.mem_of_find?_eq_some e
    have m2:p'.1 = r:=by simpa using List.find?_some e
    obtain ⟨i,hi,rfl⟩:=List.getElem_of_mem m1
    have hi2:=List.getElem?_eq_getElem hi
    by_cases hij:i = j
    ·subst hij
     rw [hi2] at q1
     exact q1
    ·exfalso
     refine C97 i (by omega) j hj hij ?_
     rw [hi2,q1]
     simp [m2,hr]
  ·simp [Instr.lookup,run_underlying Go.Proofs.Tryz.underlying275,MapKept.run_getObj_map hes,hck,hf,Result.andThen,entryAt]
def w53:Array Value:=(rulesL.flatMap fun x=>[.int .i64 x.1,.int .i64 x.2.1,.int .i64 x.2.2.1,.int .i64 x.2.2.2]).toArray
set_option maxHeartbeats 4000000 in
theorem rules_walk (w:World):Calls Go.Proofs.Tryz.prog 240 #[] w fun e w'=>e = .returned (.slice (some ⟨w.heap.size,0,none⟩) 13 13) ∧ w' = w.alloc (.cells w53 280):=by
 go_enter Go.Proofs.Tryz.func240,Go.Proofs.Tryz.ntmps240
 go_wp2
 go_ret
 exact ⟨rfl,rfl⟩
theorem rule_cells (k:Nat) (hk:k < 13):∃ x,rulesL[k]? = some x ∧ w53[4 * k]? = some (.int .i64 x.1) ∧ w53[4 * k + 1]? = some (.int .i64 x.2.1) ∧ w53[4 * k + 2]? = some (.int .i64 x.2.2.1) ∧ w53[4 * k + 3]? = some (.int .i64 x.2.2.2) ∧
  (x.2.2.1 = 1 ∨ x.2.2.1 = 2) ∧ 0 ≤ x.1 ∧ x.1 ≤ 10000 ∧ 0 ≤ x.2.1 ∧ x.2.1 ≤ 10000 ∧ 0 ≤ x.2.2.2 ∧ x.2.2.2 ≤ 100 ∧ rulesL.drop k = x :: rulesL.drop (k + 1):=by
 rcases k with _|_|_|_|_|_|_|_|_|_|_|_|_|k <;> first | omega | exact ⟨_,rfl,rfl,rfl,rfl,rfl,by decide,by decide,by decide,by decide,by decide,by decide,by decide,rfl⟩
theorem ruled_yes {r:Int} {x:Int × Int × Int × Int} {l:List (Int × Int × Int × Int)} (h:x.1 ≤ r ∧ r ≤ x.2.1 ∧ (r - x.1) % x.2.2.1 = 0):ruled r (x :: l) = [r + x.2.2.2]:=by
 unfold ruled
 simp [h.1,h.2.1,h.2.2]
theorem ruled_no {r:Int} {x:Int × Int × Int × Int} {l:List (Int × Int × Int × Int)} (h:¬ (x.1 ≤ r ∧ r ≤ x.2.1 ∧ (r - x.1) % x.2.2.1 = 0)):ruled r (x :: l) = ruled r l:=by
 rw [ruled]
 cases e:(decide (x.1 ≤ r) && decide (r ≤ x.2.1) && ((r - x.1) % x.2.2.1 == 0)) with
 | false=>rfl
 | true=>exact absurd (by simpa [and_assoc] using e) h
set_option maxHeartbeats 4000000 in
theorem fold_miss (r:Int) (hf:a56.find? (fun p=>p.1 == r) = none) (w:World) :
  Calls Go.Proofs.Tryz.prog 218 #[.int .i64 r] w fun e w'=>∃ b z,ruled r rulesL = [z] ∧ e = .returned (.slice (some ⟨b,0,none⟩) 1 1) ∧ w.heap.size ≤ b ∧ w'.heap[b]? = some (.cells #[.int .i64 z] 3 (0,0)) ∧ Below w.heap.size w w':=by
 go_enter Go.Proofs.Tryz.func218,Go.Proofs.Tryz.ntmps218
 go_wp2_with (first
  | (go_at_call 239; refine (C08 _).mono ?_; rintro e w1 ⟨rfl,ht⟩; have hlook:=ht.look r; rw [hf] at hlook; replace hlook:=hlook.resolve_right (by rintro ⟨_,_,_,_,hx,_⟩; cases hx); replace hlook:=hlook.2)
  | (go_at_call 240; refine (rules_walk _).mono ?_; rintro e w2 ⟨rfl,rfl⟩))
 go_loopw [18] (fun i wr=>∃ k:Nat,k ≤ 13 ∧ i = .int .i64 k ∧ ruled r rulesL = ruled r (rulesL.drop k) ∧ wr.heap[w1.heap.size]? = some (.cells w53 280 (0,0)) ∧ Below w.heap.size w wr ∧ w.heap.size ≤ wr.heap.size)
  (fun i _=>13 - (intOf i).toNat)
 case atStart =>
  have hsz:=ht.size
  exact ⟨0,Nat.zero_le _,rfl,rfl,(MapKept.heap_alloc _ _).1,ht.below.trans ((Below.refl _ w1).alloc (by omega) _),by simp; omega⟩
 case round =>
  obtain ⟨k,hk,rfl,hru,hrow,hbw,hsz⟩:=hrel
  by_cases hk13:k < 13
  ·obtain ⟨x,hx,h0,h1,h2,h3,hev,b0,b1,b2,b3,b4,b5,hdrop⟩:=rule_cells k hk13
   rw [hdrop] at hru
   have c0:wr.cell? ⟨w1.heap.size,k * 4,none⟩ = some (.int .i64 x.1):=by rw [Nat.mul_comm k 4]; simp [World.cell?,hrow,h0]
   have c1:wr.cell? ⟨w1.heap.size,k * 4 + 1,none⟩ = some (.int .i64 x.2.1):=by rw [Nat.mul_comm k 4]; simp [World.cell?,hrow,h1]
   have c2:wr.cell? ⟨w1.heap.size,k * 4 + 2,none⟩ = some (.int .i64 x.2.2.1):=by rw [Nat.mul_comm k 4]; simp [World.cell?,hrow,h2]
   have c3:wr.cell? ⟨w1.heap.size,k * 4 + 3,none⟩ = some (.int .i64 x.2.2.2):=by rw [Nat.mul_comm k 4]; simp [World.cell?,hrow,h3]
   clear h0 h1 h2 h3 hdrop hx
   go_wp2
   case roundEnd =>
    have hlt:=(Array.getElem?_eq_some_iff.1 hrow).1
    refine ⟨⟨k + 1,by omega,rfl,hru.trans (ruled_no ?_),(Below.heap_alloc _ _ _ (by omega)).trans hrow,hbw.alloc hsz _,by simp; omega⟩,by simp only [intOf]; omega⟩
    clear hf hlook hrow hlt
    rintro ⟨q1,q2,q3⟩
    first | omega | simp_all
   case roundEnd =>
    have hlt:=(Array.getElem?_eq_some_iff.1 hrow).1
    refine ⟨⟨k + 1,by omega,rfl,hru.trans (ruled_no ?_),(Below.heap_alloc _ _ _ (by omega)).trans hrow,hbw.alloc hsz _,by simp; omega⟩,by simp only [intOf]; omega⟩
    clear hf hlook hrow hlt
    rintro ⟨q1,q2,q3⟩
    first | omega | simp_all
   case roundEnd =>
    have hlt:=(Array.getElem?_eq_some_iff.1 hrow).1
    refine ⟨⟨k + 1,by omega,rfl,hru.trans (ruled_no ?_),(Below.heap_alloc _ _ _ (by omega)).trans hrow,hbw.alloc hsz _,by simp; omega⟩,by simp only [intOf]; omega⟩
    clear hf hlook hrow hlt
    rintro ⟨q1,q2,q3⟩
    first | omega | simp_all
   go_ret
   refine ⟨wr.heap.size + 1,r + x.2.2.2,?_,rfl,by omega,?_,(hbw.alloc hsz _).alloc (by simp; omega) _⟩
   ·rw [hru]
    refine ruled_yes ?_
    simp_all
   ·have:=(MapKept.heap_alloc (wr.alloc (.cells #[.int .i64 x.1,.int .i64 x.2.1,.int .i64 x.2.2.1,.int .i64 x.2.2.2] 280)) (.cells #[.int .i64 (r + x.2.2.2)] 3)).1
    simpa using this
  ·go_wp2
   go_ret
   have:k = 13:=by omega
   subst this
   exact ⟨wr.heap.size,r,hru,rfl,hsz,(MapKept.heap_alloc _ _).1,hbw.alloc hsz _⟩
theorem foldS_miss {r:Int} (h:a56.find? (fun p=>p.1 == r) = none):foldS r = ruled r rulesL:=by
 unfold foldS
 rw [h]
theorem foldS_hit {r:Int} {p:Int × List Int} (h:a56.find? (fun p=>p.1 == r) = some p):foldS r = p.2:=by
 unfold foldS
 rw [h]
theorem special_short:∀ p ∈ a56,p.2 ≠ [] ∧ p.2.length ≤ 3:=by decide
theorem fints_of {k:IntKind} {w:World} {I:Cells}:∀ {l:List Int} {vs:List Value},RepLs (RepC w I (.int k)) l vs → vs = l.map (Value.int k)
 | [],_,h=>h
 | n :: l,_,⟨a,b,h,h1,h2⟩=>by
  subst h
  rw [fints_of h2,show a = [Value.int k n] from h1]
  rfl
theorem RepLs.fints {k:IntKind} {w:World} {I:Cells}:∀ (l:List Int),RepLs (RepC w I (.int k)) l (l.map (Value.int k))
 | []=>rfl
 | n :: l=>⟨[.int k n],_,rfl,rfl,RepLs.fints l⟩
def rowCells (I:Cells) (b0:Nat):Cells:=fun b o=>I b o ∨ b = b0
theorem row_rep {w:World} {b:Nat} {l:List Int} {k:IntKind} {el:TypeId} {I:Cells} (h:w.heap[b]? = some (.cells (l.map (Value.int k)).toArray el (0,0))) :
  RepC w (rowCells I b) (.slice (.int k)) l [.slice (some ⟨b,0,none⟩) l.length l.length]:=by
 refine ⟨some ⟨b,0,none⟩,l.length,rfl,Nat.le_refl _,.inr ⟨b,0,_,rfl,RepLs.fints l,fun j v hj=>⟨.inr rfl,?_⟩⟩⟩
 show w.cell? ⟨b,0 + j,none⟩ = some v
 simp only [World.cell?,h]
 simpa using hj
set_option maxHeartbeats 4000000 in
theorem fold_hit (h0:Base0) (r:Int) (p:Int × List Int) (hf:a56.find? (fun p=>p.1 == r) = some p) (w:World) (I:Cells) (hw:WI w I) (hI:∀ b o,I b o → b < w.heap.size) :
  Calls Go.Proofs.Tryz.prog 218 #[.int .i64 r] w fun e w'=>∃ v J,e = .returned v ∧ Below w.heap.size w w' ∧ (∀ b o,J b o → w.heap.size ≤ b ∧ b < w'.heap.size) ∧ RepV w' (orCells I J) (.slice (.int .i64)) p.2 v:=by
 have hps:=special_short p (List.mem_of_find?_eq_some hf)
 go_enter Go.Proofs.Tryz.func218,Go.Proofs.Tryz.ntmps218
 go_wp2_with (first
  | (go_at_call 239; refine (C08 _).mono ?_; rintro e w1 ⟨rfl,ht⟩; obtain ⟨i,hi,hrow,hlook⟩:∃ i,i < 20 ∧ w1.heap[w.heap.size + 1 + i]? = some (.cells (p.2.map (Value.int .i64)).toArray 3 (0,0)) ∧ (Instr.lookup 275 (.map (some w.heap.size)) (.int .i64 r) true).run Go.Proofs.Tryz.prog w1 = .ok (.tuple #[.slice (some ⟨w.heap.size + 1 + i,0,none⟩) p.2.length p.2.length,.bool true]) w1:=(by
    rcases ht.look r with ⟨q,_⟩ | ⟨i,p',hi,q1,q2,q3⟩
    ·rw [hf] at q; cases q
    ·rw [hf] at q2
     cases q2
     obtain ⟨p2,s1,s2⟩:=ht.row i hi
     rw [q1] at s1
     cases s1
     exact ⟨i,hi,s2,q3⟩)))
 go_at_call 170
 have hsz:=ht.size
 have hk:Keeps w w1 I (rowCells I (w.heap.size + 1 + i)):=⟨fun b o hb=>⟨.inl hb,ht.below.cell (p:=⟨b,o,none⟩) (hI b o hb)⟩⟩
 refine ((C1.told h0).ct w1 (rowCells I (w.heap.size + 1 + i)) [_] (p.2,()) (w14 _ _ _ _ hk hw) (fun b o hb=>?_) ⟨_,_,rfl,.inl ⟨rfl,row_rep hrow⟩,rfl⟩ ?_).mono ?_
 ·rcases hb with hb | hb
  ·have:=hI b o hb; omega
  ·omega
 ·show decide (List.length p.2 ≤ 1073741824) = true
  have:=hps.2
  exact decide_eq_true (by omega)
 ·rintro e w2 ⟨v,J,rfl,hb2,hJ,hres⟩
  obtain ⟨e',l',hl',hfr⟩:=hres
  go_wp2
  go_ret
  cases hl'
  rcases hfr with ⟨hn,_⟩ | ⟨b,cap,c,el,vs,rfl,hb,hc,hlc,hcm,hcw,hls,htk,hno⟩
  ·exact absurd hn hps.1
  ·have hvs:=fints_of hls
   subst hvs
   refine ⟨_,fun bb _=>bb = b,rfl,ht.below.trans (hb2.mono (by omega)),fun bb oo hh=>?_,.inl ⟨rfl,?_⟩⟩
   ·have:bb = b:=hh
    have:=(Array.getElem?_eq_some_iff.1 hc).1
    omega
   ·refine ⟨some ⟨b,0,none⟩,cap,rfl,hlc,.inr ⟨b,0,_,rfl,RepLs.fints _,fun j v hj=>⟨.inr rfl,?_⟩⟩⟩
    show w2.cell? ⟨b,0 + j,none⟩ = some v
    simp only [World.cell?,hc,Nat.zero_add]
    have htk':c.toList.take (List.map (Value.int .i64) p.2).length = List.map (Value.int .i64) p.2:=htk
    have h3:(c.toList.take (List.map (Value.int .i64) p.2).length)[j]? = some v:=by rw [htk']; exact hj
    rw [List.getElem?_take] at h3
    split at h3
    ·simpa using h3
    ·cases h3
theorem a96.told (h0:Base0):Told 218 a96.sg:=by
 refine ⟨fun w I vals x hw hI hargs hd=>?_,fn218.2⟩
 obtain ⟨r,xe⟩:=x
 cases xe
 obtain ⟨v,vs,rfl,hv,hvs⟩:=hargs
 have hvs':vs = []:=hvs
 subst hvs'
 have e1:v = .int .i64 r:=by
  rcases hv with ⟨_,hv⟩ | ⟨hf,_⟩
  ·have h2:[v] = [.int .i64 r]:=hv
   simpa using h2
  ·cases hf
 subst e1
 show Calls Go.Proofs.Tryz.prog 218 #[.int .i64 r] w fun e w'=>∃ v J,e = .returned v ∧ Below w.heap.size w w' ∧ (∀ b o,J b o → w.heap.size ≤ b ∧ b < w'.heap.size) ∧ RepV w' (orCells I J) (.slice (.int .i64)) (foldS r) v
 cases hf:a56.find? (fun p=>p.1 == r) with
 | some p =>
  rw [foldS_hit hf]
  exact fold_hit h0 r p hf w I hw hI
 | none =>
  rw [foldS_miss hf]
  refine (fold_miss r hf w).mono ?_
  rintro e w' ⟨b,z,hz,rfl,hb,hc,hbw⟩
  rw [hz]
  refine ⟨_,fun bb _=>bb = b,rfl,hbw,fun bb oo hh=>?_,.inl ⟨rfl,?_⟩⟩
  ·have:bb = b:=hh
   have:=(Array.getElem?_eq_some_iff.1 hc).1
   omega
  ·refine ⟨some ⟨b,0,none⟩,1,rfl,Nat.le_refl _,.inr ⟨b,0,_,rfl,RepLs.fints _,fun j v hj=>⟨.inr rfl,?_⟩⟩⟩
   show w'.cell? ⟨b,0 + j,none⟩ = some v
   simp only [World.cell?,hc]
   simpa using hj
end Pt
end
section
open Go Go.Am
open Go.RowKit
set_option maxRecDepth 100000
namespace Pt
def drops (x:Int):Bool:=(R5.val x).1
theorem C96 (t:Told 189 R5.sg) (x:Int) (hd:R5.dom x = true) (w:World) (I:Cells) (hw:WI w I) (hI:∀ b o,I b o → b < w.heap.size) :
  Calls Go.Proofs.Tryz.prog 189 #[.int .i64 x] w fun e w'=>e = .returned (.bool (drops x)) ∧ Below w.heap.size w w':=by
 refine (t.ct w I [.int .i64 x] (x,()) hw hI ⟨_,_,rfl,.inl ⟨rfl,rfl⟩,rfl⟩ hd).mono ?_
 rintro e w' ⟨v,J,rfl,hb,_,hres⟩
 have hres':RepV w' (orCells I J) .bool (R5.val x).1 v:=hres
 rcases hres' with ⟨_,hv⟩ | ⟨hf,_⟩
 ·have h2:[v] = [.bool (R5.val x).1]:=hv
  refine ⟨?_,hb⟩
  rw [show v = .bool (R5.val x).1 by simpa using h2]
  rfl
 ·cases hf
structure Kept (b:Nat) (w W:World):Prop where
 os:W.os = w.os
 tape:W.tape = w.tape
 output:W.output = w.output
 size:w.heap.size ≤ W.heap.size
 block:∀ k,k < w.heap.size → k ≠ b → W.heap[k]? = w.heap[k]?
theorem Kept.below {b:Nat} {w W W':World} (h:Kept b w W) (k:Below W.heap.size W W'):Kept b w W' :=
 ⟨k.os.trans h.os,k.tape.trans h.tape,k.output.trans h.output,Nat.le_trans h.size k.size,fun g hg hb=>(k.block g (Nat.lt_of_lt_of_le hg h.size)).trans (h.block g hg hb)⟩
theorem Kept.of {b:Nat} {w W:World} (k:Below w.heap.size w W):Kept b w W:=⟨k.os,k.tape,k.output,k.size,fun g hg _=>k.block g hg⟩
theorem Kept.row {b:Nat} {w W:World} (h:Kept b w W) (c:Array Value):Kept b w (W.setRow b c) :=
 ⟨h.os,h.tape,h.output,by simpa [World.setRow] using h.size,fun g hg hb=>(setRow_other W b g c hb).trans (h.block g hg hb)⟩
theorem Kept.keeps {b:Nat} {w W:World} {I:Cells} (h:Kept b w W) (hI:∀ g o,I g o → g < w.heap.size ∧ g ≠ b):Keeps w W I I :=
 ⟨fun g o ho=>⟨ho,World.cell?_of_block (w:=w) (h.block g (hI g o ho).1 (hI g o ho).2)⟩⟩
def dfind (l:List Int):Int:=match l.findIdx? drops with | some k=>(k:Int) | none=>-1
set_option maxHeartbeats 4000000 in
theorem idx_walk (t:Told 189 R5.sg) (b cap:Nat) (zs:List Int) (el:TypeId) (c:Array Value) (hd:∀ x ∈ zs,R5.dom x = true) (w:World) (I:Cells) (hw:WI w I) (hI:∀ g o,I g o → g < w.heap.size ∧ g ≠ b)
  (hc:w.heap[b]? = some (.cells c el (0,0))) (htk:c.toList.take zs.length = zs.map (Value.int .i64)) (hbig:zs.length ≤ 9223372036854775807) :
  Calls Go.Proofs.Tryz.prog 217 #[.slice (some ⟨b,0,none⟩) zs.length cap,.func (.func 189) #[] #[]] w fun e w'=>e = .returned (.int .i64 (dfind zs)) ∧ Below w.heap.size w w':=by
 go_enter Go.Proofs.Tryz.func217,Go.Proofs.Tryz.ntmps217
 go_wp2
 go_loopw [8] (fun i wr=>∃ k:Nat,k ≤ zs.length ∧ i = .int .i64 k ∧ (∀ x ∈ zs.take k,drops x = false) ∧ Below w.heap.size w wr)
  (fun i _=>zs.length - (intOf i).toNat)
 case atStart=>exact ⟨0,Nat.zero_le _,rfl,by simp,Below.refl _ w⟩
 case round =>
  obtain ⟨k,hk,rfl,hno,hbw⟩:=hrel
  have hblt:b < w.heap.size:=(Array.getElem?_eq_some_iff.1 hc).1
  by_cases hkl:k < zs.length
  ·have hcell:wr.cell? ⟨b,k,none⟩ = some (.int .i64 (zs[k])):=by
    have h1:wr.heap[b]? = some (.cells c el (0,0)):=(hbw.block b hblt).trans hc
    have h2:c.toList[k]? = some (.int .i64 zs[k]):=by
     have:(c.toList.take zs.length)[k]? = some (.int .i64 zs[k]):=by rw [htk]; simp [List.getElem?_eq_getElem hkl]
     rw [List.getElem?_take,if_pos hkl] at this
     exact this
    simp only [World.cell?,h1]
    simpa using h2
   have hcall:=C96 t zs[k] (hd _ (List.getElem_mem _)) wr I (w14 _ _ _ _ ((Kept.of hbw).keeps hI) hw) (fun g o h=>Nat.lt_of_lt_of_le (hI g o h).1 hbw.size)
   clear hc htk
   generalize hz:zs[k] = z at hcell hcall
   cases hq:drops z with
   | true =>
    rw [hq] at hcall
    go_wp2_with (go_at_call 189; refine hcall.mono ?_; rintro e w' ⟨rfl,hb'⟩)
    go_ret
    refine ⟨?_,hbw.trans (hb'.mono hbw.size)⟩
    unfold dfind
    have:zs.findIdx? drops = some k:=by
     rw [List.findIdx?_eq_some_iff_getElem]
     refine ⟨hkl,by rw [hz]; exact hq,fun j hj=>?_⟩
     have:=hno zs[j] (List.mem_take_iff_getElem.2 ⟨j,by omega,rfl⟩)
     simp [this]
    rw [this]
    rfl
   | false =>
    rw [hq] at hcall
    go_wp2_with (go_at_call 189; refine hcall.mono ?_; rintro e w' ⟨rfl,hb'⟩)
    go_roundw
    case rel =>
     refine ⟨k + 1,by omega,rfl,fun x hx=>?_,hbw.trans (hb'.mono hbw.size)⟩
     rw [List.take_succ_eq_append_getElem hkl] at hx
     rcases List.mem_append.1 hx with hx | hx
     ·exact hno x hx
     ·rw [List.mem_singleton.1 hx,hz]; exact hq
    case measure=>simp only [intOf]; omega
  ·clear hc htk
   go_wp2
   go_ret
   refine ⟨?_,hbw⟩
   have hkn:k = zs.length:=by omega
   unfold dfind
   have:zs.findIdx? drops = none:=by
    rw [List.findIdx?_eq_none_iff]
    intro x hx
    exact hno x (by rw [hkn,List.take_length]; exact hx)
   rw [this]
   rfl
theorem dfind_all {zs:List Int} (h:dfind zs = -1):zs.filter (fun x=>!drops x) = zs:=by
 unfold dfind at h
 cases e:zs.findIdx? drops with
 | none =>
  rw [List.findIdx?_eq_none_iff] at e
  rw [List.filter_eq_self]
  intro x hx
  rw [e x hx]
  rfl
 | some k=>rw [e] at h; simp only [] at h; omega
theorem dfind_one {zs:List Int} (h:dfind zs ≠ -1):∃ k:Nat,dfind zs = (k:Int) ∧ k < zs.length ∧ (zs.take (k + 1)).filter (fun x=>!drops x) = zs.take k:=by
 unfold dfind at h ⊢
 cases e:zs.findIdx? drops with
 | none=>rw [e] at h; exact absurd rfl h
 | some k =>
  rw [List.findIdx?_eq_some_iff_getElem] at e
  obtain ⟨hk,h1,h2⟩:=e
  refine ⟨k,rfl,hk,?_⟩
  rw [List.take_succ_eq_append_getElem hk,List.filter_append]
  have e1:(zs.take k).filter (fun x=>!drops x) = zs.take k:=by
   rw [List.filter_eq_self]
   intro x hx
   obtain ⟨j,hj,rfl⟩:=List.mem_take_iff_getElem.1 hx
   simpa using h2 j (by omega)
  rw [e1]
  simp [h1]
set_option maxHeartbeats 4000000 in
theorem del_walk (t:Told 189 R5.sg) (b cap:Nat) (zs:List Int) (el:TypeId) (c:Array Value) (hd:∀ x ∈ zs,R5.dom x = true) (w:World) (I:Cells) (hw:WI w I) (hI:∀ g o,I g o → g < w.heap.size ∧ g ≠ b)
  (hc:w.heap[b]? = some (.cells c el (0,0))) (htk:c.toList.take zs.length = zs.map (Value.int .i64)) (hbig:zs.length ≤ 9223372036854775807) (hcap:zs.length ≤ cap) (hcap2:cap ≤ maxLen) :
  Calls Go.Proofs.Tryz.prog 187 #[.slice (some ⟨b,0,none⟩) zs.length cap,.func (.func 189) #[] #[]] w fun e w'=>e = .returned (.slice (some ⟨b,0,none⟩) (zs.filter fun x=>!drops x).length cap) ∧ Kept b w w' ∧
   ∃ c',w'.heap[b]? = some (.cells c' el (0,0)) ∧ c'.size = c.size ∧ c'.toList.take (zs.filter fun x=>!drops x).length = (zs.filter fun x=>!drops x).map (Value.int .i64):=by
 have hIF:=idx_walk t b cap zs el c hd w I hw hI hc htk hbig
 have hblt:b < w.heap.size:=(Array.getElem?_eq_some_iff.1 hc).1
 have hclen:zs.length ≤ c.toList.length:=by
  have:=congrArg List.length htk
  rw [List.length_take,List.length_map] at this
  omega
 by_cases hm:dfind zs = -1
 ·rw [hm] at hIF
  have HC:Aside (w.heap[b]? = some (.cells c el (0,0))):=hc
  have HT:Aside (c.toList.take zs.length = zs.map (Value.int .i64)):=htk
  clear hc htk
  go_enter Go.Proofs.Tryz.func187,Go.Proofs.Tryz.ntmps187
  go_wp2_with (go_at_call 217; refine hIF.mono ?_; rintro e w' ⟨rfl,hb⟩)
  go_ret
  rw [dfind_all hm]
  exact ⟨rfl,Kept.of hb,c,(hb.block b hblt).trans HC.out,rfl,HT.out⟩
 ·obtain ⟨k0,hk0,hkl,hfil⟩:=dfind_one hm
  rw [hk0] at hIF
  have hne1:((k0:Int) == -1) = false:=beq_eq_false_iff_ne.2 (by omega)
  have HC:Aside (w.heap[b]? = some (.cells c el (0,0))):=hc
  have HT:Aside (c.toList.take zs.length = zs.map (Value.int .i64)):=htk
  clear hc htk
  unfold maxLen at hcap2
  go_enter Go.Proofs.Tryz.func187,Go.Proofs.Tryz.ntmps187
  go_wp2_with (go_at_call 217; refine hIF.mono ?_; rintro e w' ⟨rfl,hb⟩)
  go_loopg [5,6,7] zs.length (fun gg s5 s6 _ wr=>∃ (i j:Nat) (dk:List Int) (ck:Array Value),s5 = .int .i64 i ∧ s6 = .int .i64 j ∧ j ≤ zs.length ∧ zs.length - j ≤ gg ∧ i < j ∧ Kept b w wr ∧
   Aside (wr.heap[b]? = some (.cells ck el (0,0)) ∧ ck.size = c.size ∧ dk.length = zs.length ∧ ck.toList.take zs.length = dk.map (Value.int .i64) ∧ dk.take i = (zs.take j).filter (fun x=>!drops x) ∧ dk.drop j = zs.drop j))
  case atStart =>
   exact ⟨k0,k0 + 1,zs,c,rfl,by go_num,by omega,by omega,by omega,Kept.of hb,(hb.block b hblt).trans HC.out,rfl,rfl,HT.out,hfil.symm,rfl⟩
  case round =>
   obtain ⟨i,j,dk,ck,rfl,rfl,hjd,hgg,hij,hkept,I2⟩:=hrel
   obtain ⟨J1,J2,J3,J4,J5,J6⟩:=I2.out
   have hget:∀ q (hq:q < zs.length),wr.cell? ⟨b,q,none⟩ = some (.int .i64 (dk[q]'(by omega))):=fun q hq=>by
    have h2:ck.toList[q]? = some (.int .i64 (dk[q]'(by omega))):=by
     have:(ck.toList.take zs.length)[q]? = some (.int .i64 (dk[q]'(by omega))):=by rw [J4]; simp [List.getElem?_eq_getElem (show q < dk.length by omega)]
     rw [List.getElem?_take,if_pos hq] at this
     exact this
    simp only [World.cell?,J1]
    simpa using h2
   have hfz:∀ q,wr.frozen? ⟨b,q,none⟩ = false:=fun q=>by
    simp only [World.frozen?,J1]
    simp
   by_cases hlt:j < zs.length
   ·have hltz:(j:Int) < (zs.length:Int):=by omega
    have cj:=hget j hlt
    obtain ⟨old,ci⟩:∃ old,wr.cell? ⟨b,i,none⟩ = some (.int .i64 old):=⟨_,hget i (by omega)⟩
    have hbr:b < wr.heap.size:=(Array.getElem?_eq_some_iff.1 J1).1
    have fi:=hfz i
    have hjz:dk[j]'(by omega) = zs[j]:=by
     have:=congrArg (fun l=>l[0]?) J6
     simp only [List.getElem?_drop,Nat.add_zero] at this
     rw [List.getElem?_eq_getElem (by omega),List.getElem?_eq_getElem (by omega)] at this
     simpa using this
    have hcall:=C96 t zs[j] (hd _ (List.getElem_mem _)) wr I (w14 _ _ _ _ (hkept.keeps hI) hw) (fun g o h=>Nat.lt_of_lt_of_le (hI g o h).1 hkept.size)
    rw [hjz] at cj
    have JJ:Aside _:=I2.out
    generalize hu:zs[j] = u at cj hcall hjz
    have C:Aside (zs[j] = u):=hu
    clear hjz hu
    clear hget hfz J1 J2 J4 J5 J6 I2
    clear J3
    cases hq:drops u with
    | false =>
     rw [hq] at hcall
     go_wp2_with (go_at_call 189; refine hcall.mono ?_; rintro e w' ⟨rfl,hb'⟩; have ci':=(hb'.cell (p:=⟨b,i,none⟩) hbr).trans ci; have fi':=(hb'.frozen (p:=⟨b,i,none⟩) hbr).trans fi)
     go_roundg (zs.length - (j + 1))
     case measure=>omega
     case rel =>
      obtain ⟨J1,J2,J3,J4,J5,J6⟩:=JJ.out
      have hrow:w'.heap[b]? = some (.cells ck el (0,0)):=(hb'.block b hbr).trans J1
      have hkeep:(!drops zs[j]) = true:=by rw [C.out,hq]; rfl
      refine ⟨i + 1,j + 1,dk.set i u,ck.setIfInBounds i (.int .i64 u),by go_num,by go_num,by omega,Nat.le_refl _,by omega,?_,?_,?_,?_,?_,?_,?_⟩
      ·rw [B41 hrow]
       exact (hkept.below hb').row _
      ·rw [B41 hrow]
       exact setRow_heap w' b ck _ el (0,0) hrow
      ·simpa using J2
      ·simpa using J3
      ·rw [Array.toList_setIfInBounds,List.take_set,J4,List.map_set]
      ·rw [List.take_succ_eq_append_getElem hlt,List.filter_append,← J5,List.take_succ_eq_append_getElem (by simp; omega),List.take_set_of_le (by omega)]
       simp [hkeep]
       exact C.out.symm
      ·rw [List.drop_set_of_lt (by omega),← List.drop_drop,← List.drop_drop,J6]
    | true =>
     rw [hq] at hcall
     go_wp2_with (go_at_call 189; refine hcall.mono ?_; rintro e w' ⟨rfl,hb'⟩)
     go_roundg (zs.length - (j + 1))
     case measure=>omega
     case rel =>
      obtain ⟨J1,J2,J3,J4,J5,J6⟩:=JJ.out
      have hrow:w'.heap[b]? = some (.cells ck el (0,0)):=(hb'.block b hbr).trans J1
      have hkeep:(!drops zs[j]) = false:=by rw [C.out,hq]; rfl
      refine ⟨i,j + 1,dk,ck,rfl,by go_num,by omega,Nat.le_refl _,by omega,hkept.below hb',hrow,J2,J3,J4,?_,?_⟩
      ·rw [List.take_succ_eq_append_getElem hlt,List.filter_append,← J5]
       simp [hkeep]
      ·rw [← List.drop_drop,← List.drop_drop,J6]
   ·obtain rfl:j = zs.length:=by omega
    have hltz:¬ (zs.length:Int) < (zs.length:Int):=by omega
    have hcl:∀ ty,(Builtin.clear_ #[23] ty #[.slice (some ⟨b,i,none⟩) (zs.length - i) (cap - i)]).run Go.Proofs.Tryz.prog wr = .ok (.tuple #[]) (wr.setCells b i (List.replicate (zs.length - i) (.int .i64 0))) :=
     fun ty=>Go.Lib.run_clear_slice wr _ _ ty _ Go.Proofs.Tryz.underlying23 Go.Proofs.Tryz.zeroValue3 rfl rfl b i _ _ (by omega) (fun t ht=>by rw [hget (i + t) (by omega)]; rfl) (fun t ht=>hfz _)
    have JJ:Aside _:=I2.out
    clear hget hfz J1 J2 J4 J5 J6 I2
    clear J3
    go_wp2
    go_ret
    obtain ⟨J1,J2,J3,J4,J5,J6⟩:=JJ.out
    rw [List.take_length] at J5
    rw [← J5]
    have hlen:(dk.take i).length = i:=by rw [List.length_take]; omega
    refine ⟨by rw [hlen]; rfl,?_,?_⟩
    ·rw [a98 (c:=ck) (el:=el) _ _ J1]
     exact hkept.row _
    ·rw [a98 (c:=ck) (el:=el) _ _ J1]
     refine ⟨_,setRow_heap wr b ck _ el (0,0) J1,by rw [List.size_toArray,w13,Array.length_toList,J2],?_⟩
     have hck:ck.toList.length = c.size:=by simpa using J2
     have hcl2:zs.length ≤ c.size:=by simpa using hclen
     rw [hlen,w21 _ _ _ (by rw [List.length_replicate]; omega),List.append_assoc,List.take_left' (by rw [List.length_take]; omega)]
     have:(ck.toList.take zs.length).take i = ck.toList.take i:=by rw [List.take_take,Nat.min_eq_left (by omega)]
     rw [← this,J4,List.map_take]
theorem row_write_ex {B:Nat} {w0:Base} {H:List Blk} {μ:Mu} {w:World} {I:Cells} (hr:HeapRel B w0 H μ w I) {id:Nat} {e:Ty} {vr vr2:Nat}
  {l l2:List e.den} (hid:H[id]? = some (.row e true vr l)) {b n:Nat} {c c':Array Value} {el:TypeId} (hμ:μ id = some (b,n))
  (hc:w.heap[b]? = some (.cells c el (0,0))) {vs:List Value} (hsz:c'.size = n) (hl:RepLs (RepC w I e) l2 vs) (ht:c'.toList.take vs.length = vs) (hv:vr < vr2) :
  HeapRel B w0 (H.set id (.row e true vr2 l2)) μ (w.setRow b c') I ∧ Ext H.length H μ w I (H.set id (.row e true vr2 l2)) μ (w.setRow b c') I:=by
 have hlt:id < H.length:=(List.getElem?_eq_some_iff.1 hid).1
 have hno:∀ o,¬ I b o:=fun o ho=>by
  obtain ⟨e',v,l',q,_⟩:=(hr.imm b o ho).2 id _ n hid rfl hμ
  cases q
 have hk:Keeps w (w.setRow b c') I I:=⟨fun g o hi=>⟨hi,by
  by_cases hg:g = b
  ·subst hg; exact absurd hi (hno o)
  ·exact cell_setRow_other w b c' ⟨g,o,none⟩ hg⟩⟩
 have hx:Ext H.length H μ w I (H.set id (.row e true vr2 l2)) μ (w.setRow b c') I:=Ext.set hid hk (fun _ _=>rfl) ⟨true,vr2,l2,rfl,by omega,fun h=>by omega⟩
 refine ⟨hr.upd hlt hx (fun _ _=>rfl) ?_ ?_ ?_ ?_ (B14 (hr.low id _ b _ hid rfl hμ) c'),hx⟩
 ·intro j y g m hj hx' hlive hg
  exact setRow_other w b g c' (fun hgb=>hj (by subst hgb; exact hr.inj j id y _ g m _ hx' hid hlive rfl hg hμ))
 ·simp only [BlkOk,hμ]
  exact ⟨c',el,vs,setRow_heap w b c c' el (0,0) hc,hsz,hl.mono fun _ _ h=>RepC.mono hk _ _ _ h,ht⟩
 ·intro g m _ hg
  exact ⟨hr.low id _ g m hid rfl hg,fun j y n' hj hx' hlive hg'=>hj (hr.inj j id y _ g n' m hx' hid hlive rfl hg' hg)⟩
 ·intro g o hi
  refine ⟨by simpa using (hr.imm g o hi).1,fun m hg _=>?_,.inl hi⟩
  obtain ⟨e',vr',l',h,ho⟩:=(hr.imm g o hi).2 id _ m hid rfl hg
  cases h
theorem row_none_ex {B:Nat} {w0:Base} {H:List Blk} {μ:Mu} {w:World} {I:Cells} (hr:HeapRel B w0 H μ w I) {id:Nat} {e:Ty} {vr vr2:Nat}
  {l:List e.den} (hid:H[id]? = some (.row e true vr l)) (hμ:μ id = none) (hv:vr < vr2) :
  HeapRel B w0 (H.set id (.row e true vr2 [])) μ w I ∧ Ext H.length H μ w I (H.set id (.row e true vr2 [])) μ w I:=by
 have hlt:id < H.length:=(List.getElem?_eq_some_iff.1 hid).1
 have hx:Ext H.length H μ w I (H.set id (.row e true vr2 [])) μ w I:=Ext.set hid (Keeps.refl w I) (fun _ _=>rfl) ⟨true,vr2,[],rfl,by omega,fun h=>by omega⟩
 refine ⟨hr.upd hlt hx (fun _ _=>rfl) (fun _ _ _ _ _ _ _ _=>rfl) ?_ ?_ ?_ (Below.refl _ _),hx⟩
 ·simp only [BlkOk,hμ]
 ·intro g n _ hg
  rw [hμ] at hg; cases hg
 ·intro g o hi
  exact ⟨(hr.imm g o hi).1,(fun n hg _=>by rw [hμ] at hg; cases hg),.inl hi⟩
set_option maxHeartbeats 4000000 in
theorem idx_none (base:Option Addr) (w:World) :
  Calls Go.Proofs.Tryz.prog 217 #[.slice base 0 0,.func (.func 189) #[] #[]] w fun e w'=>e = .returned (.int .i64 (-1)) ∧ w' = w:=by
 go_enter Go.Proofs.Tryz.func217,Go.Proofs.Tryz.ntmps217
 go_wp2
 refine wp_loop_rounds 1 ?_
 rw [rounds_succ]
 go_wp2
 go_ret
 exact ⟨rfl,rfl⟩
set_option maxHeartbeats 4000000 in
theorem del_none (base:Option Addr) (w:World) :
  Calls Go.Proofs.Tryz.prog 187 #[.slice base 0 0,.func (.func 189) #[] #[]] w fun e w'=>e = .returned (.slice base 0 0) ∧ w' = w:=by
 go_enter Go.Proofs.Tryz.func187,Go.Proofs.Tryz.ntmps187
 go_wp2_with (go_at_call 217; refine (idx_none base w).mono ?_; rintro e w' ⟨rfl,rfl⟩)
 go_ret
 exact ⟨rfl,rfl⟩
theorem primDelInt_ok (t:Told 189 R5.sg):PrimOk Pg WI 187 B05:=by
 intro B w0 H μ w I nid av f vs hW hr hf h hv
 have h':(delA H av).eval = some f:=h
 unfold delA at h'
 split at h'
 ·rename_i id ver fn
  split at h'
  ·rename_i e2 vr l hid
   split at h'
   ·rename_i hc
    obtain ⟨rfl,rfl⟩:=hc
    split at h'
    ·rename_i l' hcl
     obtain ⟨hh,h2⟩:=a33 h'
     cases h2
     obtain ⟨he,hll⟩:=cast?_some hcl
     cases he
     subst hll
     obtain ⟨v0,v1,rfl,ha0,ha1⟩:∃ v0 v1,vs = [v0,v1] ∧ RepAV H μ w I (.one (.sc (.own id vr))) v0 ∧ RepAV H μ w I (.one (.sc (.lf .fn (some B21)))) v1:=by
      match vs,hv with
      | [v0,v1],⟨q0,q1,_⟩=>exact ⟨v0,v1,rfl,q0,q1⟩
     have e1:v1 = .func (.func 189) #[] #[]:=by
      have h2:[v1] = [fnVal (some B21)]:=ha1.2
      simpa [fnVal] using h2
     subst e1
     clear h' h hv
     have hdom:∀ x ∈ (l':List Int),R5.dom x = true:=fun x hx=>List.all_eq_true.1 hh x hx
     obtain ⟨⟨e5,x5,vr5,l5,g4,g5,g6⟩,_⟩:=ha0
     rw [hid] at g4
     cases g4
     have hown:=g6 rfl
     have hblk:=hr.blk id _ hid
     have hlt:=(List.getElem?_eq_some_iff.1 hid).1
     cases hμ:μ id with
     | none =>
      rw [hμ] at hown
      obtain ⟨hl0,base,rfl⟩:=hown
      subst hl0
      refine (del_none base w).mono ?_
      rintro e w' ⟨rfl,rfl⟩
      obtain ⟨m1,m2⟩:=row_none_ex hr hid hμ (Nat.lt_succ_self vr)
      exact ⟨_,rfl,μ,I,m1,m2,⟨.int .i64,true,vr + 1,[],a44 hlt _,Nat.le_refl _,fun _=>by rw [hμ]; exact ⟨rfl,base,rfl⟩⟩,_,_,_,rfl⟩
     | some p =>
      obtain ⟨b,n⟩:=p
      rw [hμ] at hown
      simp only [BlkOk,hμ] at hblk
      obtain ⟨cap,rfl,hlc,hcm,hcn⟩:=hown
      obtain ⟨c,el,us,hc,hsz,hls,htk⟩:=hblk
      have:=ints_of hls
      subst this
      have hno:∀ o,¬ I b o:=fun o ho=>by
       obtain ⟨e',v,l',q,_⟩:=(hr.imm b o ho).2 id _ n hid rfl hμ
       cases q
      have hI:∀ g o,I g o → g < w.heap.size ∧ g ≠ b:=fun g o h=>⟨(hr.imm g o h).1,fun e=>by subst e; exact hno o h⟩
      have hbig:List.length (l':List Int) ≤ 9223372036854775807:=Nat.le_trans hlc hcm
      rw [List.length_map] at htk
      refine (del_walk t b cap l' el c hdom w I hW hI hc htk hbig hlc hcm).mono ?_
      rintro e w' ⟨rfl,hkept,c',hc',hsz',htk'⟩
      have hbelow:Below w.heap.size w (w'.setRow b c):=by
       have k2:=hkept.row c
       refine ⟨k2.os,k2.tape,k2.output,k2.size,fun g hg=>?_⟩
       by_cases hgb:g = b
       ·subst hgb; rw [hc]; exact setRow_heap w' g c' c el (0,0) hc'
       ·exact k2.block g hg hgb
      obtain ⟨r2,x2⟩:=hr.called (J:=fun _ _=>False) hbelow (fun _ _ h=>h.elim)
      have e3:(w'.setRow b c).setRow b c' = w':=by rw [w97]; exact C40 hc'
      obtain ⟨m1,m2⟩:=row_write_ex r2 (l2:=l'.filter fun x=>!drops x) hid hμ (setRow_heap w' b c' c el (0,0) hc') (hsz'.trans hsz) (B71 _) (by rw [List.length_map]; exact htk') (Nat.lt_succ_self vr)
      rw [e3] at m1 m2
      refine ⟨_,rfl,μ,_,m1,x2.trans m2,⟨.int .i64,true,vr + 1,_,a44 hlt _,Nat.le_refl _,fun _=>?_⟩,_,_,_,rfl⟩
      rw [hμ]
      exact ⟨cap,rfl,Nat.le_trans (List.length_filter_le _ _) hlc,hcm,hcn⟩
    ·cases h'
   ·cases h'
  ·cases h'
 ·cases h'
end Pt
end
end
