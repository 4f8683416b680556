/- Contracts of functions that the abstract machine does not take. Conditions: none beyond the statement's own. -/
import Derived.Test.YtkciioajiopobaaGreatDoorTypes1
import Derived.Test.YtkciioajiopobaaGreatDoorWalks6
import Derived.Test.YtkciioajiopobaaGreatDoorWalks7
import Derived.Test.YtkciioajiopobaaGreatDoorHand1
import Derived.WalkKit
import Derived.BigCall
import Derived.RangeFuncNested
import Derived.RangeFuncBound
import Derived.RangeFuncCalls
import Derived.RangeFuncLeaves
import Derived.Shelf.Abstract
import Derived.Shelf.RegionOpen
import Derived.OwnWalkIn
import Derived.TacticsInMore
import Derived.LoopNIn
import Derived.LoopIn
import Derived.RangeFuncBox
import Derived.Maps.AppendAt
set_option linter.all false
noncomputable section
section
open Go Go.Am
open Go.RowKit
set_option maxRecDepth 100000
namespace Pt
theorem good_walk (r:Int) (w:World):Calls Go.Proofs.Tryz.prog 122 #[.int .i64 r] w fun e w'=>e = .returned (.bool (goodS r)) ∧ w' = w:=by
 go_enter Go.Proofs.Tryz.func122,Go.Proofs.Tryz.ntmps122
 go_wp2
 all_goals
  go_ret
  refine ⟨?_,rfl⟩
  unfold goodS
  simp_all
 all_goals first | done | omega | (intros; omega)
theorem WriteRune (B b:Nat) (bs:List Value) (r:Int) (hr0:-2147483648 ≤ r) (hr1:r ≤ 2147483647) (w:World) (h:Lib.IsBuilderF 165 5 B b bs w) (hlen:bs.length + 4 ≤ 140737488355328) (hBw:B ≤ w.heap.size) :
  Calls Go.Proofs.Tryz.prog 123 #[.pointer (some ⟨b,0,none⟩),.int .i32 r] w fun e w'=>e = .returned (.tuple #[.int .i64 (Lib.runeCells r).length,.nilIface]) ∧ (Lib.BuilderAtF 165 5 B b (.pointer (some ⟨b,0,none⟩)) (bs ++ Lib.runeCells r) w' ∧ Below B w w' ∧ Lib.OthersKept 5 (some b) w w') :=
 Go.Proofs.Any.Builder_WriteRune_k Go.Proofs.Tryz.lays168 Go.Proofs.Tryz.Builder_Extra_158 B b bs r hr0 hr1 w h hlen hBw
def encB (r:Int):List UInt8:=Lib.encodeRune (bif goodS r then r else 0xFFFD)
theorem encB_len (r:Int):(encB r).length ≤ 4:=by
 unfold encB
 have:=Lib.runeCells_le (bif goodS r then r else 0xFFFD)
 rw [Lib.runeCells_length] at this
 exact this.2
theorem flatB_len (l:List Int):(l.flatMap encB).length ≤ 4 * l.length:=by
 induction l with
 | nil=>simp
 | cons x t ih =>
  have:=encB_len x
  simp only [List.flatMap_cons,List.length_append,List.length_cons]
  omega
theorem C74 (r:Int):Lib.byteCells (encB r) = Lib.runeCells (bif goodS r then r else 0xFFFD):=Lib.byteCells_encodeRune _
theorem take_flat (zs:List Int) (k:Nat) (h:k < zs.length):(zs.take (k + 1)).flatMap encB = (zs.take k).flatMap encB ++ encB zs[k]:=by
 rw [List.take_succ_eq_append_getElem h,List.flatMap_append]
 simp
theorem good_rng {r:Int} (h:goodS r = true):0 ≤ r ∧ r ≤ 1114111:=by
 unfold goodS at h
 simp at h
 omega
set_option maxHeartbeats 4000000 in
theorem text_walk (b off len cap:Nat) (zs:List Int) (w:World) (hl:zs.length = len) (hbig:len ≤ 1099511627776) (hb:len ≠ 0 → b < w.heap.size)
  (hc:∀ j,j < len → w.cell? ⟨b,off + j,none⟩ = some (.int .i64 (zs.getD j 0))) :
  Calls Go.Proofs.Tryz.prog 94 #[.slice (some ⟨b,off,none⟩) len cap] w fun e w'=>e = .returned (.string ⟨(zs.flatMap encB).toArray⟩) ∧ Below w.heap.size w w':=by
 go_enter Go.Proofs.Tryz.func94,Go.Proofs.Tryz.ntmps94
 go_wp2
 go_loopw [8] (fun i wr=>∃ k:Nat,k ≤ len ∧ i = .int .i64 k ∧ Lib.IsBuilderF 165 5 w.heap.size w.heap.size (Lib.byteCells ((zs.take k).flatMap encB)) wr ∧ Below w.heap.size w wr)
  (fun i _=>len - (Go.RowKit.intOf i).toNat)
 case atStart=>exact ⟨0,Nat.zero_le _,rfl,Lib.IsBuilderF.of (Lib.fresh_isBuilder 165 5 w),(Below.refl _ w).alloc (Nat.le_refl _) _⟩
 case round =>
  obtain ⟨k,hk,rfl,hI,hbw⟩:=hrel
  have hcx:k < len → wr.cell? ⟨b,off + k,none⟩ = some (.int .i64 (zs.getD k 0)):=fun h=>(hbw.cell (by exact hb (by omega))).trans (hc k h)
  have hsz:w.heap.size ≤ wr.heap.size:=hbw.size
  have hfl:((zs.take k).flatMap encB).length + 4 ≤ 140737488355328:=by
   have:=flatB_len (zs.take k)
   rw [List.length_take] at this
   omega
  have hfc:(Lib.byteCells ((zs.take k).flatMap encB)).length + 4 ≤ 140737488355328:=by rw [Lib.byteCells_length]; exact hfl
  go_wp2_with (go_at_call 122; refine (good_walk _ _).mono ?_; rintro e w' ⟨rfl,rfl⟩)
  ·rename_i hkl _ _ hI hbw hcx hsz hg _ _
   have hg':goodS (zs[k]'(by omega)) = false:=by simpa using hg
   go_at_call 123
   refine (WriteRune w.heap.size w.heap.size _ _ (by omega) (by omega) _ hI hfc hsz).mono ?_
   rintro e W1 ⟨rfl,h1,b1,k1⟩
   go_wp2
   go_roundw
   case rel =>
    refine ⟨k + 1,by omega,rfl,?_,hbw.trans b1⟩
    rw [take_flat zs k (by omega),Lib.byteCells_append,C74,hg']
    exact Or.inr h1
   case measure=>simp only [Go.RowKit.intOf]; omega
  ·rename_i hkl _ _ hI hbw hcx hsz hg _ _
   have hg':goodS (zs[k]'(by omega)) = true:=by simpa using hg
   have hr:=good_rng hg'
   have hw:wrap32 (zs[k]'(by omega)) = zs[k]'(by omega):=by unfold wrap32; omega
   go_at_call 123
   rw [hw]
   refine (WriteRune w.heap.size w.heap.size _ _ (by omega) (by omega) _ hI hfc hsz).mono ?_
   rintro e W1 ⟨rfl,h1,b1,k1⟩
   go_wp2
   go_roundw
   case rel =>
    refine ⟨k + 1,by omega,rfl,?_,hbw.trans b1⟩
    rw [take_flat zs k (by omega),Lib.byteCells_append,C74,hg']
    exact Or.inr h1
   case measure=>simp only [Go.RowKit.intOf]; omega
  ·rename_i hkl _ _
   go_at_call 124
   refine (Go.Proofs.Tryz.Builder_String_any_k w.heap.size w.heap.size _ _ hI hsz).mono ?_
   rintro e W1 ⟨rfl,h1,b1,k1⟩
   go_wp2
   go_ret
   refine ⟨?_,hbw.trans b1⟩
   rw [show zs.take k = zs from List.take_of_length_le (by omega)]
   rfl
set_option maxHeartbeats 4000000 in
theorem text_none (base:Option Addr) (cap:Nat) (w:World) :
  Calls Go.Proofs.Tryz.prog 94 #[.slice base 0 cap] w fun e w'=>e = .returned (.string ⟨([]:List UInt8).toArray⟩) ∧ Below w.heap.size w w':=by
 go_enter Go.Proofs.Tryz.func94,Go.Proofs.Tryz.ntmps94
 go_wp2
 go_loopw [8] (fun i wr=>i = .int .i64 0 ∧ Lib.IsBuilderF 165 5 w.heap.size w.heap.size (Lib.byteCells []) wr ∧ Below w.heap.size w wr)
  (fun _ _=>0)
 case atStart=>exact ⟨rfl,Lib.IsBuilderF.of (Lib.fresh_isBuilder 165 5 w),(Below.refl _ w).alloc (Nat.le_refl _) _⟩
 case round =>
  obtain ⟨rfl,hI,hbw⟩:=hrel
  have hsz:w.heap.size ≤ wr.heap.size:=hbw.size
  go_wp2_with (go_at_call 124; refine (Go.Proofs.Tryz.Builder_String_any_k w.heap.size w.heap.size _ _ hI hsz).mono ?_)
  rintro e W1 ⟨rfl,h1,b1,k1⟩
  go_wp2
  go_ret
  exact ⟨rfl,hbw.trans b1⟩
theorem bytes_flat (l:List Int):bytesOf (l.flatMap encS) = ⟨(l.flatMap encB).toArray⟩:=by
 unfold bytesOf
 congr 2
 rw [List.map_flatMap]
 rfl
theorem C84 {k:IntKind} {w:World} {I:Cells}:∀ {l:List Int} {vs:List Value},RepLs (RepC w I (.int k)) l vs → vs = l.map (Value.int k)
 | [],_,h=>h
 | n :: l,_,⟨a,b,h,h1,h2⟩=>by
  subst h
  rw [C84 h2,show a = [Value.int k n] from h1]
  rfl
theorem a45.told:Told 94 a45.sg:=by
 refine ⟨fun w I vals x hw hI hargs hd=>?_,fn94.2⟩
 obtain ⟨l,xe⟩:=x
 cases xe
 obtain ⟨v,vs,rfl,hv,hvs⟩:=hargs
 have hvs':vs = []:=hvs
 subst hvs'
 have hd':(decide (List.length l ≤ 1099511627776)) = true:=hd
 have hl:=of_decide_eq_true hd'
 have hv':RepC w I (.slice (.int .i64)) l [v]:=by
  rcases hv with ⟨_,h⟩ | ⟨hf,_⟩
  ·exact h
  ·cases hf
 obtain ⟨base,cap,he,hc,hx⟩:=hv'
 have he':v = .slice base (List.length l) cap:=by simpa using he
 subst he'
 have hval:∀ w',RepV w' (orCells I fun _ _=>False) .str (a45.val l).1 (.string ⟨(List.flatMap encB l).toArray⟩):=fun w'=>.inl ⟨rfl,by
  show [Value.string _] = [Value.string (bytesOf (List.flatMap encS l))]
  rw [bytes_flat]⟩
 rcases hx with rfl | ⟨b,o,vs,rfl,hr,ha⟩
 ·refine (text_none base cap w).mono ?_
  rintro e w' ⟨rfl,hb⟩
  exact ⟨_,fun _ _=>False,rfl,hb,fun _ _ hf=>hf.elim,hval w'⟩
 ·have hvs:=C84 hr
  subst hvs
  have hcell:∀ j,j < List.length l → I b (o + j) ∧ w.cell? ⟨b,o + j,none⟩ = some (.int .i64 (List.getD l j 0)):=fun j hj =>
   ha j _ (by rw [List.getElem?_map,List.getElem?_eq_getElem hj]; simp [List.getD,List.getElem?_eq_getElem hj])
  refine (text_walk b o (List.length l) cap l w rfl hl (fun h=>hI b _ (hcell 0 (by omega)).1) fun j hj=>(hcell j hj).2).mono ?_
  rintro e w' ⟨rfl,hb⟩
  exact ⟨_,fun _ _=>False,rfl,hb,fun _ _ hf=>hf.elim,hval w'⟩
end Pt
end
section
open Go Go.Am
open Go.RowKit Go.Shelf
attribute [local go_sem] Oper.semAt_some
set_option maxRecDepth 100000
namespace Pt
open Go.Proofs
theorem load48 {w:World} {b:Nat} {cs:Array Value} {el:TypeId} (hb:w.heap[b]? = some (.cells cs el (0,0))) (hsz:cs.size = 83):(loadVar 48 ⟨b,0,none⟩).run Tryz.prog w = .ok (.agg cs) w:=by
 have hload:=run_loadCells_list (P:=Tryz.prog) w ⟨b,0,none⟩ cs.toList (fun j v hj=>by
  rw [a93]
  exact w26 hb j v hj)
 rw [Array.length_toList,hsz] at hload
 simp [loadVar,Tryz.isAgg48,Tryz.sizeOf48,hload]
theorem a49 {F:Fence} {n:Nat} {w:World} {ops:Array Oper} {rest:List Oper} {o:Oper} {a:Act} {Q:Exit → Act → World → Prop}
  (hg:o.guard = none) (p:Operand) (hop:o.op = Op.load 48 p) {b:Nat} {cs:Array Value} {el:TypeId} (hp:a.eval p = .pointer (some ⟨b,0,none⟩)) (hb:w.heap[b]? = some (.cells cs el (0,0))) (hsz:cs.size = 83)
  (hK:wpListIn F n Tryz.prog ops Q rest (a.put o.dst (.agg cs)) w):wpListIn F n Tryz.prog ops Q (o :: rest) a w:=by
 refine wpListIn_plain hg fun K hK'=>?_
 have hrun:=load48 hb hsz
 unfold Oper.wpIn
 refine ⟨?_,?_⟩
 ·simp [Oper.about,hop,Sem.run_pure]
 ·rw [Oper.semAt_plain F _ _ (by rw [hop]; intro c hc'; cases hc')]
  simp [execOp,hop,hp,Instr.loadAt,Instr.sureAddr,hrun,Result.andThen]
  exact hK' _ _ hK
theorem can_call (t:Told 89 T2.sg) (x:Ty.den a7) (cs:Array Value) (k:Nat) (hd:T2.dom x k = true) (w:World) (I:Cells) (hw:WI w I) (hI:∀ b o,I b o → b < w.heap.size) (hr:RepC w I a7 x cs.toList) :
  Calls Tryz.prog 89 #[.agg cs,.int .i64 k] w fun e w'=>e = .returned (.bool (T2.val x k).1) ∧ Below w.heap.size w w':=by
 refine (t.ct w I [.agg cs,.int .i64 k] (x,(k:Int),()) hw hI ⟨_,_,rfl,.inr ⟨rfl,cs,rfl,hr⟩,_,_,rfl,.inl ⟨rfl,rfl⟩,rfl⟩ hd).mono ?_
 rintro e w' ⟨v,J,rfl,hb,_,hres⟩
 have hres':RepV w' (orCells I J) .bool (T2.val x k).1 v:=hres
 rcases hres' with ⟨_,hv⟩ | ⟨hf,_⟩
 ·have h2:[v] = [.bool (T2.val x k).1]:=hv
  exact ⟨by rw [show v = .bool (T2.val x k).1 by simpa using h2],hb⟩
 ·cases hf
set_option maxHeartbeats 4000000 in
theorem ready_in (n:Nat) (cs:Array Value) (w:World) :
  CallsIn Fence.wide n Tryz.prog 61 #[.agg cs] w fun e w'=>e = .returned (.func (.func 88) #[] #[.pointer (some ⟨w.heap.size,0,none⟩)]) ∧ w' = w.alloc (.cells cs 48):=by
 refine callsIn_of_wp Tryz.func61 rfl trivial ?_ rfl
 simp only [Tryz.ntmps61,List.size_toArray,List.length_cons,List.length_nil,Nat.reduceAdd,Nat.reduceSub,Array.replicate_succ,Array.replicate_zero,List.push_toArray,List.append_toArray,List.nil_append,List.cons_append]
 gi_wp2
 go_ret
 exact ⟨rfl,rfl⟩
def can (x:Ty.den a7) (i:Int):Bool:=(T2.val x i).1
theorem parts_take (k:Nat) (hk:k < 7):parts7.take (k + 1) = parts7.take k ++ [(k:Int)]:=by
 rcases k with _|_|_|_|_|_|_|k <;> first | rfl | omega
theorem can_step {x:Ty.den a7} {k:Nat} (hk:k < 7):(parts7.take (k + 1)).filter (can x) = (parts7.take k).filter (can x) ++ (if can x k then [(k:Int)] else []):=by
 rw [parts_take k hk,List.filter_append]
 congr 1
 cases h:can x k <;> simp [h]
theorem can_pre {x:Ty.den a7} {k:Nat}:(parts7.take k).filter (can x) <+: parts7.filter (can x):=by
 refine ⟨(parts7.drop k).filter (can x),?_⟩
 rw [← List.filter_append,List.take_append_drop]
theorem can_len {x:Ty.den a7} {k:Nat} (hk:k < 7):((parts7.take k).filter (can x)).length < 7:=by
 have:=List.length_filter_le (can x) (parts7.take k)
 rw [List.length_take] at this
 omega
set_option maxHeartbeats 4000000 in
theorem ready1_in (t:Told 89 T2.sg) (n:Nat) (hn:1 ≤ n) (l Bn n0:Nat) (x:Ty.den a7) (cs:Array Value) (J Jx:List Int → World → Prop) (Kp:World → World → Prop) (hKp:∀ A B,Kp A B → Below n0 A B ∧ B.heap[Bn]? = A.heap[Bn]?)
  (W:World) (hY:∀ pre x W1,J pre W1 → pre.length < 7 → YieldAt Fence.wide (n - 1) Tryz.prog l #[.int .i64 x] W1 fun e W' =>
   (e = .returned (.bool true) ∧ J (pre ++ [x]) W' ∧ Kp W1 W') ∨ (e = .returned (.bool false) ∧ Jx (pre ++ [x]) W'))
  (hbox:W.heap[Bn]? = some (.cells cs 48 (0,0))) (I:Cells) (hw:WI W I) (hI:∀ b o,I b o → b < n0) (hn0:n0 ≤ W.heap.size) (hrep:RepC W I a7 x cs.toList) (hdom:(parts7.all fun i=>T2.dom x i) = true)
  (hJ:AbidesFrom W.heap.size J) (h0:J [] W) :
  CallsIn Fence.wide n Tryz.prog 88 #[.func (.yield l) #[] #[],.pointer (some ⟨Bn,0,none⟩)] W fun e W'=>(∃ v,e = .returned v) ∧
   ((∃ ys,ys = parts7.filter (can x) ∧ J ys W') ∨ (∃ pre,pre <+: parts7.filter (can x) ∧ Jx pre W')):=by
 have hsz:cs.size = 83:=by
  have h1:=hrep.len
  have h2:a7.width = 83:=by decide
  rw [h2] at h1
  simpa using h1
 have hdk:∀ k:Nat,k < 7 → T2.dom x k = true:=fun k hk=>List.all_eq_true.1 hdom _ (by
  rcases k with _|_|_|_|_|_|_|k <;> first | (simp [parts7]; done) | omega)
 refine callsIn_of_wp Tryz.func88 rfl trivial ?_ rfl
 simp only [Tryz.ntmps88,List.size_toArray,List.length_cons,List.length_nil,Nat.reduceAdd,Nat.reduceSub,Array.replicate_succ,Array.replicate_zero,List.push_toArray,List.append_toArray,List.nil_append,List.cons_append]
 gi_wp2
 gi_loopw [4] (fun p wr=>∃ k:Nat,k ≤ 7 ∧ p = .int .i64 k ∧ J ((parts7.take k).filter (can x)) wr ∧ wr.heap[Bn]? = some (.cells cs 48 (0,0)) ∧ Below n0 W wr)
  (fun p wr=>7 - (Go.RowKit.intOf p).toNat)
 case atStart=>exact ⟨0,by omega,rfl,h0,hbox,Below.refl _ _⟩
 case round =>
  obtain ⟨k,hk,rfl,hJk,hbk,hbw⟩:=hrel
  by_cases hk7:k < 7
  ·have hk7':(k:Int) < 7:=by omega
   have hkeep:Keeps W wr I I:=⟨fun b o h=>⟨h,hbw.cell (p:=⟨b,o,none⟩) (hI b o h)⟩⟩
   have hcall:=can_call t x cs k (hdk k hk7) wr I (w14 _ _ _ _ hkeep hw) (fun b o h=>Nat.lt_of_lt_of_le (hI b o h) (Nat.le_trans hn0 hbw.size)) (RepC.mono hkeep _ _ _ hrep)
   have hstep:=can_step (x:=x) hk7
   have hlen:=can_len (x:=x) hk7
   have hpre:=can_pre (x:=x) (k:=k + 1)
   have C:Hid (wr.heap[Bn]? = some (.cells cs 48 (0,0)) ∧ (parts7.take (k + 1)).filter (can x) = (parts7.take k).filter (can x) ++ (if can x k then [(k:Int)] else [])):=⟨hbk,hstep⟩
   have hblt:Bn < wr.heap.size:=(Array.getElem?_eq_some_iff.1 hbk).1
   clear hbox hstep
   rw [show (T2.val x k).1 = can x k from rfl] at hcall
   cases hcan:can x k with
   | false =>
    rw [hcan] at hcall
    gi_wp2_with (first
     | (refine a49 rfl _ rfl rfl hbk hsz ?_)
     | (refine ⟨trivial,?_⟩; gi_at_call 89; refine (callsIn_wide.2 hcall).mono ?_; rintro e W2 ⟨rfl,hb2⟩))
    refine ⟨fun _ h=>(by cases h),?_⟩
    gi_wp2
    go_roundw
    case rel =>
     obtain ⟨hbk,hstep⟩:=C.out
     refine ⟨k + 1,by omega,rfl,?_,(hb2.block Bn hblt).trans hbk,hbw.trans (hb2.mono (Nat.le_trans hn0 hbw.size))⟩
     rw [hstep,hcan]
     have:=hJ _ wr W2 none hJk ⟨hb2.os,hb2.tape,hb2.output,hb2.size,fun q hq _=>hb2.block q hq⟩ (fun r e=>by cases e)
     simpa using this
    case measure=>simp only [Go.RowKit.intOf]; omega
   | true =>
    rw [hcan] at hcall
    gi_wp2_with (first
     | (refine a49 rfl _ rfl rfl hbk hsz ?_)
     | (refine ⟨trivial,?_⟩; gi_at_call 89; refine (callsIn_wide.2 hcall).mono ?_; rintro e W2 ⟨rfl,hb2⟩; obtain ⟨fn,tmps,assign,body,hy,hR⟩:=hY _ k W2 (hJ _ wr W2 none hJk ⟨hb2.os,hb2.tape,hb2.output,hb2.size,fun q hq _=>hb2.block q hq⟩ (fun r e=>by cases e)) hlen))
    refine hR.mono ?_
    rintro e W3 (⟨rfl,hJ3,hk3⟩ | ⟨rfl,hJx3⟩)
    ·gi_wp2
     go_roundw
     case rel =>
      obtain ⟨hbk,hstep⟩:=C.out
      obtain ⟨q1,q2⟩:=hKp _ _ hk3
      refine ⟨k + 1,by omega,rfl,?_,q2.trans ((hb2.block Bn hblt).trans hbk),(hbw.trans (hb2.mono (Nat.le_trans hn0 hbw.size))).trans q1⟩
      rw [hstep,hcan]
      exact hJ3
     case measure=>simp only [Go.RowKit.intOf]; omega
    ·gi_wp2
     refine bodyPost_ret (results_none rfl _ _ _) rfl ?_
     obtain ⟨hbk,hstep⟩:=C.out
     refine ⟨⟨_,rfl⟩,.inr ⟨_,hpre,?_⟩⟩
     rw [hstep,hcan]
     exact hJx3
  ·have hk7':¬ (k:Int) < 7:=by omega
   gi_wp2
   go_end0
   have:k = 7:=by omega
   subst this
   exact ⟨⟨_,rfl⟩,.inl hJk⟩
theorem C37 (t:Told 89 T2.sg) (n:Nat) (hn:1 ≤ n) (Bn n0:Nat) (x:Ty.den a7) (cs:Array Value) (Kp:World → World → Prop) (hKp:∀ A B,Kp A B → Below n0 A B ∧ B.heap[Bn]? = A.heap[Bn]?)
  (w:World) (hbox:w.heap[Bn]? = some (.cells cs 48 (0,0))) (I:Cells) (hw:WI w I) (hI:∀ b o,I b o → b < n0) (hn0:n0 ≤ w.heap.size) (hrep:RepC w I a7 x cs.toList) (hdom:(parts7.all fun i=>T2.dom x i) = true) :
  SeqStopsK Fence.wide n Tryz.prog 88 #[.pointer (some ⟨Bn,0,none⟩)] (fun x:Int=>#[Value.int .i64 x]) Kp (fun ys=>ys = parts7.filter (can x)) (fun pre=>pre <+: parts7.filter (can x)) 7 w:=fun l J Jx W hW hJ _ hY h0=>by
 have hkeep:Keeps w W I I:=⟨fun b o h=>⟨h,hW.cell (p:=⟨b,o,none⟩) (Nat.lt_of_lt_of_le (hI b o h) hn0)⟩⟩
 exact ready1_in t n hn l Bn n0 x cs J Jx Kp hKp W hY ((hW.block Bn (Array.getElem?_eq_some_iff.1 hbox).1).trans hbox) I (w14 _ _ _ _ hkeep hw) hI (Nat.le_trans hn0 hW.size) (RepC.mono hkeep _ _ _ hrep) hdom hJ h0
theorem enters88:∀ args w,(callFunc 88 args).run Tryz.prog w = .ok (.enter 88 args) w:=enters_of Tryz.func88 (by kernel_rfl) rfl
theorem info3:(Tryz.prog.info? 3).map (fun i=>(i.zero,i.size,i.bytes)) = some (some (.int .i64 0),1,8):=by kernel_rfl
theorem row_from {β:Type} (Bn B:Nat) (o:Obj) (ho:o.isCells = true):OwnFrom B (fun (_:β) W=>W.heap[Bn]? = some o):=fun _ A C row hs hg hr=>by
 have hlt:Bn < A.heap.size:=(Array.getElem?_eq_some_iff.1 hs).1
 refine (hg.block Bn hlt fun e=>?_).trans hs
 obtain ⟨_,o',h1,h2⟩:=hr Bn e.symm
 rw [hs] at h1
 cases h1
 rw [ho] at h2
 cases h2
set_option maxHeartbeats 4000000 in
theorem Ready_walk (t:Told 89 T2.sg) (x:Ty.den a7) (cs:Array Value) (w:World) (I:Cells) (hw:WI w I) (hI:∀ b o,I b o → b < w.heap.size) (hrep:RepC w I a7 x cs.toList) (hdom:(parts7.all fun i=>T2.dom x i) = true) :
  Calls Tryz.prog 22 #[.agg cs] w fun e w'=>∃ v,e = .returned v ∧ w'.ownsRow w.heap.size 3 1 v (parts7.filter (can x)).length ((parts7.filter (can x)).map (Value.int .i64)) ∧ Below w.heap.size w w':=by
 have hsz:cs.size = 83:=by
  have h1:=hrep.len
  have h2:a7.width = 83:=by decide
  rw [h2] at h1
  simpa using h1
 obtain ⟨i0,hi,hz0,hz1,hz2⟩:=info_parts info3
 have hA1:=heap_alloc_new w (.cells cs 48)
 have hb1:((w.alloc (.cells cs 48)).alloc (.cells #[.slice none 0 0] 23)).heap[w.heap.size]? = some (.cells cs 48 (0,0)):=(Below.heap_alloc _ _ _ (by simp)).trans hA1
 refine (callsIn_wide (n:=5)).1 ?_
 refine callsIn_of_wp_marks Tryz.func22 rfl trivial ?_ rfl
 simp only [Tryz.ntmps22,List.size_toArray,List.length_cons,List.length_nil,Nat.reduceAdd,Nat.reduceSub,Array.replicate_succ,Array.replicate_zero,List.push_toArray,List.append_toArray,List.nil_append,List.cons_append]
 gi_wp2_with (first
  | (refine a49 rfl _ rfl rfl hb1 hsz ?_)
  | (refine ⟨trivial,?_⟩; gi_at_call 61; refine (ready_in _ _ _).mono ?_; rintro e w' ⟨rfl,rfl⟩))
 obtain ⟨W3,hW3⟩:∃ W3,((w.alloc (.cells cs 48)).alloc (.cells #[.slice none 0 0] 23)).alloc (.cells cs 48) = W3:=⟨_,rfl⟩
 have bO:Boxed W3 (w.heap.size + 1) 23 (.slice none 0 0):=by
  have:=(Boxed.new (w.alloc (.cells cs 48)) 23 (.slice none 0 0)).alloc (.cells cs 48)
  rw [hW3] at this
  simpa using this
 have hBn3:W3.heap[w.heap.size + 1 + 1]? = some (.cells cs 48 (0,0)):=by
  have:=heap_alloc_new ((w.alloc (.cells cs 48)).alloc (.cells #[.slice none 0 0] 23)) (.cells cs 48)
  rw [hW3] at this
  simpa using this
 have hB0:Below w.heap.size w W3:=by
  rw [← hW3]
  exact (((Below.refl _ w).alloc (Nat.le_refl _) _).alloc (by simp) _).alloc (by simp; omega) _
 have hs3:W3.heap.size = w.heap.size + 1 + 1 + 1:=by rw [← hW3]; simp
 have hkeep:Keeps w W3 I I:=⟨fun b o h=>⟨h,hB0.cell (p:=⟨b,o,none⟩) (hI b o h)⟩⟩
 rw [hW3]
 refine wpIn_rangeFunc_ownG rfl (by omega) (gf:=88) (lb:=#[.pointer (some ⟨w.heap.size + 1 + 1,0,none⟩)]) rfl trivial enters88
  (C37 t 4 (by omega) (w.heap.size + 1 + 1) w.heap.size x cs (fun A B=>Below w.heap.size A B ∧ B.heap[w.heap.size + 1 + 1]? = A.heap[w.heap.size + 1 + 1]?) (fun _ _ h=>h) W3 hBn3 I (w14 _ _ _ _ hkeep hw) hI hB0.size (RepC.mono hkeep _ _ _ hrep) hdom)
  (fun h k=>⟨h.1.trans k.1,k.2.trans h.2⟩)
  (fun W l o o' hl h1 h2 h3=>⟨belowK_b hB0.size W l o o' hl h1 h2 h3,(grownBy_putObj' W l o').block _ (by have:=(Array.getElem?_eq_some_iff.1 h1).1; omega) (fun e=>by cases e; omega)⟩) (Below.refl _ _) (fun _=>rfl)
  (fun pre W=>(∃ v,Boxed W (w.heap.size + 1) 23 v ∧ W.ownsRow w.heap.size 3 1 v pre.length (pre.map (Value.int .i64)) ∧ (v = .slice none 0 0 ↔ pre = [])) ∧ Below w.heap.size w W ∧ W.heap[w.heap.size + 1 + 1]? = some (.cells cs 48 (0,0)))
  (fun _ _ _=>False)
  (OwnFrom.and (Own.from (holdsRow_own w.heap.size (w.heap.size + 1) 23 3 1 (fun pre=>pre.length) (fun pre=>pre.map (Value.int .i64)) (fun pre v=>v = .slice none 0 0 ↔ pre = [])) _) (OwnFrom.and (ownFrom_below (Nat.le_refl _) hB0.size) (row_from _ _ _ rfl)))
  (fun _ _ _ _ _ hs _ _=>hs)
  ⟨⟨_,bO,World.ownsRow_nil _ _ _ _,by simp⟩,hB0,hBn3⟩
  (fun x=>{ tmps:=#[.agg cs,.pointer (some ⟨w.heap.size,0,none⟩),.slice none 0 0,.pointer (some ⟨w.heap.size + 1,0,none⟩),.int .i64 x,.agg cs,.func (.func 88) #[] #[.pointer (some ⟨w.heap.size + 1 + 1,0,none⟩)],.int .i64 x,undef,undef,undef,undef,undef],defers:=[] }) ?assign ?body ?done ?stop
 case assign =>
  intro l x W K hK
  gi_wp2
  exact hK
 case body =>
  rintro l pre x W ⟨⟨v,hv,hrow,hnil⟩,hB,hBn⟩ hlt
  have hc:=hv.cell
  have BB:Hid (W.heap[w.heap.size + 1 + 1]? = some (.cells cs 48 (0,0))):=hBn
  clear hBn hA1 hb1 hBn3 hs3 hW3
  gi_wp2_with (gi_at_builtin; refine wpListIn_append_own _ rfl _ _ 23 rfl w.heap.size 3 i0 (.int .i64 0) 1 8 Tryz.underlying23 hi hz0 hz1 hz2 rfl (by decide) _ _ _ rfl (hrow.alloc _) ⟨W.heap.size,0,none⟩ 1 1 [.int .i64 x] rfl rfl (cell_one_new _ _ _) (by simp [Value.oneCell']) (by unfold maxLen; omega) (by omega) (by have:=hB.size; simp; omega) ?_; intro v' w1 hown' hgrow _; obtain ⟨g',cap',rfl⟩:=ownsRow_succ hown'; obtain ⟨hv1,hv2,hr2,hk2,hb2⟩:=hv.appended (by decide) hrow hB.size (Nat.le_succ _) hown' hgrow; have hc1:=hv1.cell; have hf1:=hv1.frozen)
  have hBn:=BB.out
  have hblt:w.heap.size + 1 + 1 < W.heap.size:=(Array.getElem?_eq_some_iff.1 hBn).1
  have hne:some (w.heap.size + 1 + 1) ≠ v.ownBlock:=fun e=>by
   rcases hrow.2 with ⟨rfl,_⟩ | ⟨g,cap,cur,rfl,_,hgb,_⟩
   ·cases e
   ·have:w.heap.size + 1 + 1 = g:=by simpa [Value.ownBlock] using e
    subst this
    rw [hBn] at hgb
    cases hgb
  have hkb:(w1.setCell ⟨w.heap.size + 1,0,none⟩ (.slice (some ⟨g',0,none⟩) (pre.length + 1) cap')).heap[w.heap.size + 1 + 1]? = W.heap[w.heap.size + 1 + 1]? :=
   (Below.heap_setCell _ _ _ _ (by simp)).trans ((hgrow.block _ (by simp; omega) hne).trans (Below.heap_alloc _ _ _ hblt))
  exact ⟨hk2.from _,⟨hb2,hkb⟩,⟨_,hv2,by simpa using hr2,by simp⟩,hB.trans hb2,hkb.trans hBn⟩
 case done =>
  rintro D ys W hD rfl ⟨⟨v,hv,hrow,hnil⟩,hB,hBn⟩ hK
  have hc:=hv.cell
  clear hBn hA1 hb1 hBn3 hW3
  gi_wp2
  refine ⟨by simp,.inl ⟨_,_,rfl,run_takeDeferred hK,?_⟩⟩
  exact ⟨_,results_tmp rfl _ _ _,v,rfl,ownsRow_putObj hrow _ hK rfl,hB.trans (belowK_b (w:=w) (Nat.le_refl _) W D _ _ (by omega) hK rfl rfl)⟩
 case stop =>
  rintro D c pre W _ _ h _
  exact h.elim
theorem RepLs.ints' {k:IntKind} {w:World} {I:Cells}:∀ (l:List Int),RepLs (RepC w I (.int k)) l (l.map (Value.int k))
 | []=>rfl
 | n :: l=>⟨[.int k n],_,rfl,rfl,RepLs.ints' l⟩
theorem conn_arg {w:World} {I:Cells} {x:Ty.den a7} {v:Value} (h:RepV w I a7 x v):∃ cs:Array Value,v = .agg cs ∧ RepC w I a7 x cs.toList:=by
 rcases h with ⟨hf,_⟩ | ⟨_,cs,hv,hr⟩
 ·cases hf
 ·exact ⟨cs,hv,hr⟩
theorem T1.told (t:Told 89 T2.sg):Told 22 T1.sg:=by
 refine ⟨fun w I vals x hw hI hargs hd=>?_,fn22.2⟩
 obtain ⟨c,xe⟩:=x
 cases xe
 obtain ⟨v,vs,rfl,hv,hvs⟩:=hargs
 have hvs':vs = []:=hvs
 subst hvs'
 obtain ⟨cs,rfl,hr⟩:=conn_arg hv
 refine (Ready_walk t c cs w I hw hI hr hd).mono ?_
 rintro e w' ⟨v,rfl,⟨_,hown⟩,hb⟩
 have hval:(T1.val c).1 = parts7.filter (can c):=rfl
 have fin:∀ J:Cells,(∀ b o,J b o → w.heap.size ≤ b ∧ b < w'.heap.size) → RepC w' (orCells I J) (.slice (.int .i64)) (parts7.filter (can c)) [v] →
   ∃ v' J,Ending.returned v = .returned v' ∧ Below w.heap.size w w' ∧ (∀ b o,J b o → w.heap.size ≤ b ∧ b < w'.heap.size) ∧ RepRes w w' I J T1.sg (T1.sg.val (c,())) v':=fun J hJ hrep =>
  ⟨v,J,rfl,hb,hJ,.inl ⟨rfl,hrep⟩⟩
 rcases hown with ⟨rfl,hn⟩ | ⟨g,cap,cur,rfl,hg,hcur,hle,hcm,hcs,htk⟩
 ·refine fin (fun _ _=>False) (fun _ _ h=>h.elim) ?_
  have h0:parts7.filter (can c) = []:=List.eq_nil_of_length_eq_zero hn
  rw [h0]
  exact ⟨none,0,rfl,Nat.le_refl _,.inl rfl⟩
 ·refine fin (fun b _=>b = g) (fun b _ h=>?_) ⟨some ⟨g,0,none⟩,cap,rfl,hle,.inr ⟨g,0,_,rfl,RepLs.ints' _,fun j u hj=>⟨.inr rfl,?_⟩⟩⟩
  ·have:b = g:=h
   have:=(Array.getElem?_eq_some_iff.1 hcur).1
   omega
  ·rw [Nat.mul_one] at htk
   exact w26 hcur j u (by
    have h3:(cur.toList.take (parts7.filter (can c)).length)[j]? = some u:=by rw [htk]; exact hj
    rw [List.getElem?_take] at h3
    split at h3
    ·exact h3
    ·cases h3)
theorem w25 {F:Fence} {n:Nat} {w:World} {ops:Array Oper} {rest:List Oper} {o:Oper} {a:Act} {Q:Exit → Act → World → Prop}
  (hg:Region.wanted o (yielded ops a.tmps) = true) (p:Operand) (hop:o.op = Op.load 48 p) {b:Nat} {cs:Array Value} {el:TypeId} (hp:a.eval p = .pointer (some ⟨b,0,none⟩)) (hb:w.heap[b]? = some (.cells cs el (0,0))) (hsz:cs.size = 83)
  (hK:wpListIn F n Tryz.prog ops Q rest (a.put o.dst (.agg cs)) w):wpListIn F n Tryz.prog ops Q (o :: rest) a w:=by
 refine wpListIn_step fun K hK'=>?_
 rw [if_pos hg]
 have hrun:=load48 hb hsz
 unfold Oper.wpIn
 refine ⟨?_,?_⟩
 ·simp [Oper.about,hop]
 ·rw [Oper.semAt_plain F _ _ (by rw [hop]; intro c hc'; cases hc')]
  simp [execOp,hop,hp,Instr.loadAt,Instr.sureAddr,hrun,Result.andThen]
  exact hK' _ _ hK
theorem bool_res {w:World} {I:Cells} {b:Bool} {v:Value} (h:RepV w I .bool b v):v = .bool b:=by
 rcases h with ⟨_,hv⟩ | ⟨hf,_⟩
 ·have h2:[v] = [.bool b]:=hv
  simpa using h2
 ·cases hf
theorem int_res {w:World} {I:Cells} {k:IntKind} {z:Int} {v:Value} (h:RepV w I (.int k) z v):v = .int k z:=by
 rcases h with ⟨_,hv⟩ | ⟨hf,_⟩
 ·have h2:[v] = [.int k z]:=hv
  simpa using h2
 ·cases hf
section
variable {x:Ty.den a7} {cs:Array Value} {w:World} {I:Cells}
theorem over_call (t:Told 25 L5.sg) (hd:L5.dom x = true) (hw:WI w I) (hI:∀ b o,I b o → b < w.heap.size) (hr:RepC w I a7 x cs.toList) :
  Calls Tryz.prog 25 #[.agg cs] w fun e w'=>e = .returned (.bool (L5.val x).1) ∧ Below w.heap.size w w':=by
 refine (t.ct w I [.agg cs] (x,()) hw hI ⟨_,_,rfl,.inr ⟨rfl,cs,rfl,hr⟩,rfl⟩ hd).mono ?_
 rintro e w' ⟨v,J,rfl,hb,_,hres⟩
 have hres':RepV w' (orCells I J) .bool (L5.val x).1 v:=hres
 exact ⟨by rw [bool_res hres'],hb⟩
theorem gone_call (t:Told 62 S0.sg) (hd:S0.dom x 0 = true) (hw:WI w I) (hI:∀ b o,I b o → b < w.heap.size) (hr:RepC w I a7 x cs.toList) :
  Calls Tryz.prog 62 #[.agg cs,.int .i64 0] w fun e w'=>e = .returned (.bool (S0.val x 0).1) ∧ Below w.heap.size w w':=by
 refine (t.ct w I [.agg cs,.int .i64 0] (x,(0:Int),()) hw hI ⟨_,_,rfl,.inr ⟨rfl,cs,rfl,hr⟩,_,_,rfl,.inl ⟨rfl,rfl⟩,rfl⟩ hd).mono ?_
 rintro e w' ⟨v,J,rfl,hb,_,hres⟩
 have hres':RepV w' (orCells I J) .bool (S0.val x 0).1 v:=hres
 exact ⟨by rw [bool_res hres'],hb⟩
theorem w85 (t:Told 64 a19.sg) (hd:a19.dom x = true) (hw:WI w I) (hI:∀ b o,I b o → b < w.heap.size) (hr:RepC w I a7 x cs.toList) :
  Calls Tryz.prog 64 #[.agg cs] w fun e w'=>e = .returned (.int .i64 (a19.val x).1) ∧ Below w.heap.size w w':=by
 refine (t.ct w I [.agg cs] (x,()) hw hI ⟨_,_,rfl,.inr ⟨rfl,cs,rfl,hr⟩,rfl⟩ hd).mono ?_
 rintro e w' ⟨v,J,rfl,hb,_,hres⟩
 have hres':RepV w' (orCells I J) (.int .i64) (a19.val x).1 v:=hres
 exact ⟨by rw [int_res hres'],hb⟩
theorem wire_call (t:Told 23 a16.sg) (hd:a16.dom x = true) (hw:WI w I) (hI:∀ b o,I b o → b < w.heap.size) (hr:RepC w I a7 x cs.toList) :
  Calls Tryz.prog 23 #[.agg cs] w fun e w'=>∃ v J,e = .returned v ∧ Below w.heap.size w w' ∧ (∀ b o,J b o → w.heap.size ≤ b ∧ b < w'.heap.size) ∧ RepV w' (orCells I J) D7 (a16.val x).1 v:=by
 refine (t.ct w I [.agg cs] (x,()) hw hI ⟨_,_,rfl,.inr ⟨rfl,cs,rfl,hr⟩,rfl⟩ hd).mono ?_
 rintro e w' ⟨v,J,rfl,hb,hJ,hres⟩
 exact ⟨v,J,rfl,hb,hJ,hres⟩
theorem C58 {y:Ty.den D7} {v:Value} (t:Told 63 S9.sg) (hd:S9.dom y = true) (hw:WI w I) (hI:∀ b o,I b o → b < w.heap.size) (hr:RepV w I D7 y v) :
  Calls Tryz.prog 63 #[v] w fun e w'=>e = .returned (.bool (S9.val y).1) ∧ Below w.heap.size w w':=by
 refine (t.ct w I [v] (y,()) hw hI ⟨_,_,rfl,hr,rfl⟩ hd).mono ?_
 rintro e w' ⟨v,J,rfl,hb,_,hres⟩
 have hres':RepV w' (orCells I J) .bool (S9.val y).1 v:=hres
 exact ⟨by rw [bool_res hres'],hb⟩
end
structure Asks (I:Cells) (x:Ty.den a7) (cs:Array Value) (w:World):Prop where
 hw:WI w I
 hI:∀ b o,I b o → b < w.heap.size
 hr:RepC w I a7 x cs.toList
theorem Asks.later {I:Cells} {x:Ty.den a7} {cs:Array Value} {w w':World} {n:Nat} (h:Asks I x cs w) (hn:∀ b o,I b o → b < n) (hb:Below n w w'):Asks I x cs w':=by
 have hk:Keeps w w' I I:=⟨fun b o hi=>⟨hi,hb.cell (p:=⟨b,o,none⟩) (hn b o hi)⟩⟩
 exact ⟨w14 _ _ _ _ hk h.hw,fun b o hi=>Nat.lt_of_lt_of_le (h.hI b o hi) hb.size,RepC.mono hk _ _ _ h.hr⟩
set_option maxHeartbeats 4000000 in
theorem waits_over (t:Told 25 L5.sg) (x:Ty.den a7) (cs:Array Value) (w:World) (I:Cells) (h:Asks I x cs w) (hd:L5.dom x = true) (ho:(L5.val x).1 = true) :
  Calls Tryz.prog 24 #[.agg cs] w fun e w'=>e = .returned (.int .i64 0) ∧ Below w.heap.size w w':=by
 have hsz:cs.size = 83:=by
  have h1:=h.hr.len
  have h2:a7.width = 83:=by decide
  rw [h2] at h1
  simpa using h1
 have hA1:=heap_alloc_new w (.cells cs 48)
 have hb1:((w.alloc (.cells cs 48)).alloc (.cells #[.int .i64 0] 3)).heap[w.heap.size]? = some (.cells cs 48 (0,0)):=(Below.heap_alloc _ _ _ (by simp)).trans hA1
 have hB0:Below w.heap.size w ((w.alloc (.cells cs 48)).alloc (.cells #[.int .i64 0] 3)):=((Below.refl _ w).alloc (Nat.le_refl _) _).alloc (by simp) _
 have h2:=h.later h.hI hB0
 have hcall:=over_call t hd h2.hw h2.hI h2.hr
 rw [ho] at hcall
 have bR:Boxed ((w.alloc (.cells cs 48)).alloc (.cells #[.int .i64 0] 3)) (w.heap.size + 1) 3 (.int .i64 0):=by
  have:=Boxed.new (w.alloc (.cells cs 48)) 3 (.int .i64 0)
  simpa using this
 clear hA1
 refine (callsIn_wide (n:=5)).1 ?_
 refine callsIn_of_wp Tryz.func24 rfl trivial ?_ rfl
 simp only [Tryz.ntmps24,List.size_toArray,List.length_cons,List.length_nil,Nat.reduceAdd,Nat.reduceSub,Array.replicate_succ,Array.replicate_zero,List.push_toArray,List.append_toArray,List.nil_append,List.cons_append]
 gi_wp2_with (first
  | (refine a49 rfl _ rfl rfl hb1 hsz ?_)
  | (refine ⟨trivial,?_⟩; gi_at_call 25; refine (callsIn_wide.2 hcall).mono ?_; rintro e w' ⟨rfl,hb⟩; have bR2:Boxed w' (w.heap.size + 1) 3 (.int .i64 0):=(hb.block _ bR.lt).trans bR; have hc2:=bR2.cell; have hf2:=bR2.frozen))
 have hc5:=World.cell?_setCell_same' w' ⟨w.heap.size + 1,0,none⟩ (.int .i64 0) (by rw [hc2]; rfl)
 refine bodyPost_ret (v:=.int .i64 0) ?_ rfl ?_
 ·simp [results,Tryz.f24,go_sem,hc5]
 ·exact ⟨rfl,(hB0.trans (hb.mono hB0.size)).setCell (p:=⟨w.heap.size + 1,0,none⟩) (Nat.le_succ _) _⟩
set_option maxHeartbeats 4000000 in
theorem waits_else (t1:Told 25 L5.sg) (t2:Told 89 T2.sg) (t3:Told 62 S0.sg) (t4:Told 23 a16.sg) (t5:Told 63 S9.sg) (t6:Told 64 a19.sg) (x:Ty.den a7) (cs:Array Value) (w:World) (I:Cells) (h:Asks I x cs w)
  (hd:L5.dom x = true) (ho:(L5.val x).1 = false) (hdom:(parts7.all fun i=>T2.dom x i) = true) (hd3:S0.dom x 0 = true) (hd4:a16.dom x = true) (hd5:S9.dom (a16.val x).1 = true) (hd6:a19.dom x = true) :
  Calls Tryz.prog 24 #[.agg cs] w fun e w'=>e = .returned (.int .i64 (a17.val x).1) ∧ Below w.heap.size w w':=by
 have hsz:cs.size = 83:=by
  have h1:=h.hr.len
  have h2:a7.width = 83:=by decide
  rw [h2] at h1
  simpa using h1
 have hA1:=heap_alloc_new w (.cells cs 48)
 have hb1:((w.alloc (.cells cs 48)).alloc (.cells #[.int .i64 0] 3)).heap[w.heap.size]? = some (.cells cs 48 (0,0)):=(Below.heap_alloc _ _ _ (by simp)).trans hA1
 have hB0:Below w.heap.size w ((w.alloc (.cells cs 48)).alloc (.cells #[.int .i64 0] 3)):=((Below.refl _ w).alloc (Nat.le_refl _) _).alloc (by simp) _
 have h2:=h.later h.hI hB0
 have hcall:=over_call t1 hd h2.hw h2.hI h2.hr
 rw [ho] at hcall
 have bR:Boxed ((w.alloc (.cells cs 48)).alloc (.cells #[.int .i64 0] 3)) (w.heap.size + 1) 3 (.int .i64 0):=by
  have:=Boxed.new (w.alloc (.cells cs 48)) 3 (.int .i64 0)
  simpa using this
 have hlt1:w.heap.size < ((w.alloc (.cells cs 48)).alloc (.cells #[.int .i64 0] 3)).heap.size:=by simp; omega
 clear hA1
 refine (callsIn_wide (n:=5)).1 ?_
 refine callsIn_of_wp_marks Tryz.func24 rfl trivial ?_ rfl
 simp only [Tryz.ntmps24,List.size_toArray,List.length_cons,List.length_nil,Nat.reduceAdd,Nat.reduceSub,Array.replicate_succ,Array.replicate_zero,List.push_toArray,List.append_toArray,List.nil_append,List.cons_append]
 gi_wp2_with (first
  | (refine a49 rfl _ rfl rfl hb1 hsz ?_)
  | (refine a49 rfl _ rfl rfl hb2 hsz ?_)
  | (refine ⟨trivial,?_⟩; gi_at_call 25; refine (callsIn_wide.2 hcall).mono ?_; rintro e w2 ⟨rfl,hb⟩; have hb2:=(hb.block _ hlt1).trans hb1)
  | (refine ⟨trivial,?_⟩; gi_at_call 61; refine (ready_in _ _ _).mono ?_; rintro e w' ⟨rfl,rfl⟩))
 have hBw:Below w.heap.size w w2:=hB0.trans (hb.mono hB0.size)
 have hsz2:=hb.size
 have bR2:Boxed w2 (w.heap.size + 1) 3 (.int .i64 0):=(hb.block _ bR.lt).trans bR
 clear hb hcall hb1 bR hlt1 h2 hB0
 obtain ⟨W3,hW3⟩:∃ W3,w2.alloc (.cells cs 48) = W3:=⟨_,rfl⟩
 have hBn3:W3.heap[w2.heap.size]? = some (.cells cs 48 (0,0)):=by rw [← hW3]; exact heap_alloc_new _ _
 have hb3:W3.heap[w.heap.size]? = some (.cells cs 48 (0,0)):=by rw [← hW3]; exact (Below.heap_alloc _ _ _ (by have:=(Array.getElem?_eq_some_iff.1 hb2).1; exact this)).trans hb2
 have bR3:Boxed W3 (w.heap.size + 1) 3 (.int .i64 0):=by rw [← hW3]; exact bR2.alloc _
 have hB3:Below w.heap.size w W3:=by rw [← hW3]; exact hBw.alloc hBw.size _
 have hs3:W3.heap.size = w2.heap.size + 1:=by rw [← hW3]; simp
 have h3:=h.later h.hI hB3
 rw [hW3]
 refine wpIn_rangeFunc_ownG rfl (by omega) (gf:=88) (lb:=#[.pointer (some ⟨w2.heap.size,0,none⟩)]) rfl trivial enters88
  (C37 t2 4 (by omega) w2.heap.size w.heap.size x cs (fun A B=>Below w.heap.size A B ∧ B.heap[w2.heap.size]? = A.heap[w2.heap.size]?) (fun _ _ h=>h) W3 hBn3 I h3.hw h.hI hB3.size h3.hr hdom)
  (fun h k=>⟨h.1.trans k.1,k.2.trans h.2⟩)
  (fun W l o o' hl h1 h2 h3=>⟨belowK_b hB3.size W l o o' hl h1 h2 h3,(grownBy_putObj' W l o').block _ (by have:=(Array.getElem?_eq_some_iff.1 h1).1; omega) (fun e=>by cases e; omega)⟩) (Below.refl _ _) (fun _=>rfl)
  (fun pre W=>(pre = [] ∧ Boxed W (w.heap.size + 1) 3 (.int .i64 0)) ∧ Below w.heap.size w W ∧ W.heap[w.heap.size]? = some (.cells cs 48 (0,0)))
  (fun c pre W=>(c = .ret ∧ pre ≠ [] ∧ Boxed W (w.heap.size + 1) 3 (.int .i64 0)) ∧ Below w.heap.size w W)
  (OwnFrom.and (OwnFrom.and (ownFrom_pure _ _) (Own.from (boxed_own _ _ _) _)) (OwnFrom.and (ownFrom_below (Nat.le_refl _) hB3.size) (row_from _ _ _ rfl)))
  (fun c=>OwnFrom.and (OwnFrom.and (ownFrom_pure _ _) (OwnFrom.and (ownFrom_pure _ _) (Own.from (boxed_own _ _ _) _))) (ownFrom_below (Nat.le_refl _) hB3.size))
  ⟨⟨rfl,bR3⟩,hB3,hb3⟩
  (fun x=>{ tmps:=#[.agg cs,.pointer (some ⟨w.heap.size,0,none⟩),.pointer (some ⟨w.heap.size + 1,0,none⟩),undef,.agg cs,.bool false,.agg cs,.func (.func 88) #[] #[.pointer (some ⟨w2.heap.size,0,none⟩)],.int .i64 x,undef,undef,undef,undef,undef,undef,undef,undef,undef,undef,undef,undef,undef,undef,undef,undef],defers:=[] }) ?assign ?body ?done ?stop
 case assign =>
  intro l x W K hK
  gi_wp2
  simpa using hK
 case body =>
  rintro l pre x W ⟨⟨rfl,hv⟩,hB,hbx⟩ hlt
  have hc:=hv.cell
  have hf:=hv.frozen
  clear hbx hb3 hBn3 hW3 hb2
  gi_wp2
  exact ⟨(KeepsOthers.setCell _ _ _).from _,⟨rfl,by simp,hv.set _⟩,hB.setCell (p:=⟨w.heap.size + 1,0,none⟩) (Nat.le_succ _) _⟩
 case done =>
  rintro D ys W hD hys ⟨⟨rfl,hv⟩,hB,hbx⟩ hK
  have hys':parts7.filter (can x) = []:=hys.symm
  have hAsk:=h.later h.hI hB
  have hDn:w.heap.size ≤ D:=Nat.le_trans hB3.size hD
  have hblt:w.heap.size < W.heap.size:=(Array.getElem?_eq_some_iff.1 hbx).1
  have hDlt:D < W.heap.size:=(Array.getElem?_eq_some_iff.1 hK).1
  have hc62:=gone_call t3 hd3 hAsk.hw hAsk.hI hAsk.hr
  have hval:a17.val x = ((bif !(S0.val x 0).1 && (S9.val (a16.val x).1).1 then 1 else 0) + (bif decide ((a19.val x).1 > 0) then 2 else 0),()):=by
   unfold a17.val
   rw [ho,show (T1.val x).1 = parts7.filter (can x) from rfl,hys']
   rfl
  have HV:Hid (_ = _):=hval
  have KK:Hid (W.heap[D]? = some (.deferred (some []))):=hK
  have BV:Hid (Boxed W (w.heap.size + 1) 3 (.int .i64 0)):=hv
  clear hb3 hBn3 hW3 hb2 hK hv hval hys hys'
  obtain ⟨g,hg⟩:∃ g,(S0.val x 0).1 = g:=⟨_,rfl⟩
  rw [hg] at hc62
  have HG:Hid ((S0.val x 0).1 = g):=hg
  clear hg
  obtain ⟨z,hz⟩:∃ z:Int,(a19.val x).1 = z:=⟨_,rfl⟩
  have HZ:Hid ((a19.val x).1 = z):=hz
  clear hz
  obtain ⟨q,hq⟩:∃ q,(S9.val (a16.val x).1).1 = q:=⟨_,rfl⟩
  have HQ:Hid ((S9.val (a16.val x).1).1 = q):=hq
  clear hq
  cases g with
  | true =>
   gi_wp2_with (first
    | (refine a49 rfl _ rfl rfl hbx hsz ?_)
    | (refine ⟨trivial,?_⟩; gi_at_call 62; refine (callsIn_wide.2 hc62).mono ?_; rintro e w5 ⟨rfl,hb5⟩; have ask5:=hAsk.later hAsk.hI hb5; have hbx5:=(hb5.block _ hblt).trans hbx)
    | (refine a49 rfl _ rfl rfl hbx5 hsz ?_)
    | (refine ⟨trivial,?_⟩; gi_at_call 64; refine (callsIn_wide.2 (w85 t6 hd6 ask5.hw ask5.hI ask5.hr)).mono ?_; rw [HZ.out]; rintro e wZ ⟨rfl,hb6⟩; have hB6:=hb5.trans (hb6.mono hb5.size); have bR6:Boxed wZ (w.heap.size + 1) 3 (.int .i64 0):=(hB6.block _ BV.out.lt).trans BV.out; have hc6:=bR6.cell; have hf6:=bR6.frozen; have hK6:=(hB6.block _ hDlt).trans KK.out))
   refine ⟨trivial,?_⟩
   gi_wp2_with (first
    | (refine a49 rfl _ rfl rfl hbx hsz ?_)
    | (refine ⟨trivial,?_⟩; gi_at_call 62; refine (callsIn_wide.2 hc62).mono ?_; rintro e w5 ⟨rfl,hb5⟩; have ask5:=hAsk.later hAsk.hI hb5; have hbx5:=(hb5.block _ hblt).trans hbx)
    | (refine a49 rfl _ rfl rfl hbx5 hsz ?_)
    | (refine ⟨trivial,?_⟩; gi_at_call 64; refine (callsIn_wide.2 (w85 t6 hd6 ask5.hw ask5.hI ask5.hr)).mono ?_; rw [HZ.out]; rintro e wZ ⟨rfl,hb6⟩; have hB6:=hb5.trans (hb6.mono hb5.size); have bR6:Boxed wZ (w.heap.size + 1) 3 (.int .i64 0):=(hB6.block _ BV.out.lt).trans BV.out; have hc6:=bR6.cell; have hf6:=bR6.frozen; have hK6:=(hB6.block _ hDlt).trans KK.out))
   refine ⟨trivial,?_⟩
   gi_wp2_with (first
    | (refine a49 rfl _ rfl rfl hbx hsz ?_)
    | (refine ⟨trivial,?_⟩; gi_at_call 62; refine (callsIn_wide.2 hc62).mono ?_; rintro e w5 ⟨rfl,hb5⟩; have ask5:=hAsk.later hAsk.hI hb5; have hbx5:=(hb5.block _ hblt).trans hbx)
    | (refine a49 rfl _ rfl rfl hbx5 hsz ?_)
    | (refine ⟨trivial,?_⟩; gi_at_call 64; refine (callsIn_wide.2 (w85 t6 hd6 ask5.hw ask5.hI ask5.hr)).mono ?_; rw [HZ.out]; rintro e wZ ⟨rfl,hb6⟩; have hB6:=hb5.trans (hb6.mono hb5.size); have bR6:Boxed wZ (w.heap.size + 1) 3 (.int .i64 0):=(hB6.block _ BV.out.lt).trans BV.out; have hc6:=bR6.cell; have hf6:=bR6.frozen; have hK6:=(hB6.block _ hDlt).trans KK.out))
   ·have hK':=(KeepsOthers.setCell wZ ⟨w.heap.size + 1,0,none⟩ (.int .i64 2)).same D _ hK6 rfl
    refine ⟨by simp,.inl ⟨_,_,rfl,run_takeDeferred hK',?_⟩⟩
    have hc7:=cell_kept (World.cell?_setCell_same' wZ ⟨w.heap.size + 1,0,none⟩ (.int .i64 2) (by rw [hc6]; rfl)) (grownBy_putObj' _ D (.deferred none)) (fun r e=>by cases e; exact ⟨_,hK',rfl⟩)
    refine ⟨.int .i64 2,?_,?_,((hB.trans (hB6.mono hB.size)).setCell (p:=⟨w.heap.size + 1,0,none⟩) (Nat.le_succ _) _).trans (belowK_b (w:=w) (Nat.le_refl _) _ D _ _ (by omega) hK' rfl rfl)⟩
    ·simp [results,Tryz.f24,go_sem,hc7]
    ·rw [HV.out,HG.out,HQ.out,HZ.out]; first | (simp_all; done) | (rw [show decide (z > 0) = false from decide_eq_false (by omega)]; simp)
   ·have hK':=(KeepsOthers.setCell wZ ⟨w.heap.size + 1,0,none⟩ (.int .i64 0)).same D _ hK6 rfl
    refine ⟨by simp,.inl ⟨_,_,rfl,run_takeDeferred hK',?_⟩⟩
    have hc7:=cell_kept (World.cell?_setCell_same' wZ ⟨w.heap.size + 1,0,none⟩ (.int .i64 0) (by rw [hc6]; rfl)) (grownBy_putObj' _ D (.deferred none)) (fun r e=>by cases e; exact ⟨_,hK',rfl⟩)
    refine ⟨.int .i64 0,?_,?_,((hB.trans (hB6.mono hB.size)).setCell (p:=⟨w.heap.size + 1,0,none⟩) (Nat.le_succ _) _).trans (belowK_b (w:=w) (Nat.le_refl _) _ D _ _ (by omega) hK' rfl rfl)⟩
    ·simp [results,Tryz.f24,go_sem,hc7]
    ·rw [HV.out,HG.out,HQ.out,HZ.out]; first | (simp_all; done) | (rw [show decide (z > 0) = false from decide_eq_false (by omega)]; simp)
  | false =>
   cases q with
   | false =>
    gi_wp2_with (first
    | (refine a49 rfl _ rfl rfl hbx hsz ?_)
    | (refine ⟨trivial,?_⟩; gi_at_call 62; refine (callsIn_wide.2 hc62).mono ?_; rintro e w5 ⟨rfl,hb5⟩; have ask5:=hAsk.later hAsk.hI hb5; have hbx5:=(hb5.block _ hblt).trans hbx)
    | (refine w25 rfl _ rfl rfl hbx5 hsz ?_)
    | (refine ⟨trivial,?_⟩; gi_at_call 23; refine (callsIn_wide.2 (wire_call t4 hd4 ask5.hw ask5.hI ask5.hr)).mono ?_; rintro e w6 ⟨v6,J6,rfl,hb6,hJ6,hr6⟩; have ask6:=ask5.later ask5.hI hb6; have hbx6:=(hb6.block _ (Nat.lt_of_lt_of_le hblt hb5.size)).trans hbx5; have k6:Keeps w5 w6 I (orCells I J6):=⟨fun b o hi=>⟨.inl hi,hb6.cell (p:=⟨b,o,none⟩) (ask5.hI b o hi)⟩⟩; have hc63:=C58 t5 hd5 (w14 _ _ _ _ k6 ask5.hw) (fun b o hi=>hi.elim (fun hi=>ask6.hI b o hi) (fun hi=>(hJ6 b o hi).2)) hr6; rw [HQ.out] at hc63)
    | (refine ⟨trivial,?_⟩; gi_at_call 63; refine (callsIn_wide.2 hc63).mono ?_; rintro e w7 ⟨rfl,hb7⟩; have ask7:=ask6.later ask6.hI hb7; have hbx7:=(hb7.block _ (Nat.lt_of_lt_of_le hblt (Nat.le_trans hb5.size hb6.size))).trans hbx6)
    | (refine w25 rfl _ rfl rfl hbx7 hsz ?_)
    | (refine ⟨trivial,?_⟩; gi_at_call 64; refine (callsIn_wide.2 (w85 t6 hd6 ask7.hw ask7.hI ask7.hr)).mono ?_; rw [HZ.out]; rintro e wZ ⟨rfl,hb8⟩; have hB6:=((hb5.trans (hb6.mono hb5.size)).trans (hb7.mono (Nat.le_trans hb5.size hb6.size))).trans (hb8.mono (Nat.le_trans hb5.size (Nat.le_trans hb6.size hb7.size))); have bR6:Boxed wZ (w.heap.size + 1) 3 (.int .i64 0):=(hB6.block _ BV.out.lt).trans BV.out; have hc6:=bR6.cell; have hf6:=bR6.frozen; have hK6:=(hB6.block _ hDlt).trans KK.out))
    ·have hK':=(KeepsOthers.setCell wZ ⟨w.heap.size + 1,0,none⟩ (.int .i64 2)).same D _ hK6 rfl
     refine ⟨by simp,.inl ⟨_,_,rfl,run_takeDeferred hK',?_⟩⟩
     have hc7:=cell_kept (World.cell?_setCell_same' wZ ⟨w.heap.size + 1,0,none⟩ (.int .i64 2) (by rw [hc6]; rfl)) (grownBy_putObj' _ D (.deferred none)) (fun r e=>by cases e; exact ⟨_,hK',rfl⟩)
     refine ⟨.int .i64 2,?_,?_,((hB.trans (hB6.mono hB.size)).setCell (p:=⟨w.heap.size + 1,0,none⟩) (Nat.le_succ _) _).trans (belowK_b (w:=w) (Nat.le_refl _) _ D _ _ (by omega) hK' rfl rfl)⟩
     ·simp [results,Tryz.f24,go_sem,hc7]
     ·rw [HV.out,HG.out,HQ.out,HZ.out]; first | (simp_all; done) | (rw [show decide (z > 0) = false from decide_eq_false (by omega)]; simp)
    ·have hK':=(KeepsOthers.setCell wZ ⟨w.heap.size + 1,0,none⟩ (.int .i64 0)).same D _ hK6 rfl
     refine ⟨by simp,.inl ⟨_,_,rfl,run_takeDeferred hK',?_⟩⟩
     have hc7:=cell_kept (World.cell?_setCell_same' wZ ⟨w.heap.size + 1,0,none⟩ (.int .i64 0) (by rw [hc6]; rfl)) (grownBy_putObj' _ D (.deferred none)) (fun r e=>by cases e; exact ⟨_,hK',rfl⟩)
     refine ⟨.int .i64 0,?_,?_,((hB.trans (hB6.mono hB.size)).setCell (p:=⟨w.heap.size + 1,0,none⟩) (Nat.le_succ _) _).trans (belowK_b (w:=w) (Nat.le_refl _) _ D _ _ (by omega) hK' rfl rfl)⟩
     ·simp [results,Tryz.f24,go_sem,hc7]
     ·rw [HV.out,HG.out,HQ.out,HZ.out]; first | (simp_all; done) | (rw [show decide (z > 0) = false from decide_eq_false (by omega)]; simp)
   | true =>
    gi_wp2_with (first
    | (refine a49 rfl _ rfl rfl hbx hsz ?_)
    | (refine ⟨trivial,?_⟩; gi_at_call 62; refine (callsIn_wide.2 hc62).mono ?_; rintro e w5 ⟨rfl,hb5⟩; have ask5:=hAsk.later hAsk.hI hb5; have hbx5:=(hb5.block _ hblt).trans hbx)
    | (refine w25 rfl _ rfl rfl hbx5 hsz ?_)
    | (refine ⟨trivial,?_⟩; gi_at_call 23; refine (callsIn_wide.2 (wire_call t4 hd4 ask5.hw ask5.hI ask5.hr)).mono ?_; rintro e w6 ⟨v6,J6,rfl,hb6,hJ6,hr6⟩; have ask6:=ask5.later ask5.hI hb6; have hbx6:=(hb6.block _ (Nat.lt_of_lt_of_le hblt hb5.size)).trans hbx5; have k6:Keeps w5 w6 I (orCells I J6):=⟨fun b o hi=>⟨.inl hi,hb6.cell (p:=⟨b,o,none⟩) (ask5.hI b o hi)⟩⟩; have hc63:=C58 t5 hd5 (w14 _ _ _ _ k6 ask5.hw) (fun b o hi=>hi.elim (fun hi=>ask6.hI b o hi) (fun hi=>(hJ6 b o hi).2)) hr6; rw [HQ.out] at hc63)
    | (refine ⟨trivial,?_⟩; gi_at_call 63; refine (callsIn_wide.2 hc63).mono ?_; rintro e w7 ⟨rfl,hb7⟩; have ask7:=ask6.later ask6.hI hb7; have hbx7:=(hb7.block _ (Nat.lt_of_lt_of_le hblt (Nat.le_trans hb5.size hb6.size))).trans hbx6)
    | (refine w25 rfl _ rfl rfl hbx7 hsz ?_)
    | (refine ⟨trivial,?_⟩; gi_at_call 64; refine (callsIn_wide.2 (w85 t6 hd6 ask7.hw ask7.hI ask7.hr)).mono ?_; rw [HZ.out]; rintro e wZ ⟨rfl,hb8⟩; have hB6:=((hb5.trans (hb6.mono hb5.size)).trans (hb7.mono (Nat.le_trans hb5.size hb6.size))).trans (hb8.mono (Nat.le_trans hb5.size (Nat.le_trans hb6.size hb7.size))); have bR6:Boxed wZ (w.heap.size + 1) 3 (.int .i64 0):=(hB6.block _ BV.out.lt).trans BV.out; have hc6:=bR6.cell; have hf6:=bR6.frozen; have hK6:=(hB6.block _ hDlt).trans KK.out))
    ·have hK':=(KeepsOthers.setCell wZ ⟨w.heap.size + 1,0,none⟩ (.int .i64 3)).same D _ hK6 rfl
     refine ⟨by simp,.inl ⟨_,_,rfl,run_takeDeferred hK',?_⟩⟩
     have hc7:=cell_kept (World.cell?_setCell_same' wZ ⟨w.heap.size + 1,0,none⟩ (.int .i64 3) (by rw [hc6]; rfl)) (grownBy_putObj' _ D (.deferred none)) (fun r e=>by cases e; exact ⟨_,hK',rfl⟩)
     refine ⟨.int .i64 3,?_,?_,((hB.trans (hB6.mono hB.size)).setCell (p:=⟨w.heap.size + 1,0,none⟩) (Nat.le_succ _) _).trans (belowK_b (w:=w) (Nat.le_refl _) _ D _ _ (by omega) hK' rfl rfl)⟩
     ·simp [results,Tryz.f24,go_sem,hc7]
     ·rw [HV.out,HG.out,HQ.out,HZ.out]; first | (simp_all; done) | (rw [show decide (z > 0) = false from decide_eq_false (by omega)]; simp)
    ·have hK':=(KeepsOthers.setCell wZ ⟨w.heap.size + 1,0,none⟩ (.int .i64 1)).same D _ hK6 rfl
     refine ⟨by simp,.inl ⟨_,_,rfl,run_takeDeferred hK',?_⟩⟩
     have hc7:=cell_kept (World.cell?_setCell_same' wZ ⟨w.heap.size + 1,0,none⟩ (.int .i64 1) (by rw [hc6]; rfl)) (grownBy_putObj' _ D (.deferred none)) (fun r e=>by cases e; exact ⟨_,hK',rfl⟩)
     refine ⟨.int .i64 1,?_,?_,((hB.trans (hB6.mono hB.size)).setCell (p:=⟨w.heap.size + 1,0,none⟩) (Nat.le_succ _) _).trans (belowK_b (w:=w) (Nat.le_refl _) _ D _ _ (by omega) hK' rfl rfl)⟩
     ·simp [results,Tryz.f24,go_sem,hc7]
     ·rw [HV.out,HG.out,HQ.out,HZ.out]; first | (simp_all; done) | (rw [show decide (z > 0) = false from decide_eq_false (by omega)]; simp)
 case stop =>
  rintro D c pre W hD hpre ⟨⟨rfl,hne,hv⟩,hB⟩ hK
  have hxs:parts7.filter (can x) ≠ []:=fun e=>by
   rw [e] at hpre
   exact hne (List.prefix_nil.1 hpre)
  have hval:(a17.val x).1 = 0:=by
   unfold a17.val
   rw [ho,show (T1.val x).1 = parts7.filter (can x) from rfl]
   cases hl:parts7.filter (can x) with
   | nil=>exact absurd hl hxs
   | cons a l=>rfl
  have hc:=hv.cell
  have KK:Hid (W.heap[D]? = some (.deferred (some []))):=hK
  have HV:Hid (_ = _):=hval
  clear hb3 hBn3 hW3 hb2 hK hval hpre hxs
  gi_wp2
  have hK:=KK.out
  refine ⟨by simp,.inl ⟨_,_,rfl,run_takeDeferred hK,?_⟩⟩
  have hc7:=cell_kept hc (grownBy_putObj' _ D (.deferred none)) (fun r e=>by cases e; exact ⟨_,hK,rfl⟩)
  refine ⟨.int .i64 0,?_,by rw [HV.out],hB.trans (belowK_b (w:=w) (Nat.le_refl _) W D _ _ (Nat.le_trans hB3.size hD) hK rfl rfl)⟩
  simp [results,Tryz.f24,go_sem,hc7]
theorem a17.told (t1:Told 25 L5.sg) (t2:Told 89 T2.sg) (t3:Told 62 S0.sg) (t4:Told 23 a16.sg) (t5:Told 63 S9.sg) (t6:Told 64 a19.sg):Told 24 a17.sg:=by
 refine ⟨fun w I vals x hw hI hargs hd=>?_,fn24.2⟩
 obtain ⟨c,xe⟩:=x
 cases xe
 obtain ⟨v,vs,rfl,hv,hvs⟩:=hargs
 have hvs':vs = []:=hvs
 subst hvs'
 obtain ⟨cs,rfl,hr⟩:=conn_arg hv
 have hd':a17.dom c = true:=hd
 unfold a17.dom at hd'
 simp only [Bool.and_eq_true] at hd'
 obtain ⟨⟨⟨⟨⟨d1,d2⟩,d3⟩,d4⟩,d5⟩,d6⟩:=hd'
 have h:Calls Tryz.prog 24 #[.agg cs] w fun e w'=>e = .returned (.int .i64 (a17.val c).1) ∧ Below w.heap.size w w':=by
  cases ho:(L5.val c).1 with
  | true =>
   have e:(a17.val c).1 = 0:=by unfold a17.val; rw [ho]; rfl
   rw [e]
   exact waits_over t1 c cs w I ⟨hw,hI,hr⟩ d2 ho
  | false=>exact waits_else t1 t2 t3 t4 t5 t6 c cs w I ⟨hw,hI,hr⟩ d2 ho d1 d3 d4 d5 d6
 refine h.mono ?_
 rintro e w' ⟨rfl,hb⟩
 exact ⟨_,fun _ _=>False,rfl,hb,fun _ _ hf=>hf.elim,.inl ⟨rfl,rfl⟩⟩
end Pt
end
end
