/- Plain laws of what the functions compute. Conditions: none beyond the statement's own. -/
import Derived.Test.YtkciioajiopobaaGreatDoorTypes1
import Derived.Test.YtkciioajiopobaaGreatDoorWalks1
import Derived.Test.YtkciioajiopobaaGreatDoorWalks2
import Derived.Test.YtkciioajiopobaaGreatDoorWalks3
import Derived.Test.YtkciioajiopobaaGreatDoorWalks4
import Derived.Test.YtkciioajiopobaaGreatDoorWalks5
import Derived.Test.YtkciioajiopobaaGreatDoorWalks6
import Derived.IntWalk
import Derived.Laws.Strings
import Derived.Lib.CountLaws
set_option linter.all false
noncomputable section
section
open Go Go.Am
open IntKind (i64 u64 u8 i32 u32)
namespace Pt
theorem C8 {α:Type} {o:Option α} {v:α} (h:o = some v):o.isSome = true:=by rw [h]; rfl
theorem D5 {α:Type} {o:Option α} {v d:α} (h:o = some v):o.getD d = v:=by rw [h]; rfl
def goL {α σ R:Type} (step:σ → α → (σ → Option R) → Option R) (K:σ → Option R):σ → List α → Option R
 | s,[]=>K s
 | s,x :: l=>step s x fun s'=>goL step K s' l
theorem range_go {α σ R:Type} (xs:List α) (l:Nat → σ → Int → Option R) (step:σ → α → (σ → Option R) → Option R) (K:σ → Option R)
  (hs:∀ m s (i:Nat) (h:i < xs.length),l (m + 1) s i = step s xs[i] fun s'=>l m s' ((i + 1:Nat):Int))
  (he:∀ m s,l (m + 1) s (xs.length:Int) = K s):∀ (r:List α) (i:Nat),xs.drop i = r → i ≤ xs.length → ∀ m s,r.length < m → l m s (i:Int) = goL step K s r
 | [],i,hd,hi,m,s,hm=>by
  obtain ⟨m,rfl⟩:∃ k,m = k + 1:=⟨m - 1,by simp at hm; omega⟩
  have:i = xs.length:=by
   have:=congrArg List.length hd
   simp at this
   omega
  rw [this]
  exact he m s
 | x :: r,i,hd,hi,m,s,hm=>by
  obtain ⟨m,rfl⟩:∃ k,m = k + 1:=⟨m - 1,by simp at hm; omega⟩
  have hlt:i < xs.length:=by
   have:=congrArg List.length hd
   simp at this
   omega
  have hx:xs[i] = x:=by
   have:=List.drop_eq_getElem_cons hlt
   rw [hd] at this
   exact (List.cons.inj this).1.symm
  have hr:xs.drop (i + 1) = r:=by
   have:=List.drop_eq_getElem_cons hlt
   rw [hd] at this
   exact (List.cons.inj this).2.symm
  rw [hs m s i hlt,hx]
  simp only [goL]
  congr 1
  funext s'
  exact range_go xs l step K hs he r (i + 1) hr hlt m s' (by simp at hm; omega)
theorem range_all {α σ R:Type} (xs:List α) (l:Nat → σ → Int → Option R) (step:σ → α → (σ → Option R) → Option R) (K:σ → Option R)
  (hs:∀ m s (i:Nat) (h:i < xs.length),l (m + 1) s i = step s xs[i] fun s'=>l m s' ((i + 1:Nat):Int))
  (he:∀ m s,l (m + 1) s (xs.length:Int) = K s) (m:Nat) (s:σ) (hm:xs.length < m):l m s 0 = goL step K s xs :=
 range_go xs l step K hs he xs 0 rfl (Nat.zero_le _) m s hm
theorem goL_fold {α σ R:Type} (f:σ → α → σ) (K:σ → Option R):∀ (s:σ) (l:List α),goL (fun s x k=>k (f s x)) K s l = K (l.foldl f s)
 | _,[]=>rfl
 | s,x :: l=>by simp only [goL,List.foldl]; exact goL_fold f K (f s x) l
theorem wr {x:Int} (h0:-9223372036854775808 ≤ x) (h1:x ≤ 9223372036854775807):i64.wrap x = x:=by
 rw [IntKind.wrap_i64]; omega
theorem w04 {α:Type} {l:List α} {i:Nat} (h:i < l.length) (d:α):l.getD i d = l[i]:=by
 simp [List.getD,h]
theorem a60 {α:Type} {xs:List α} {i:Nat} {x:α} {r:List α} (hd:xs.drop i = x :: r) (d:α):i < xs.length ∧ xs.getD i d = x ∧ xs.drop (i + 1) = r:=by
 have hlt:i < xs.length:=by
  have:=congrArg List.length hd
  simp at this
  omega
 have hc:=List.drop_eq_getElem_cons hlt
 rw [hd] at hc
 obtain ⟨h1,h2⟩:=List.cons.inj hc
 exact ⟨hlt,by rw [w04 hlt]; exact h1.symm,h2.symm⟩
theorem a69 {α:Type} {xs:List α} {i:Nat} (hd:xs.drop i = []) (hi:i ≤ xs.length):i = xs.length:=by
 have:=congrArg List.length hd
 simp at this
 omega
theorem w78 {α:Type} (c:Bool) (a b:α):(bif c then some a else some b).isSome = true:=by cases c <;> rfl
theorem a26 {n:Nat} (h:n < 1000000000000):n < fuel:=h
theorem a27.v (x:Int):a27.val x = (false,()):=by
 show Option.getD (some ((x != x,()):Args [.bool])) _ = _
 simp
def cmpI (a b:Int):Int:=if a < b then -1 else if a > b then 1 else 0
theorem L2.ev (m:Nat) (a b:Int):L2.raw m a b = some (cmpI a b,()):=by
 unfold L2.raw cmpI
 have e:(a != a) = false:=by simp
 have e':(b != b) = false:=by simp
 rw [e,e']
 simp only [cond_false]
 by_cases h:a < b
 ·simp [h]
 ·by_cases k:a > b
  ·simp [h,k]
  ·simp [h,k]
theorem L2.d (a b:Int):L2.dom a b = true:=C8 (L2.ev _ a b)
theorem L2.v (a b:Int):L2.val a b = (cmpI a b,()):=D5 (L2.ev _ a b)
abbrev Span:=Ty.den N9
theorem V6.ev (m:Nat) (s:Span) (x:Int):V6.raw m s x = some (cmpI s.1 x,()):=by
 unfold V6.raw
 simp only [L2.d,L2.v,cond_true]
theorem V6.d (s:Span) (x:Int):V6.dom s x = true:=C8 (V6.ev _ s x)
theorem V6.v (s:Span) (x:Int):V6.val s x = (cmpI s.1 x,()):=D5 (V6.ev _ s x)
theorem half {i j:Nat} (hj:j ≤ 1099511627776) (hi:i < j) :
  i64.wrap ((u64.wrap (i64.wrap ((i:Int) + (j:Int)))).fdiv (2:Int)) = (((i + j) / 2:Nat):Int):=by
 have e1:i64.wrap ((i:Int) + (j:Int)) = ((i + j:Nat):Int):=by rw [wr (by omega) (by omega)]; omega
 have e2:u64.wrap ((i + j:Nat):Int) = ((i + j:Nat):Int):=by show ((i + j:Nat):Int) % _ = _; simp [IntKind.bits]; omega
 have e3:(((i + j:Nat):Int)).fdiv 2 = (((i + j) / 2:Nat):Int):=by rw [Int.fdiv_eq_ediv_of_nonneg _ (by omega)]; omega
 rw [e1,e2,e3,wr (by omega) (by omega)]
theorem w79.l (K0:List Span → Int → (Ty.den .fn) → Int → Int → Option (Args [.int .i64,.bool])) (l:List Span) (x:Int) (hl:l.length ≤ 1099511627776) :
  ∀ (d i j:Nat) (m:Nat),j - i ≤ d → i ≤ j → j ≤ l.length → d < m → ∀ v4,∃ r:Nat,r ≤ l.length ∧
   B0.l0 K0 m l x (some 238) v4 i j = K0 l x (some 238) v4 r:=by
 intro d
 induction d with
 | zero =>
  intro i j m hd hij hj hm v4
  obtain ⟨m,rfl⟩:∃ k,m = k + 1:=⟨m - 1,by omega⟩
  refine ⟨i,by omega,?_⟩
  have e:decide ((i:Int) < (j:Int)) = false:=decide_eq_false (by omega)
  simp only [B0.l0,e,cond_false]
 | succ d ih =>
  intro i j m hd hij hj hm v4
  obtain ⟨m,rfl⟩:∃ k,m = k + 1:=⟨m - 1,by omega⟩
  by_cases h:i < j
  ·have e:decide ((i:Int) < (j:Int)) = true:=decide_eq_true (by omega)
   have e2:decide ((0:Int) ≤ (((i + j) / 2:Nat):Int)) = true:=decide_eq_true (by omega)
   have e3:decide ((((i + j) / 2:Nat):Int) < (l.length:Int)) = true:=decide_eq_true (by omega)
   have e4:i64.wrap ((((i + j) / 2:Nat):Int) + 1) = (((i + j) / 2 + 1:Nat):Int):=by rw [wr (by omega) (by omega)]; omega
   have e5:((some 238:Option Nat) == some 238) = true:=rfl
   simp only [B0.l0,e,cond_true,half (i:=i) (j:=j) (by omega) h,e2,e3,e4,Bool.and_self,V6.d]
   rw [show ((some 238:Ty.den .fn) == Option.some (238:Go.FuncId)) = true from rfl]
   simp only [cond_true]
   cases decide ((V6.val (l.getD (Int.toNat (((i + j) / 2:Nat):Int)) N9.dflt) x).1 < 0)
   ·exact ih i ((i + j) / 2) m (by omega) (by omega) (by omega) (by omega) v4
   ·exact ih ((i + j) / 2 + 1) j m (by omega) (by omega) (by omega) (by omega) v4
  ·refine ⟨i,by omega,?_⟩
   have e:decide ((i:Int) < (j:Int)) = false:=decide_eq_false (by omega)
   simp only [B0.l0,e,cond_false]
theorem w79.ex (l:List Span) (x:Int) (hl:l.length ≤ 1073741824) :
  ∃ (r:Nat) (b:Bool),B0.raw fuel l x (some 238) = some ((r:Int),b,()) ∧ r ≤ l.length ∧ (b = true → r < l.length):=by
 unfold B0.raw
 obtain ⟨r,hr,e⟩:=w79.l (fun o10 o11 o12 o13 o14=>bif decide (o14 < o13) then (bif decide ((0:Int) ≤ o14) && decide (o14 < (↑(List.length o10):Int)) then (bif o12 == Option.some (238:Go.FuncId) then (let z15:=List.getD o10 (Int.toNat o14) N9.dflt; let y16:=V6.val z15 o11; bif V6.dom z15 o11 then (some ((o14,y16.1 == (0:Int),()))) else none) else (none)) else (none)) else (some ((o14,false,())))) l x (by omega) l.length 0 l.length fuel (by omega) (by omega) (by omega) (a26 (by omega)) (l.length:Int)
 rw [show ((0:Nat):Int) = 0 from rfl] at e
 rw [e]
 by_cases h:r < l.length
 ·have e1:decide ((r:Int) < (l.length:Int)) = true:=decide_eq_true (by omega)
  have e2:decide ((0:Int) ≤ (r:Int)) = true:=decide_eq_true (by omega)
  refine ⟨r,(V6.val (l.getD (Int.toNat (r:Int)) N9.dflt) x).1 == 0,?_,hr,fun _=>h⟩
  ·simp only [e1,e2,Bool.and_self,cond_true,V6.d]
   rw [show ((some 238:Ty.den .fn) == Option.some (238:Go.FuncId)) = true from rfl]
   rfl
 ·have e1:decide ((r:Int) < (l.length:Int)) = false:=decide_eq_false (by omega)
  exact ⟨r,false,by simp only [e1,cond_false],hr,fun hb=>by cases hb⟩
theorem Y6.d (l:List Span) (x:Int) (hl:l.length ≤ 1073741824):Y6.dom l x = true:=by
 obtain ⟨r,b,e,hr,hb⟩:=w79.ex l x hl
 have hd:B0.dom l x (some 238) = true:=C8 e
 have hv:B0.val l x (some 238) = ((r:Int),b,()):=D5 e
 show (Y6.raw fuel l x).isSome = true
 unfold Y6.raw
 simp only [hd,hv,cond_true]
 cases b with
 | false =>
  have e0:i64.wrap ((r:Int) - 1) = (r:Int) - 1:=wr (by omega) (by omega)
  simp only [Bool.not_false,cond_true,e0]
  by_cases h:r = 0
  ·have e1:decide ((r:Int) - 1 < 0) = true:=decide_eq_true (by omega)
   simp only [e1,cond_true]
   rfl
  ·have e1:decide ((r:Int) - 1 < 0) = false:=decide_eq_false (by omega)
   have e2:decide (0 ≤ (r:Int) - 1) = true:=decide_eq_true (by omega)
   have e3:decide ((r:Int) - 1 < (l.length:Int)) = true:=decide_eq_true (by omega)
   simp only [e1,e2,e3,cond_true,cond_false,Bool.and_self]
   exact w78 _ _ _
 | true =>
  have h:=hb rfl
  have e1:decide ((r:Int) < 0) = false:=decide_eq_false (by omega)
  have e2:decide (0 ≤ (r:Int)) = true:=decide_eq_true (by omega)
  have e3:decide ((r:Int) < (l.length:Int)) = true:=decide_eq_true (by omega)
  simp only [Bool.not_true,e1,e2,e3,cond_true,cond_false,Bool.and_self]
  exact w78 _ _ _
theorem R5.d (x:Int):R5.dom x = true:=by
 show (R5.raw fuel x).isSome = true
 unfold R5.raw
 dsimp only
 rw [Y6.d _ _ (by simp)]
 rfl
theorem O0.d (x:Int):O0.dom x = true:=by
 show (O0.raw fuel x).isSome = true
 unfold O0.raw
 dsimp only
 rw [Y6.d _ _ (by simp)]
 first | exact w78 _ _ _ | rfl
theorem R2.d (x:Int):R2.dom x = true:=by
 show (R2.raw fuel x).isSome = true
 unfold R2.raw
 rw [O0.d]
 rfl
theorem R2.v (x:Int):R2.val x = (decide ((O0.val x).1 > 0),()):=by
 have:R2.raw fuel x = some (decide ((O0.val x).1 > 0),()):=by
  unfold R2.raw
  rw [O0.d]
  rfl
 exact D5 this
theorem Y0.d (x:Int):Y0.dom x = true:=by
 show (Y0.raw fuel x).isSome = true
 unfold Y0.raw
 dsimp only
 rw [Y6.d _ _ (by simp)]
 cases decide (x < 44032)
 ·cases decide (x > 55203)
  ·simp only [cond_false]
   exact w78 _ _ _
  ·rfl
 ·rfl
theorem ind_i {i:Nat} {n:Nat} (hn:n ≤ 1099511627776) (h:i < n) :
  i64.wrap ((i:Int) + 1) = ((i + 1:Nat):Int) ∧ decide ((i:Int) < (n:Int)) = true ∧ decide ((0:Int) ≤ (i:Int)) = true :=
 ⟨by rw [wr (by omega) (by omega)]; omega,decide_eq_true (by omega),decide_eq_true (by omega)⟩
theorem indexI_l (K0:Int → Option (Args [.int .i64])) (K1:Option (Args [.int .i64])) (xs:List Int) (x:Int) (hx:xs.length ≤ 1099511627776) :
  ∀ (r:List Int) (i:Nat),xs.drop i = r → i ≤ xs.length → ∀ m,r.length < m →
  C5.l0 K0 K1 m xs x xs.length i = (match r.findIdx? (fun b=>x == b) with | some j=>K0 ((i + j:Nat):Int) | none=>K1):=by
 intro r
 induction r with
 | nil =>
  intro i hd hi m hm
  obtain ⟨m,rfl⟩:∃ k,m = k + 1:=⟨m - 1,by simp at hm; omega⟩
  have:=a69 hd hi
  subst this
  simp [C5.l0]
 | cons y r ih =>
  intro i hd hi m hm
  obtain ⟨m,rfl⟩:∃ k,m = k + 1:=⟨m - 1,by simp at hm; omega⟩
  obtain ⟨hlt,hg,hr⟩:=a60 hd (0:Int)
  obtain ⟨e1,e2,e3⟩:=ind_i hx hlt
  have:=ih (i + 1) hr hlt m (by simp at hm; omega)
  simp only [C5.l0]
  rw [Int.toNat_natCast,hg,e1,e2,e3]
  simp only [Bool.and_self,cond_true,List.findIdx?_cons]
  cases h:x == y
  ·simp only [cond_false]
   rw [this]
   cases List.findIdx? (fun b=>x == b) r with
   | none=>rfl
   | some j=>simp; congr 1; omega
  ·simp
theorem slices_Index.ev (xs:List Int) (x:Int) (hx:xs.length ≤ 1073741824) (m:Nat) (hm:xs.length < m) :
  C5.raw m xs x = some ((match xs.findIdx? (fun b=>x == b) with | some j=>(j:Int) | none=>-1),()):=by
 unfold C5.raw
 have:=indexI_l (fun o5=>some (o5,())) (some (-1,())) xs x (by omega) xs 0 rfl (Nat.zero_le _) m hm
 rw [show ((0:Nat):Int) = 0 from rfl] at this
 rw [this]
 cases xs.findIdx? (fun b=>x == b) with
 | none=>rfl
 | some j=>simp
theorem w00.ev (m:Nat) (xs:List Int) (x:Int) (hx:xs.length ≤ 1073741824):L9.raw m xs x = some (xs.contains x,()):=by
 have h:=slices_Index.ev xs x hx fuel (a26 (by omega))
 unfold L9.raw
 rw [show C5.dom xs x = true from C8 h,show C5.val xs x = _ from D5 h]
 have hc:xs.contains x = (xs.findIdx? (fun b=>x == b)).isSome:=by
  rw [List.findIdx?_isSome,List.contains_eq_any_beq]
 rw [hc]
 cases xs.findIdx? (fun b=>x == b) with
 | none=>rfl
 | some j=>simp
theorem w00.d (xs:List Int) (x:Int) (hx:xs.length ≤ 1073741824):L9.dom xs x = true:=C8 (w00.ev _ xs x hx)
theorem w00.v (xs:List Int) (x:Int) (hx:xs.length ≤ 1073741824):L9.val xs x = (xs.contains x,()):=D5 (w00.ev _ xs x hx)
theorem equalI_l (K0:Bool → Option (Args [.bool])) (K1:Option (Args [.bool])) (xs ys:List Int) (hx:xs.length ≤ 1099511627776) (hxy:xs.length = ys.length) :
  ∀ (r:List Int) (i:Nat),xs.drop i = r → i ≤ xs.length → ∀ m,r.length < m →
  C6.l0 K0 K1 m xs ys xs.length i = (if r = ys.drop i then K1 else K0 false):=by
 intro r
 induction r with
 | nil =>
  intro i hd hi m hm
  obtain ⟨m,rfl⟩:∃ k,m = k + 1:=⟨m - 1,by simp at hm; omega⟩
  have:=a69 hd hi
  subst this
  simp [C6.l0,hxy]
 | cons y r ih =>
  intro i hd hi m hm
  obtain ⟨m,rfl⟩:∃ k,m = k + 1:=⟨m - 1,by simp at hm; omega⟩
  obtain ⟨hlt,hg,hr⟩:=a60 hd (0:Int)
  obtain ⟨e1,e2,e3⟩:=ind_i hx hlt
  have e4:decide ((i:Int) < (ys.length:Int)) = true:=decide_eq_true (by omega)
  have hlt':i < ys.length:=by omega
  have:=ih (i + 1) hr hlt m (by simp at hm; omega)
  simp only [C6.l0]
  rw [Int.toNat_natCast,hg,e1,e2,e3,e4]
  simp only [Bool.and_self,cond_true]
  rw [List.drop_eq_getElem_cons hlt',w04 hlt' (0:Int),this]
  by_cases h:y = ys[i]
  ·have b:((y:Int) != ys[i]) = false:=by simp [h]
   rw [b,cond_false]
   simp only [h,List.cons.injEq,true_and]
  ·have b:((y:Int) != ys[i]) = true:=by simp [h]
   rw [b,cond_true]
   simp only [h,List.cons.injEq,false_and,if_false]
theorem slices_Equal.ev (m:Nat) (xs ys:List Int) (hx:xs.length ≤ 1073741824) (hm:xs.length < m):C6.raw m xs ys = some (decide (xs = ys),()):=by
 unfold C6.raw
 by_cases h:xs.length = ys.length
 ·have:=equalI_l (fun o5=>some (o5,())) (some (true,())) xs ys (by omega) h xs 0 rfl (Nat.zero_le _) m hm
  rw [show ((0:Nat):Int) = 0 from rfl] at this
  have e:((xs.length:Int) != (ys.length:Int)) = false:=by simp [h]
  rw [e,this]
  by_cases k:xs = ys
  ·simp [k]
  ·simp [k]
 ·have e:((xs.length:Int) != (ys.length:Int)) = true:=by simp; omega
  have k:¬ xs = ys:=fun hh=>h (by rw [hh])
  rw [e]
  simp [k]
theorem values_l (K0:List Int → Option (Args [.slice (.int .i64)])) (xs:List Int) (hx:xs.length ≤ 1073741824) :
  ∀ (r:List Int) (i:Nat),xs.drop i = r → i ≤ xs.length → ∀ m (v:List Int),r.length < m → v.length + r.length ≤ 1073741824 →
  L6.l0 K0 m xs xs.length i v = K0 (v ++ r):=by
 intro r
 induction r with
 | nil =>
  intro i hd hi m v hm hv
  obtain ⟨m,rfl⟩:∃ k,m = k + 1:=⟨m - 1,by simp at hm; omega⟩
  have:=a69 hd hi
  subst this
  simp [L6.l0]
 | cons y r ih =>
  intro i hd hi m v hm hv
  obtain ⟨m,rfl⟩:∃ k,m = k + 1:=⟨m - 1,by simp at hm; omega⟩
  obtain ⟨hlt,hg,hr⟩:=a60 hd (0:Int)
  obtain ⟨e1,e2,e3⟩:=ind_i (n:=xs.length) (by omega) hlt
  simp only [List.length_cons] at hv
  have e5:decide ((v.length + [y].length) * 8 ≤ 140737488355328) = true:=decide_eq_true (by simp; omega)
  have e6:decide (v.length + [y].length ≤ lim) = true:=decide_eq_true (by unfold lim; simp; omega)
  have:=ih (i + 1) hr hlt m (v ++ [y]) (by simp at hm; omega) (by simp; omega)
  simp only [L6.l0]
  rw [Int.toNat_natCast,hg,e1,e2,e3,e5,e6]
  simp only [Bool.and_self,cond_true]
  rw [this,List.append_assoc]
  rfl
theorem L6.ev (m:Nat) (xs:List Int) (hx:xs.length ≤ 1073741824) (hm:xs.length < m):L6.raw m xs = some (xs,()):=by
 unfold L6.raw
 have:=values_l (fun o6=>some (o6,())) xs hx xs 0 rfl (Nat.zero_le _) m [] hm (by simpa using hx)
 rw [show ((0:Nat):Int) = 0 from rfl] at this
 exact this
theorem numbers_l (K0:List Int → Option (Args [.slice (.int .i64)])):L7.l0 K0 = L6.l0 K0:=by
 funext m
 induction m with
 | zero=>rfl
 | succ m ih =>
  funext a b c d
  simp only [L7.l0,L6.l0,ih]
theorem L7.ev (m:Nat) (xs:List Int) (hx:xs.length ≤ 1073741824) (hm:xs.length < m):L7.raw m xs = some (xs,()):=by
 have:=L6.ev m xs hx hm
 unfold L6.raw at this
 unfold L7.raw
 rw [numbers_l]
 exact this
def markB (x:Int):Bool:=(R2.val x).1
def cccI (x:Int):Int:=(O0.val x).1
theorem markB_ccc (x:Int):markB x = decide (cccI x > 0):=by
 unfold markB cccI
 rw [R2.v]
theorem T8.ev (m:Nat) (x:Int):T8.raw m x = some (!markB x,()):=by
 unfold T8.raw markB
 rw [R2.d]
 rfl
theorem T8.d (x:Int):T8.dom x = true:=C8 (T8.ev _ x)
theorem T8.v (x:Int):T8.val x = (!markB x,()):=D5 (T8.ev _ x)
theorem othersI_l (K0:Int → Option (Args [.int .i64])) (K1:Option (Args [.int .i64])) (xs:List Int) (hx:xs.length ≤ 1099511627776) :
  ∀ (r:List Int) (i:Nat),xs.drop i = r → i ≤ xs.length → ∀ m,r.length < m →
  B6.l0 K0 K1 m xs (some 191) xs.length i = (match r.findIdx? (fun b=>!markB b) with | some j=>K0 ((i + j:Nat):Int) | none=>K1):=by
 intro r
 induction r with
 | nil =>
  intro i hd hi m hm
  obtain ⟨m,rfl⟩:∃ k,m = k + 1:=⟨m - 1,by simp at hm; omega⟩
  have:=a69 hd hi
  subst this
  simp [B6.l0]
 | cons y r ih =>
  intro i hd hi m hm
  obtain ⟨m,rfl⟩:∃ k,m = k + 1:=⟨m - 1,by simp at hm; omega⟩
  obtain ⟨hlt,hg,hr⟩:=a60 hd (0:Int)
  obtain ⟨e1,e2,e3⟩:=ind_i hx hlt
  have:=ih (i + 1) hr hlt m (by simp at hm; omega)
  simp only [B6.l0]
  rw [Int.toNat_natCast,hg,e1,e2,e3]
  rw [show ((some 191:Ty.den .fn) == Option.some (189:Go.FuncId)) = false from rfl,show ((some 191:Ty.den .fn) == Option.some (191:Go.FuncId)) = true from rfl]
  simp only [Bool.and_self,cond_true,cond_false,T8.d,T8.v,List.findIdx?_cons]
  cases h:markB y
  ·simp
  ·simp only [Bool.not_true,cond_false]
   rw [this]
   cases List.findIdx? (fun b=>!markB b) r with
   | none=>rfl
   | some j=>simp; congr 1; omega
theorem others.ev (m:Nat) (xs:List Int) (hx:xs.length ≤ 1073741824):E5.raw m xs (some 191) = some (!xs.all markB,()):=by
 have h:B6.raw fuel xs (some 191) = some ((match xs.findIdx? (fun b=>!markB b) with | some j=>(j:Int) | none=>-1),()):=by
  unfold B6.raw
  have:=othersI_l (fun o7=>some (o7,())) (some (-1,())) xs (by omega) xs 0 rfl (Nat.zero_le _) fuel (a26 (by omega))
  rw [show ((0:Nat):Int) = 0 from rfl] at this
  rw [this]
  cases xs.findIdx? (fun b=>!markB b) with
  | none=>rfl
  | some j=>simp
 unfold E5.raw
 rw [show B6.dom xs (some 191) = true from C8 h,show B6.val xs (some 191) = _ from D5 h]
 have hall:xs.all markB = (xs.findIdx? (fun b=>!markB b)).isNone:=by
  rw [Bool.eq_iff_iff]
  simp
 rw [hall]
 cases xs.findIdx? (fun b=>!markB b) with
 | none=>rfl
 | some j=>simp
theorem others.d (xs:List Int) (hx:xs.length ≤ 1073741824):E5.dom xs (some 191) = true:=C8 (others.ev fuel xs hx)
theorem others.v (xs:List Int) (hx:xs.length ≤ 1073741824):E5.val xs (some 191) = (!xs.all markB,()):=D5 (others.ev fuel xs hx)
theorem row_l (K0:Int → Option (Args [.int .i64])) (xs:List Int) (hx:xs.length ≤ 1073741824) :
  ∀ (r:List Int) (i:Nat),xs.drop i = r → i ≤ xs.length → ∀ m,r.length < m →
  N4.l0 K0 m xs i = K0 ((i + (r.takeWhile markB).length:Nat):Int):=by
 intro r
 induction r with
 | nil =>
  intro i hd hi m hm
  obtain ⟨m,rfl⟩:∃ k,m = k + 1:=⟨m - 1,by simp at hm; omega⟩
  have:=a69 hd hi
  subst this
  simp [N4.l0]
 | cons y r ih =>
  intro i hd hi m hm
  obtain ⟨m,rfl⟩:∃ k,m = k + 1:=⟨m - 1,by simp at hm; omega⟩
  obtain ⟨hlt,hg,hr⟩:=a60 hd (0:Int)
  obtain ⟨e1,e2,e3⟩:=ind_i (n:=xs.length) (by omega) hlt
  have:=ih (i + 1) hr hlt m (by simp at hm; omega)
  simp only [N4.l0]
  rw [Int.toNat_natCast,hg,e1,e2,e3]
  simp only [Bool.and_self,cond_true,R2.d]
  rw [show (R2.val y).1 = markB y from rfl,this]
  cases h:markB y
  ·simp [h]
  ·simp [h]
   congr 1
   omega
theorem N4.ev (m:Nat) (xs:List Int) (hx:xs.length ≤ 1073741824) (hm:xs.length < m):N4.raw m xs = some (((xs.takeWhile markB).length:Int),()):=by
 unfold N4.raw
 have:=row_l (fun o4=>some (o4,())) xs hx xs 0 rfl (Nat.zero_le _) m hm
 rw [show ((0:Nat):Int) = 0 from rfl] at this
 rw [this]
 simp
theorem N4.d (xs:List Int) (hx:xs.length ≤ 1073741824):N4.dom xs = true:=C8 (N4.ev fuel xs hx (a26 (by omega)))
theorem N4.v (xs:List Int) (hx:xs.length ≤ 1073741824):N4.val xs = (((xs.takeWhile markB).length:Int),()):=D5 (N4.ev fuel xs hx (a26 (by omega)))
theorem a73.ev (m:Nat) (a b:Int):E8.raw m a b = some (cmpI (cccI a) (cccI b),()):=by
 unfold E8.raw cccI
 simp only [O0.d,L2.d,L2.v,cond_true]
theorem a73.d (a b:Int):E8.dom a b = true:=C8 (a73.ev fuel a b)
theorem a73.v (a b:Int):E8.val a b = (cmpI (cccI a) (cccI b),()):=D5 (a73.ev fuel a b)
def InOrder (xs:List Int):Prop:=∀ i j,i < j → j < xs.length → cccI (xs.getD i 0) ≤ cccI (xs.getD j 0)
theorem w77 {a b:Int} (h:b ≤ a):decide (cmpI a b < 0) = false:=by
 unfold cmpI
 apply decide_eq_false
 rw [if_neg (by omega)]
 split <;> omega
theorem insertion1 (K0:List Int → Int → Int → (Ty.den .fn) → Int → Option (Args [])) (xs:List Int) (hs:InOrder xs) (hx:xs.length ≤ 1073741824)
  (a i b:Nat) (v10:Int) (ha:a ≤ i) (hi:i < xs.length) (m:Nat) :
  w9.l1 K0 (m + 1) xs a b (some 244) v10 i = K0 xs a b (some 244) v10:=by
 simp only [w9.l1]
 by_cases h:a < i
 ·have e0:decide ((i:Int) > (a:Int)) = true:=decide_eq_true (by omega)
  have e1:decide ((0:Int) ≤ (i:Int)) = true:=decide_eq_true (by omega)
  have e2:decide ((i:Int) < (xs.length:Int)) = true:=decide_eq_true (by omega)
  have e3:i64.wrap ((i:Int) - 1) = ((i - 1:Nat):Int):=by rw [wr (by omega) (by omega)]; omega
  have e4:decide ((0:Int) ≤ ((i - 1:Nat):Int)) = true:=decide_eq_true (by omega)
  have e5:decide (((i - 1:Nat):Int) < (xs.length:Int)) = true:=decide_eq_true (by omega)
  rw [e0,e1,e2,e3,e4,e5,show ((some 244:Ty.den .fn) == Option.some (244:Go.FuncId)) = true from rfl]
  simp only [Bool.and_self,cond_true,a73.d,a73.v,Int.toNat_natCast]
  rw [w77 (hs (i - 1) i (by omega) hi)]
  rfl
 ·have e0:decide ((i:Int) > (a:Int)) = false:=decide_eq_false (by omega)
  rw [e0]
  rfl
theorem insertion0 (K0:Option (Args [])) (xs:List Int) (hs:InOrder xs) (hx:xs.length ≤ 1073741824) (a b:Nat) (hb:b ≤ xs.length) :
  ∀ (d i:Nat),b - i ≤ d → a ≤ i → ∀ m,d < m → 0 < m → w9.l0 K0 m xs a b (some 244) i = K0:=by
 intro d
 induction d with
 | zero =>
  intro i hd ha m hm _
  obtain ⟨m,rfl⟩:∃ k,m = k + 1:=⟨m - 1,by omega⟩
  have e0:decide ((i:Int) < (b:Int)) = false:=decide_eq_false (by omega)
  simp only [w9.l0,e0,cond_false]
 | succ d ih =>
  intro i hd ha m hm _
  obtain ⟨m,rfl⟩:∃ k,m = k + 2:=⟨m - 2,by omega⟩
  by_cases h:i < b
  ·have e0:decide ((i:Int) < (b:Int)) = true:=decide_eq_true (by omega)
   have e1:i64.wrap ((i:Int) + 1) = ((i + 1:Nat):Int):=by rw [wr (by omega) (by omega)]; omega
   simp only [w9.l0,e0,cond_true]
   rw [insertion1 _ xs hs hx a i b _ ha (by omega) m]
   simp only [e1]
   exact ih (i + 1) (by omega) (by omega) (m + 1) (by omega) (by omega)
  ·have e0:decide ((i:Int) < (b:Int)) = false:=decide_eq_false (by omega)
   simp only [w9.l0,e0,cond_false]
theorem insertion.d (xs:List Int) (hs:InOrder xs) (hx:xs.length ≤ 1073741824) (a b:Nat) (hb:b ≤ xs.length) (ha:a ≤ 1073741824) :
  w9.dom xs a b (some 244) = true:=by
 have:w9.raw fuel xs a b (some 244) = some ():=by
  unfold w9.raw
  have e1:i64.wrap ((a:Int) + 1) = ((a + 1:Nat):Int):=by rw [wr (by omega) (by omega)]; omega
  rw [e1]
  exact insertion0 _ xs hs hx a b hb b (a + 1) (by omega) (by omega) fuel (a26 (by omega)) (a26 (by omega))
 exact C8 this
theorem half' {i j:Nat} (hj:i + j ≤ 1099511627776) :
  i64.wrap ((u64.wrap (i64.wrap ((i:Int) + (j:Int)))).fdiv (2:Int)) = (((i + j) / 2:Nat):Int):=by
 have e1:i64.wrap ((i:Int) + (j:Int)) = ((i + j:Nat):Int):=by rw [wr (by omega) (by omega)]; omega
 have e2:u64.wrap ((i + j:Nat):Int) = ((i + j:Nat):Int):=by show ((i + j:Nat):Int) % _ = _; simp [IntKind.bits]; omega
 have e3:(((i + j:Nat):Int)).fdiv 2 = (((i + j) / 2:Nat):Int):=by rw [Int.fdiv_eq_ediv_of_nonneg _ (by omega)]; omega
 rw [e1,e2,e3,wr (by omega) (by omega)]
theorem wsub {a b:Nat} (h:b ≤ a) (ha:a ≤ 1099511627776):i64.wrap ((a:Int) - (b:Int)) = ((a - b:Nat):Int):=by
 rw [wr (by omega) (by omega)]; omega
theorem wadd {a b:Nat} (ha:a + b ≤ 1099511627776):i64.wrap ((a:Int) + (b:Int)) = ((a + b:Nat):Int):=by
 rw [wr (by omega) (by omega)]; omega
theorem wadd1 {a:Nat} (ha:a ≤ 1099511627776):i64.wrap ((a:Int) + 1) = ((a + 1:Nat):Int):=by
 rw [wr (by omega) (by omega)]; omega
theorem dlt {a b:Nat}:decide ((a:Int) < (b:Int)) = decide (a < b):=by
 by_cases h:a < b
 ·rw [decide_eq_true h,decide_eq_true (by omega)]
 ·rw [decide_eq_false h,decide_eq_false (by omega)]
theorem dge {a:Nat}:decide ((0:Int) ≤ (a:Int)) = true:=decide_eq_true (by omega)
variable {xs:List Int}
theorem sym0 (K0:List Int → Int → Int → Option (Args [])) (hs:InOrder xs) (hx:xs.length ≤ 1073741824) (a:Nat) :
  ∀ (d i j m:Nat),j - i ≤ d → a < i → i ≤ j → j ≤ xs.length → d < m → a6.l0 K0 m xs a (some 244) i j = K0 xs a i:=by
 intro d
 induction d with
 | zero =>
  intro i j m hd hai hij hj hm
  obtain ⟨m,rfl⟩:∃ k,m = k + 1:=⟨m - 1,by omega⟩
  simp only [a6.l0,dlt,decide_eq_false (show ¬ i < j by omega),cond_false]
 | succ d ih =>
  intro i j m hd hai hij hj hm
  obtain ⟨m,rfl⟩:∃ k,m = k + 1:=⟨m - 1,by omega⟩
  by_cases h:i < j
  ·simp only [a6.l0,dlt,decide_eq_true h,cond_true,half' (i:=i) (j:=j) (by omega),dge,
    decide_eq_true (show (i + j) / 2 < xs.length by omega),decide_eq_true (show a < xs.length by omega),Bool.and_self,a73.d,a73.v,Int.toNat_natCast]
   rw [show ((some 244:Ty.den .fn) == Option.some (244:Go.FuncId)) = true from rfl,w77 (hs a ((i + j) / 2) (by omega) (by omega))]
   exact ih i ((i + j) / 2) m (by omega) hai (by omega) (by omega) (by omega)
  ·simp only [a6.l0,dlt,decide_eq_false h,cond_false]
theorem sym2 (K0:List Int → Int → Int → Option (Args [])) (hs:InOrder xs) (hx:xs.length ≤ 1073741824) (b:Nat) (hb:b < xs.length) :
  ∀ (d i j m:Nat),j - i ≤ d → i ≤ j → j ≤ b → d < m → a6.l2 K0 m xs b (some 244) i j = K0 xs b j:=by
 intro d
 induction d with
 | zero =>
  intro i j m hd hij hj hm
  obtain ⟨m,rfl⟩:∃ k,m = k + 1:=⟨m - 1,by omega⟩
  simp only [a6.l2,dlt,decide_eq_false (show ¬ i < j by omega),cond_false]
  rw [show i = j by omega]
 | succ d ih =>
  intro i j m hd hij hj hm
  obtain ⟨m,rfl⟩:∃ k,m = k + 1:=⟨m - 1,by omega⟩
  by_cases h:i < j
  ·simp only [a6.l2,dlt,decide_eq_true h,cond_true,half' (i:=i) (j:=j) (by omega),dge,
    decide_eq_true (show (i + j) / 2 < xs.length by omega),decide_eq_true hb,Bool.and_self,a73.d,a73.v,Int.toNat_natCast]
   rw [show ((some 244:Ty.den .fn) == Option.some (244:Go.FuncId)) = true from rfl,w77 (hs ((i + j) / 2) b (by omega) (by omega)),wadd1 (by omega)]
   exact ih ((i + j) / 2 + 1) j m (by omega) (by omega) (by omega) (by omega)
  ·simp only [a6.l2,dlt,decide_eq_false h,cond_false]
   rw [show i = j by omega]
theorem sym4 (K0:List Int → Int → Int → Int → (Ty.den .fn) → Int → Int → Int → Option (Args [])) (hs:InOrder xs) (hx:xs.length ≤ 1073741824) (a q b mid n:Int) (p:Nat) :
  ∀ (d i j m:Nat),j - i ≤ d → i ≤ j → p < xs.length + i → j + j ≤ p + 1 → d < m → a6.l4 K0 m xs a q b (some 244) mid n i j p = K0 xs a q b (some 244) mid n j:=by
 intro d
 induction d with
 | zero =>
  intro i j m hd hij hp hj hm
  obtain ⟨m,rfl⟩:∃ k,m = k + 1:=⟨m - 1,by omega⟩
  simp only [a6.l4,dlt,decide_eq_false (show ¬ i < j by omega),cond_false]
  rw [show i = j by omega]
 | succ d ih =>
  intro i j m hd hij hp hj hm
  obtain ⟨m,rfl⟩:∃ k,m = k + 1:=⟨m - 1,by omega⟩
  by_cases h:i < j
  ·simp only [a6.l4,dlt,decide_eq_true h,cond_true,half' (i:=i) (j:=j) (by omega),
    wsub (a:=p) (b:=(i + j) / 2) (by omega) (by omega),dge,
    decide_eq_true (show (i + j) / 2 < xs.length by omega),decide_eq_true (show p - (i + j) / 2 < xs.length by omega),Bool.and_self,a73.d,a73.v,Int.toNat_natCast]
   rw [show ((some 244:Ty.den .fn) == Option.some (244:Go.FuncId)) = true from rfl]
   have hle:cccI (xs.getD ((i + j) / 2) 0) ≤ cccI (xs.getD (p - (i + j) / 2) 0):=by
    rcases Nat.lt_or_ge ((i + j) / 2) (p - (i + j) / 2) with hlt | hge
    ·exact hs _ _ hlt (by omega)
    ·rw [show p - (i + j) / 2 = (i + j) / 2 by omega]; exact Int.le_refl _
   rw [w77 hle,wadd1 (by omega)]
   exact ih ((i + j) / 2 + 1) j m (by omega) (by omega) (by omega) (by omega) (by omega)
  ·simp only [a6.l4,dlt,decide_eq_false h,cond_false]
   rw [show i = j by omega]
theorem natBeq {a:Nat} {b:Nat}:((a:Int) == (b:Int)) = decide (a = b):=by
 by_cases h:a = b
 ·subst h; simp
 ·rw [decide_eq_false h]; exact beq_eq_false_iff_ne.mpr (by omega)
theorem sym_lv (hs:InOrder xs) (hx:xs.length ≤ 1073741824):∀ (k a q b:Nat),a < q → q < b → b ≤ xs.length → b - a ≤ 2 ^ k →
  (a6.lv k).1 xs a q b (some 244) = true:=by
 intro k
 induction k with
 | zero=>intro a q b h1 h2 h3 h4; simp at h4; omega
 | succ k ih =>
  intro a q b h1 h2 h3 h4
  show (a6.raw (a6.lv k).1 (a6.lv k).2 fuel xs a q b (some 244)).isSome = true
  have hf:xs.length < fuel:=a26 (by omega)
  have e1:i64.wrap ((q:Int) - (a:Int)) = ((q - a:Nat):Int):=wsub (by omega) (by omega)
  have e2:i64.wrap ((b:Int) - (q:Int)) = ((b - q:Nat):Int):=wsub (by omega) (by omega)
  have e3:i64.wrap ((u64.wrap (i64.wrap ((a:Int) + (b:Int)))).fdiv (2:Int)) = (((a + b) / 2:Nat):Int):=half' (by omega)
  unfold a6.raw
  dsimp only
  simp only [e1,e2,e3]
  rw [show (1:Int) = ((1:Nat):Int) from rfl,natBeq,natBeq]
  by_cases c1:q - a = 1
  ·rw [decide_eq_true c1]
   simp only [cond_true]
   rw [sym0 _ hs hx a (b - q) q b fuel (by omega) (by omega) (by omega) h3 (by omega)]
   have hfu:fuel = (fuel - 1) + 1:=rfl
   rw [hfu]
   simp only [a6.l1]
   have e4:i64.wrap ((q:Int) - 1) = ((q - 1:Nat):Int):=wsub (b:=1) (by omega) (by omega)
   rw [e4,dlt,decide_eq_false (by omega)]
   rfl
  ·rw [decide_eq_false c1]
   simp only [cond_false]
   by_cases c2:b - q = 1
   ·rw [decide_eq_true c2]
    simp only [cond_true]
    rw [sym2 _ hs hx q (by omega) (q - a) a q fuel (by omega) (by omega) (by omega) (by omega)]
    have hfu:fuel = (fuel - 1) + 1:=rfl
    rw [hfu]
    simp only [a6.l3]
    rw [show decide ((q:Int) > (q:Int)) = false from decide_eq_false (by omega)]
    rfl
   ·rw [decide_eq_false c2]
    simp only [cond_false]
    have e5:i64.wrap ((((a + b) / 2:Nat):Int) + (q:Int)) = (((a + b) / 2 + q:Nat):Int):=wadd (by omega)
    have e7:i64.wrap ((((a + b) / 2 + q:Nat):Int) - ((1:Nat):Int)) = (((a + b) / 2 + q - 1:Nat):Int):=wsub (by omega) (by omega)
    have hpow:2 ^ (k + 1) = 2 ^ k + 2 ^ k:=by rw [Nat.pow_succ]; omega
    by_cases c3:(a + b) / 2 < q
    ·rw [show decide ((q:Int) > (((a + b) / 2:Nat):Int)) = true from decide_eq_true (by omega)]
     simp only [cond_true]
     have e6:i64.wrap ((((a + b) / 2 + q:Nat):Int) - (b:Int)) = (((a + b) / 2 + q - b:Nat):Int):=wsub (by omega) (by omega)
     rw [e5,e6,e7]
     rw [sym4 _ hs hx a q b _ _ ((a + b) / 2 + q - 1) ((a + b) / 2) ((a + b) / 2 + q - b) ((a + b) / 2) fuel (by omega) (by omega) (by omega) (by omega) (by omega)]
     have e8:i64.wrap ((((a + b) / 2 + q:Nat):Int) - (((a + b) / 2:Nat):Int)) = (q:Int):=by rw [wsub (by omega) (by omega)]; omega
     have r:=ih ((a + b) / 2) q b (by omega) h2 h3 (by omega)
     simp only [e8,dlt,decide_eq_true c3,decide_eq_true h2,decide_eq_false (Nat.lt_irrefl q),decide_eq_false (Nat.lt_irrefl ((a + b) / 2)),cond_true,cond_false,r]
     cases decide (a < (a + b) / 2) <;> rfl
    ·rw [show decide ((q:Int) > (((a + b) / 2:Nat):Int)) = false from decide_eq_false (by omega)]
     simp only [cond_false]
     rw [e5,e7]
     rw [sym4 _ hs hx a q b _ _ ((a + b) / 2 + q - 1) (q - a) a q fuel (by omega) (by omega) (by omega) (by omega) (by omega)]
     have e8:i64.wrap ((((a + b) / 2 + q:Nat):Int) - (q:Int)) = (((a + b) / 2:Nat):Int):=by rw [wsub (by omega) (by omega)]; omega
     simp only [e8,dlt,decide_eq_false (Nat.lt_irrefl q),decide_eq_true h1,decide_eq_false (Nat.lt_irrefl ((a + b) / 2)),cond_true,cond_false]
     by_cases c4:q < (a + b) / 2
     ·have r:=ih a q ((a + b) / 2) h1 c4 (by omega) (by omega)
      simp only [decide_eq_true c4,cond_true,r]
      rfl
     ·simp only [decide_eq_false c4,cond_false]
      rfl
theorem sym.d (hs:InOrder xs) (hx:xs.length ≤ 1073741824) (a q b:Nat) (h1:a < q) (h2:q < b) (h3:b ≤ xs.length) :
  a6.dom xs a q b (some 244) = true :=
 sym_lv hs hx 64 a q b h1 h2 h3 (by omega)
theorem dle {a b:Nat}:decide ((a:Int) ≤ (b:Int)) = decide (a ≤ b):=by
 by_cases h:a ≤ b
 ·rw [decide_eq_true h,decide_eq_true (by omega)]
 ·rw [decide_eq_false h,decide_eq_false (by omega)]
theorem stable0 (K0:List Int → Int → (Ty.den .fn) → Int → Int → Option (Args [])) (hs:InOrder xs) (hx:xs.length ≤ 1073741824) :
  ∀ (d a m:Nat),xs.length - a ≤ d → a ≤ xs.length → d < m → ∃ r:Nat,r ≤ xs.length ∧
   w8.l0 K0 m xs xs.length (some 244) 20 a ((a + 20:Nat):Int) = K0 xs xs.length (some 244) 20 r:=by
 intro d
 induction d with
 | zero =>
  intro a m hd ha hm
  obtain ⟨m,rfl⟩:∃ k,m = k + 1:=⟨m - 1,by omega⟩
  refine ⟨a,ha,?_⟩
  simp only [w8.l0,dle,decide_eq_false (show ¬ a + 20 ≤ xs.length by omega),cond_false]
 | succ d ih =>
  intro a m hd ha hm
  obtain ⟨m,rfl⟩:∃ k,m = k + 1:=⟨m - 1,by omega⟩
  by_cases h:a + 20 ≤ xs.length
  ·obtain ⟨r,hr,e⟩:=ih (a + 20) m (by omega) h (by omega)
   refine ⟨r,hr,?_⟩
   have e2:i64.wrap (((a + 20:Nat):Int) + 20) = ((a + 20 + 20:Nat):Int):=wadd (b:=20) (by omega)
   simp only [w8.l0,dle,decide_eq_true h,cond_true,insertion.d xs hs hx a (a + 20) h (by omega),e2]
   exact e
  ·refine ⟨a,ha,?_⟩
   simp only [w8.l0,dle,decide_eq_false h,cond_false]
theorem stable2 (K0:List Int → Int → (Ty.den .fn) → Int → Int → Option (Args [])) (hs:InOrder xs) (hx:xs.length ≤ 1073741824) (s:Nat) (h1:1 ≤ s) (hsn:s < xs.length) :
  ∀ (d a m:Nat),xs.length - a ≤ d → a ≤ xs.length → d < m → ∃ r:Nat,r ≤ xs.length ∧
   w8.l2 K0 m xs xs.length (some 244) s a ((a + 2 * s:Nat):Int) = K0 xs xs.length (some 244) s r:=by
 intro d
 induction d with
 | zero =>
  intro a m hd ha hm
  obtain ⟨m,rfl⟩:∃ k,m = k + 1:=⟨m - 1,by omega⟩
  refine ⟨a,ha,?_⟩
  simp only [w8.l2,dle,decide_eq_false (show ¬ a + 2 * s ≤ xs.length by omega),cond_false]
 | succ d ih =>
  intro a m hd ha hm
  obtain ⟨m,rfl⟩:∃ k,m = k + 1:=⟨m - 1,by omega⟩
  by_cases h:a + 2 * s ≤ xs.length
  ·obtain ⟨r,hr,e⟩:=ih (a + 2 * s) m (by omega) h (by omega)
   refine ⟨r,hr,?_⟩
   have e1:i64.wrap ((a:Int) + (s:Int)) = ((a + s:Nat):Int):=wadd (by omega)
   have e2:i64.wrap ((2:Int) * (s:Int)) = ((2 * s:Nat):Int):=by rw [wr (by omega) (by omega)]; omega
   have e3:i64.wrap (((a + 2 * s:Nat):Int) + ((2 * s:Nat):Int)) = ((a + 2 * s + 2 * s:Nat):Int):=wadd (by omega)
   simp only [w8.l2,dle,decide_eq_true h,cond_true,e1,e2,e3,sym.d hs hx a (a + s) (a + 2 * s) (by omega) (by omega) h]
   exact e
  ·refine ⟨a,ha,?_⟩
   simp only [w8.l2,dle,decide_eq_false h,cond_false]
theorem stable1 (K0:Option (Args [])) (hs:InOrder xs) (hx:xs.length ≤ 1073741824) :
  ∀ (d s m:Nat),xs.length - s ≤ d → 1 ≤ s → s ≤ 2147483648 → d + xs.length + 1 < m → w8.l1 K0 m xs xs.length (some 244) s = K0:=by
 intro d
 induction d with
 | zero =>
  intro s m hd h1 _ hm
  obtain ⟨m,rfl⟩:∃ k,m = k + 1:=⟨m - 1,by omega⟩
  simp only [w8.l1,dlt,decide_eq_false (show ¬ s < xs.length by omega),cond_false]
 | succ d ih =>
  intro s m hd h1 hs2 hm
  obtain ⟨m,rfl⟩:∃ k,m = k + 1:=⟨m - 1,by omega⟩
  by_cases h:s < xs.length
  ·have e2:i64.wrap ((2:Int) * (s:Int)) = ((0 + 2 * s:Nat):Int):=by rw [wr (by omega) (by omega)]; omega
   have e3:i64.wrap ((s:Int) * (2:Int)) = ((2 * s:Nat):Int):=by rw [wr (by omega) (by omega)]; omega
   have e4:=ih (2 * s) m (by omega) (by omega) (by omega) (by omega)
   simp only [w8.l1,dlt,decide_eq_true h,cond_true]
   rw [e2,show (0:Int) = ((0:Nat):Int) from rfl]
   generalize hK:(fun (o25:List Int) (o26:Int) (o27:Ty.den .fn) (o28 o29:Int)=>bif decide (i64.wrap (o29 + o28) < o26) then _ else _) = K
   obtain ⟨r,hr,e⟩:=stable2 K hs hx s h1 h xs.length 0 m (by omega) (by omega) (by omega)
   rw [e,← hK]
   have e5:i64.wrap ((r:Int) + (s:Int)) = ((r + s:Nat):Int):=wadd (by omega)
   simp only [e5,e3,e4,dlt]
   by_cases c:r + s < xs.length
   ·simp only [decide_eq_true c,cond_true,sym.d hs hx r (r + s) xs.length (by omega) c (Nat.le_refl _)]
   ·simp only [decide_eq_false c,cond_false]
  ·simp only [w8.l1,dlt,decide_eq_false h,cond_false]
theorem stable.d (hs:InOrder xs) (hx:xs.length ≤ 1073741824):w8.dom xs xs.length (some 244) = true:=by
 have:w8.raw fuel xs xs.length (some 244) = some ():=by
  unfold w8.raw
  dsimp only
  obtain ⟨r,hr,e⟩:=stable0 (fun o8 o9 o10 o11 o12=>bif w9.dom o8 o12 o9 o10 then (w8.l1 (some ()) fuel o8 o9 o10 o11) else none) hs hx xs.length 0 fuel (by omega) (by omega) (a26 (by omega))
  refine Eq.trans e ?_
  simp only [insertion.d xs hs hx r xs.length (Nat.le_refl _) (by omega),cond_true]
  exact stable1 _ hs hx xs.length 20 fuel (by omega) (by omega) (by omega) (a26 (by omega))
 exact C8 this
theorem sortStable.d (hs:InOrder xs) (hx:xs.length ≤ 1073741824):B7.dom xs (some 244) = true:=by
 have:B7.raw fuel xs (some 244) = some ():=by
  unfold B7.raw
  rw [stable.d hs hx]
  rfl
 exact C8 this
theorem getD_mem {α:Type} {l:List α} {i:Nat} (h:i < l.length) (d:α):l.getD i d ∈ l:=by
 rw [w04 h]
 exact List.getElem_mem h
theorem Y6.mem (l:List Span) (x:Int) (hl:l.length ≤ 1073741824):∃ s b,Y6.raw fuel l x = some (s,b,()) ∧ (s = ((0,0,0,()):Span) ∨ s ∈ l):=by
 obtain ⟨r,b,e,hr,hb⟩:=w79.ex l x hl
 have hd:B0.dom l x (some 238) = true:=C8 e
 have hv:B0.val l x (some 238) = ((r:Int),b,()):=D5 e
 unfold Y6.raw
 simp only [hd,hv,cond_true]
 cases b with
 | false =>
  simp only [Bool.not_false,cond_true]
  by_cases h:r = 0
  ·have e0:i64.wrap ((r:Int) - 1) = -1:=by rw [wr (by omega) (by omega)]; omega
   rw [e0]
   exact ⟨_,_,rfl,.inl rfl⟩
  ·have e0:i64.wrap ((r:Int) - 1) = ((r - 1:Nat):Int):=wsub (b:=1) (by omega) (by omega)
   have e1:decide (((r - 1:Nat):Int) < 0) = false:=decide_eq_false (by omega)
   have hlt:r - 1 < l.length:=by omega
   simp only [e0,e1,dge,dlt,decide_eq_true hlt,cond_true,cond_false,Bool.and_self,Int.toNat_natCast]
   cases decide (x > (l.getD (r - 1) N9.dflt).2.1)
   ·exact ⟨_,_,rfl,.inr (getD_mem hlt _)⟩
   ·exact ⟨_,_,rfl,.inl rfl⟩
 | true =>
  have hlt:=hb rfl
  have e1:decide ((r:Int) < 0) = false:=decide_eq_false (by omega)
  simp only [Bool.not_true,e1,dge,dlt,decide_eq_true hlt,cond_true,cond_false,Bool.and_self,Int.toNat_natCast]
  cases decide (x > (l.getD r N9.dflt).2.1)
  ·exact ⟨_,_,rfl,.inr (getD_mem hlt _)⟩
  ·exact ⟨_,_,rfl,.inl rfl⟩
theorem Y6.third (l:List Span) (x:Int) (hl:l.length ≤ 1073741824) (a b:Int) (h0:a ≤ 0 ∧ 0 ≤ b) (h:l.all (fun s=>decide (@LE.le Int _ a s.2.2.1) && decide (@LE.le Int _ s.2.2.1 b)) = true) :
  @LE.le Int _ a (Y6.val l x).1.2.2.1 ∧ @LE.le Int _ (Y6.val l x).1.2.2.1 b:=by
 obtain ⟨s,c,e,hs⟩:=Y6.mem l x hl
 rw [show Y6.val l x = (s,c,()) from D5 e]
 rcases hs with rfl | hs
 ·exact h0
 ·have:=List.all_eq_true.mp h s hs
  simpa using this
set_option maxRecDepth 100000 in
theorem Y0.range (x:Int):@LE.le Int _ 0 (Y0.val x).1 ∧ @LE.le Int _ (Y0.val x).1 14:=by
 show @LE.le Int _ 0 ((Y0.raw fuel x).getD _).1 ∧ @LE.le Int _ ((Y0.raw fuel x).getD _).1 14
 unfold Y0.raw
 dsimp only
 rw [Y6.d _ _ (by simp)]
 cases decide (x < 44032)
 ·cases decide (x > 55203)
  ·simp only [cond_false]
   cases ((i64.wrap (x - 44032)).tmod 28 == 0)
   ·exact ⟨by decide,by decide⟩
   ·exact ⟨by decide,by decide⟩
  ·exact Y6.third _ x (by simp) 0 14 ⟨by decide,by decide⟩ (by rfl)
 ·exact Y6.third _ x (by simp) 0 14 ⟨by decide,by decide⟩ (by rfl)
end Pt
end
section
open Go Go.Am
namespace Pt
abbrev ClusS:=Ty.den X1
theorem N1.d (s:ClusS):N1.dom s = true:=rfl
theorem X4.d (x:Int):X4.dom x = true:=by
 show (X4.raw fuel x).isSome = true
 unfold X4.raw
 cases x == 1 <;> cases x == 2 <;> rfl
theorem Z5.d (x y:Int):Z5.dom x y = true:=by
 show (Z5.raw fuel x y).isSome = true
 unfold Z5.raw
 cases x == 9 <;> cases x == 10 <;> cases x == 12 <;> cases x == 11 <;> cases x == 13 <;> cases y == 9 <;> cases y == 12 <;> cases y == 13 <;> cases y == 10 <;> rfl
theorem w48 {α:Type} (c:Bool) (a b:Option α):(bif c then a else b).isSome = (bif c then a.isSome else b.isSome):=by cases c <;> rfl
theorem a32.d (s:ClusS) (x:Int):a32.dom s x = true:=by
 show (a32.raw fuel s x).isSome = true
 unfold a32.raw
 dsimp only
 simp only [Y0.d,N1.d,X4.d,Z5.d,cond_true,w48,Option.isSome_some,Bool.cond_self]
theorem seg_full.d (s:Ty.den Y1) (x:Int):S5.dom s x = true:=by
 show (S5.raw fuel s x).isSome = true
 unfold S5.raw
 dsimp only
 simp only [a32.d,cond_true,w48,Option.isSome_some,Bool.cond_self]
theorem X5.d (s:ClusS) (x:Int):X5.dom s x = true:=by
 show (X5.raw fuel s x).isSome = true
 unfold X5.raw
 dsimp only
 simp only [Y0.d,N1.d,cond_true,w48,Option.isSome_some,Bool.cond_self]
theorem U7.ev (m:Nat) (s:Ty.den Y1):U7.raw m s = some (decide (List.length s.1 ≤ 32) && N1.is s.2.1 && (s.2.1.1 == decide (0 < List.length s.1)),()):=by
 unfold U7.raw
 dsimp only
 simp only [N1.d,cond_true]
 rw [show (N1.val s.2.1).1 = N1.is s.2.1 from rfl]
 have e:decide ((List.length s.1:Int) ≤ 32) = decide (List.length s.1 ≤ 32):=dle (b:=32)
 have e2:decide ((List.length s.1:Int) > 0) = decide (0 < List.length s.1):=dlt (a:=0)
 rw [e,e2]
 cases decide (List.length s.1 ≤ 32)
 ·rfl
 ·cases N1.is s.2.1
  ·rfl
  ·rfl
theorem U7.d (s:Ty.den Y1):U7.dom s = true:=C8 (U7.ev fuel s)
theorem a38.d (s:Ty.den Y1):a38.dom s = true:=by
 show (a38.raw fuel s).isSome = true
 unfold a38.raw
 dsimp only
 simp only [U7.d,cond_true,w48,Option.isSome_some,Bool.cond_self]
end Pt
end
section
open Go Go.Am
open IntKind (i64 u64 u8 i32 u32)
namespace Pt
theorem B63 {α:Type} (p:α → Bool):∀ l:List α,l.take (l.takeWhile p).length = l.takeWhile p
 | []=>rfl
 | x :: l=>by
  simp only [List.takeWhile]
  cases p x
  ·rfl
  ·simp only [List.length_cons,List.take_succ_cons,B63 p l]
theorem while_len {α:Type} (p:α → Bool) (l:List α):(l.takeWhile p).length ≤ l.length:=by
 have:=congrArg List.length (B63 p l)
 rw [List.length_take] at this
 omega
def RowsOk (xs:List Int):Prop:=∀ i,InOrder ((xs.drop i).takeWhile markB)
theorem order_l (K0:List Int → Option (Args [.slice (.int .i64)])) (v2:List Int) :
  ∀ (d:Nat) (xs:List Int) (m:Nat),RowsOk xs → xs.length ≤ 1073741824 → xs.length ≤ d → d < m → M3.l0 K0 m v2 xs = K0 v2:=by
 intro d
 induction d with
 | zero =>
  intro xs m hr hx hd hm
  obtain ⟨m,rfl⟩:∃ k,m = k + 1:=⟨m - 1,by omega⟩
  have e:decide ((xs.length:Int) > 0) = false:=decide_eq_false (by omega)
  simp only [M3.l0,e,cond_false]
 | succ d ih =>
  intro xs m hr hx hd hm
  obtain ⟨m,rfl⟩:∃ k,m = k + 1:=⟨m - 1,by omega⟩
  by_cases h:xs.length = 0
  ·have e:decide ((xs.length:Int) > 0) = false:=decide_eq_false (by omega)
   simp only [M3.l0,e,cond_false]
  ·have e:decide ((xs.length:Int) > 0) = true:=decide_eq_true (by omega)
   have hw:=while_len markB xs
   have h0:InOrder (xs.takeWhile markB):=by simpa using hr 0
   obtain ⟨n,hn⟩:∃ n,n = (xs.takeWhile markB).length:=⟨_,rfl⟩
   have e1:decide ((n:Int) ≤ (xs.length:Int)) = true:=decide_eq_true (by omega)
   have e2:i64.wrap ((if (1:Int) > (n:Int) then (1:Int) else (n:Int)) - (1:Int)) = ((max n 1 - 1:Nat):Int):=by
    split
    ·rw [wr (by omega) (by omega)]; omega
    ·rw [wr (by omega) (by omega)]; omega
   have e3:decide (((max n 1 - 1:Nat):Int) ≤ (xs.length:Int)) = true:=decide_eq_true (by omega)
   have e4:List.take (xs.length:Int).toNat xs = xs:=by rw [Int.toNat_natCast,List.take_length]
   have e5:decide ((1:Int) ≤ ((List.drop (max n 1 - 1) xs).length:Int)) = true:=decide_eq_true (by rw [List.length_drop]; omega)
   have e6:List.take ((List.drop (max n 1 - 1) xs).length:Int).toNat (List.drop (max n 1 - 1) xs) = List.drop (max n 1 - 1) xs:=by rw [Int.toNat_natCast,List.take_length]
   have e7:List.drop 1 (List.drop (max n 1 - 1) xs) = List.drop (max n 1) xs:=by rw [List.drop_drop]; congr 1; omega
   have e8:∀ z:Int,decide (z ≤ z) = true:=fun z=>decide_eq_true (Int.le_refl z)
   have hs:B7.dom (xs.takeWhile markB) (some 244) = true:=sortStable.d h0 (by omega)
   have hrow:=N4.v xs hx
   rw [← hn] at hrow
   have hto:((max n 1 - 1:Nat):Int).toNat = max n 1 - 1:=Int.toNat_natCast _
   have htn:((n:Nat):Int).toNat = n:=Int.toNat_natCast _
   have htk:List.take n xs = xs.takeWhile markB:=by rw [hn]; exact B63 markB xs
   simp only [M3.l0,e,cond_true,N4.d xs hx,hrow,dge,e1,e2,e3,e4,e5,e8,hto,htn,htk,hs,Bool.and_self]
   rw [e6,e7]
   refine ih _ m (fun i=>?_) (by rw [List.length_drop]; omega) (by rw [List.length_drop]; omega) (by omega)
   rw [List.drop_drop]
   exact hr _
theorem M3.ev (xs:List Int) (hr:RowsOk xs) (hx:xs.length ≤ 1073741824):M3.raw fuel xs = some (xs,()):=by
 have hv:=L6.ev fuel xs hx (a26 (by omega))
 have hn:=L7.ev fuel xs hx (a26 (by omega))
 unfold M3.raw
 rw [show L6.dom xs = true from C8 hv,show L6.val xs = (xs,()) from D5 hv]
 dsimp only
 simp only [cond_true]
 rw [order_l _ xs xs.length xs fuel hr hx (Nat.le_refl _) (a26 (by omega))]
 rw [show L7.dom xs = true from C8 hn,show L7.val xs = (xs,()) from D5 hn]
 rfl
theorem X8.ev (xs:List Int) (hr:RowsOk xs) (hx:xs.length ≤ 1073741824) (m:Nat):X8.raw m xs = some (true,()):=by
 have ho:=M3.ev xs hr hx
 have he:=slices_Equal.ev fuel xs xs hx (a26 (by omega))
 unfold X8.raw
 rw [show M3.dom xs = true from C8 ho,show M3.val xs = (xs,()) from D5 ho]
 dsimp only
 simp only [cond_true]
 rw [show C6.dom xs xs = true from C8 he,show C6.val xs xs = _ from D5 he]
 simp
structure NormOk (xs:List Int):Prop where
 tail:xs.tail.all markB = true
 few:(xs.filter markB).length ≤ 30
 rows:RowsOk xs
theorem NormOk.len {xs:List Int} (h:NormOk xs):xs.length ≤ 31:=by
 cases xs with
 | nil=>simp
 | cons x l =>
  have h1:=h.tail
  have h2:=h.few
  simp only [List.tail_cons] at h1
  have:l.filter markB = l:=List.filter_eq_self.mpr (fun a ha=>List.all_eq_true.mp h1 a ha)
  simp only [List.filter_cons,this] at h2
  split at h2 <;> simp at * <;> omega
abbrev NormS:=Ty.den E7
theorem C88.ev (m:Nat) (s:NormS) (h:NormOk s.1):O1.raw m s = some (((List.filter markB s.1).length:Int),()):=by
 have hl:=h.len
 have ht:=h.tail
 unfold O1.raw
 obtain ⟨xs,u⟩:=s
 cases xs with
 | nil=>rfl
 | cons x l =>
  simp only [List.tail_cons] at ht
  have hf:l.filter markB = l:=List.filter_eq_self.mpr (fun a ha=>List.all_eq_true.mp ht a ha)
  have e:decide ((List.length (x :: l):Int) > 0) = true:=decide_eq_true (by simp)
  have hl':List.length (x :: l) ≤ 31:=hl
  dsimp only
  rw [e]
  simp only [cond_true,List.getD_cons_zero,R2.d]
  rw [show (R2.val x).1 = markB x from rfl]
  cases hm:markB x
  ·have e2:i64.wrap ((List.length (x :: l):Int) - 1) = (l.length:Int):=by rw [wr (by omega) (by omega)]; simp
   simp only [Bool.not_false,cond_true,e2,List.filter_cons,hm,hf]
   rfl
  ·simp only [Bool.not_true,cond_false,List.filter_cons,hm,hf,if_true]
theorem S8.ev (m:Nat) (s:NormS) (h:NormOk s.1):S8.raw m s = some (true,()):=by
 have hl:=h.len
 have ht:=h.tail
 have hf:=h.few
 have hm:=C88.ev fuel s h
 have hs:=X8.ev s.1 h.rows (by omega) fuel
 unfold S8.raw
 by_cases h0:List.length s.1 = 0
 ·have e:((List.length s.1:Int) == 0) = true:=beq_iff_eq.mpr (by omega)
  rw [e]
  rfl
 ·have e:((List.length s.1:Int) == 0) = false:=beq_eq_false_iff_ne.mpr (by omega)
  have e1:decide ((1:Int) ≤ (List.length s.1:Int)) = true:=decide_eq_true (by omega)
  have e2:decide ((List.length s.1:Int) ≤ (List.length s.1:Int)) = true:=decide_eq_true (by omega)
  have e4:List.take (List.length s.1:Int).toNat s.1 = s.1:=by rw [Int.toNat_natCast,List.take_length]
  have e5:List.drop 1 s.1 = List.tail s.1:=List.drop_one
  have e6:decide (((List.filter markB s.1).length:Int) ≤ 30) = true:=decide_eq_true (by omega)
  have hl2:(List.tail s.1).length ≤ 1073741824:=by rw [List.length_tail]; omega
  dsimp only
  rw [e,e1,e2,e4,e5]
  simp only [Bool.and_self,cond_true,cond_false]
  rw [others.d _ hl2,others.v _ hl2,ht]
  simp only [Bool.not_true,Bool.not_false,cond_true]
  rw [show O1.dom s = true from C8 hm,show O1.val s = _ from D5 hm]
  simp only [cond_true,e6]
  rw [show X8.dom s.1 = true from C8 hs,show X8.val s.1 = _ from D5 hs]
  rfl
theorem cmp_Or.d (a b:Int):O2.dom [a,b] = true:=by
 have h:∃ r,O2.raw fuel [a,b] = some r:=by
  unfold O2.raw
  have f3:fuel = (fuel - 3) + 3:=rfl
  rw [f3]
  simp only [O2.l0]
  have e:decide ((0:Int) < (List.length [a,b]:Int)) = true:=decide_eq_true (by simp)
  have e1:i64.wrap ((0:Int) + 1) = 1:=by rw [wr (by omega) (by omega)]; rfl
  have e2:decide ((1:Int) < (List.length [a,b]:Int)) = true:=decide_eq_true (by simp)
  have e3:i64.wrap ((1:Int) + 1) = 2:=by rw [wr (by omega) (by omega)]; rfl
  have e4:decide ((2:Int) < (List.length [a,b]:Int)) = false:=decide_eq_false (by simp)
  simp only [e,e1,e2,e3,e4,cond_true,cond_false,Int.le_refl,decide_true,Bool.true_and]
  cases (List.getD [a,b] (Int.toNat 0) 0 != 0)
  ·cases (List.getD [a,b] (Int.toNat 1) 0 != 0)
   ·exact ⟨_,rfl⟩
   ·exact ⟨_,rfl⟩
  ·exact ⟨_,rfl⟩
 obtain ⟨r,h⟩:=h
 exact C8 h
abbrev Two:=Ty.den O3
abbrev PRow:=Ty.den Y3
theorem Y4.d (a b:Two):Y4.dom a b = true:=by
 have h:Y4.raw fuel a b = some (O2.val [cmpI a.1 b.1,cmpI a.2.1 b.2.1]):=by
  unfold Y4.raw
  simp only [L2.d,L2.v,cond_true]
  rw [show O2.dom [cmpI a.1 b.1,cmpI a.2.1 b.2.1] = true from cmp_Or.d _ _]
  rfl
 exact C8 h
theorem R4.d (a:PRow) (b:Two):R4.dom a b = true:=by
 have h:R4.raw fuel a b = some (Y4.val a.1 b):=by
  unfold R4.raw
  simp only [Y4.d,cond_true]
 exact C8 h
theorem B43.l (K0:List PRow → (Ty.den .fn) → Int → Int → Two → Option (Args [.int .i64,.bool])) (l:List PRow) (x:Two) (hl:l.length ≤ 1099511627776) :
  ∀ (d i j:Nat) (m:Nat),j - i ≤ d → i ≤ j → j ≤ l.length → d < m → ∀ v3,∃ r:Nat,r ≤ l.length ∧
   a8.l0 K0 m l (some 274) v3 i j x = K0 l (some 274) v3 r x:=by
 intro d
 induction d with
 | zero =>
  intro i j m hd hij hj hm v3
  obtain ⟨m,rfl⟩:∃ k,m = k + 1:=⟨m - 1,by omega⟩
  refine ⟨i,by omega,?_⟩
  simp only [a8.l0,dlt,decide_eq_false (show ¬ i < j by omega),cond_false]
 | succ d ih =>
  intro i j m hd hij hj hm v3
  obtain ⟨m,rfl⟩:∃ k,m = k + 1:=⟨m - 1,by omega⟩
  by_cases h:i < j
  ·simp only [a8.l0,dlt,decide_eq_true h,cond_true,half (i:=i) (j:=j) (by omega) h,dge,
    decide_eq_true (show (i + j) / 2 < l.length by omega),Bool.and_self,R4.d]
   rw [show ((some 274:Ty.den .fn) == Option.some (274:Go.FuncId)) = true from rfl,wadd1 (by omega)]
   simp only [cond_true]
   cases decide ((R4.val (l.getD (Int.toNat (((i + j) / 2:Nat):Int)) Y3.dflt) x).1 < 0)
   ·exact ih i ((i + j) / 2) m (by omega) (by omega) (by omega) (by omega) v3
   ·exact ih ((i + j) / 2 + 1) j m (by omega) (by omega) (by omega) (by omega) v3
  ·refine ⟨i,by omega,?_⟩
   simp only [a8.l0,dlt,decide_eq_false h,cond_false]
theorem B43.ex (l:List PRow) (x:Two) (hl:l.length ≤ 1073741824) :
  ∃ (r:Nat) (b:Bool),a8.raw fuel l x (some 274) = some ((r:Int),b,()) ∧ r ≤ l.length ∧ (b = true → r < l.length):=by
 unfold a8.raw
 obtain ⟨r,hr,e⟩:=B43.l (fun o10 o11 o12 o13 o14=>bif decide (o13 < o12) then (bif decide ((0:Int) ≤ o13) && decide (o13 < (↑(List.length o10):Int)) then (bif o11 == Option.some (274:Go.FuncId) then (let z15:=List.getD o10 (Int.toNat o13) Y3.dflt; let y16:=R4.val z15 o14; bif R4.dom z15 o14 then (some ((o13,y16.1 == (0:Int),()))) else none) else (none)) else (none)) else (some ((o13,false,())))) l x (by omega) l.length 0 l.length fuel (by omega) (by omega) (by omega) (a26 (by omega)) (l.length:Int)
 rw [show ((0:Nat):Int) = 0 from rfl] at e
 rw [e]
 by_cases h:r < l.length
 ·refine ⟨r,(R4.val (l.getD (Int.toNat (r:Int)) Y3.dflt) x).1 == 0,?_,hr,fun _=>h⟩
  simp only [dlt,decide_eq_true h,dge,Bool.and_self,cond_true,R4.d]
  rw [show ((some 274:Ty.den .fn) == Option.some (274:Go.FuncId)) = true from rfl]
  rfl
 ·exact ⟨r,false,by simp only [dlt,decide_eq_false h,cond_false],hr,fun hb=>by cases hb⟩
theorem R9.ev (m:Nat) (x a b:Int):R9.raw m x a b = some (decide (a ≤ x) && decide (x ≤ b),()):=by
 unfold R9.raw
 by_cases h:a ≤ x
 ·have e:decide (x ≥ a) = true:=decide_eq_true h
  rw [e]
  rfl
 ·have e:decide (x ≥ a) = false:=decide_eq_false h
  rw [e]
  rfl
theorem R9.d (x a b:Int):R9.dom x a b = true:=C8 (R9.ev fuel x a b)
theorem R9.v (x a b:Int):R9.val x a b = (decide (a ≤ x) && decide (x ≤ b),()):=D5 (R9.ev fuel x a b)
theorem D06 (l:List PRow) (n:Int) (hn:(l.length:Int) = n) (hl:l.length ≤ 1073741824) (x:Two) :
  (bif a8.dom l x (Option.some (274:Nat)) then (bif !(a8.val l x (Option.some (274:Nat))).2.1 then (some (((0:Int),false,()):Args [.int .i64,.bool])) else
   (bif decide ((0:Int) ≤ (a8.val l x (Option.some (274:Nat))).1) && decide ((a8.val l x (Option.some (274:Nat))).1 < n) then
    (some (((l.getD (Int.toNat (a8.val l x (Option.some (274:Nat))).1) Y3.dflt).2.1,true,()):Args [.int .i64,.bool])) else (none))) else none).isSome = true:=by
 obtain ⟨r,b,e,hr,hb⟩:=B43.ex l x hl
 rw [show a8.dom l x (Option.some (274:Nat)) = true from C8 e,
  show a8.val l x (Option.some (274:Nat)) = ((r:Int),b,()) from D5 e]
 cases b with
 | false=>rfl
 | true =>
  have:=hb rfl
  have e1:decide ((r:Int) < n) = true:=decide_eq_true (by omega)
  simp only [e1,dge,Bool.and_self,cond_true,Bool.not_true,cond_false]
  rfl
theorem isSome_bif {α:Type} (c:Bool) (a b:Option α):(bif c then a else b).isSome = (bif c then a.isSome else b.isSome):=by cases c <;> rfl
set_option maxRecDepth 100000 in
theorem T0.d (x:Two):T0.dom x = true:=by
 show (T0.raw fuel x).isSome = true
 unfold T0.raw
 dsimp only
 rw [Y4.d]
 simp only [cond_true]
 cases decide ((Y4.val x (111,772,())).1 > 0)
 ·simp only [cond_false]
  exact D06 _ _ rfl (by simp) x
 ·simp only [cond_true]
  exact D06 _ _ rfl (by simp) x
theorem U8.d (a b:Int):U8.dom a b = true:=by
 show (U8.raw fuel a b).isSome = true
 unfold U8.raw
 dsimp only
 simp only [R9.d,R9.v,T0.d,cond_true]
 simp only [isSome_bif,Option.isSome_some,Bool.cond_self]
theorem compose_l (K0:Int → Int → List Int → Option (Args [.slice (.int .i64)])) (xs:List Int) (hx:xs.length ≤ 1073741824) :
  ∀ (d i m:Nat) (v4 v5:Int) (v6:List Int),xs.length - i ≤ d → i ≤ xs.length → d < m → v6.length ≤ i → (v4 = -1 ∨ ∃ h:Nat,v4 = h ∧ h < v6.length) →
  ∃ a b c,C4.l0 K0 m xs xs.length i v4 v5 v6 = K0 a b c ∧ List.length c ≤ xs.length:=by
 intro d
 induction d with
 | zero =>
  intro i m v4 v5 v6 hd hi hm hv h4
  obtain ⟨m,rfl⟩:∃ k,m = k + 1:=⟨m - 1,by omega⟩
  refine ⟨v4,v5,v6,?_,by omega⟩
  simp only [C4.l0,dlt,decide_eq_false (show ¬ i < xs.length by omega),cond_false]
 | succ d ih =>
  intro i m v4 v5 v6 hd hi hm hv h4
  obtain ⟨m,rfl⟩:∃ k,m = k + 1:=⟨m - 1,by omega⟩
  by_cases hlt:i < xs.length
  ·obtain ⟨r,hr⟩:∃ r:Int,r = xs.getD i 0:=⟨_,rfl⟩
   have e1:decide ((v6.length + [r].length) * 8 ≤ 140737488355328) = true:=decide_eq_true (by simp; omega)
   have e2:decide (v6.length + [r].length ≤ lim) = true:=decide_eq_true (by unfold lim; simp; omega)
   have e3:i64.wrap (((v6 ++ [r]).length:Int) - 1) = (v6.length:Int):=by simp; rw [wr (by omega) (by omega)]
   have pushA:∀ c:Int,∃ a b o,C4.l0 K0 m xs xs.length ((i + 1:Nat):Int) (v6.length:Int) c (v6 ++ [r]) = K0 a b o ∧ List.length o ≤ xs.length :=
    fun c=>ih (i + 1) m _ c (v6 ++ [r]) (by omega) hlt (by omega) (by simp; omega) (.inr ⟨v6.length,rfl,by simp⟩)
   have pushB:∀ c:Int,∃ a b o,C4.l0 K0 m xs xs.length ((i + 1:Nat):Int) v4 c (v6 ++ [r]) = K0 a b o ∧ List.length o ≤ xs.length :=
    fun c=>ih (i + 1) m _ c (v6 ++ [r]) (by omega) hlt (by omega) (by simp; omega) (h4.imp id (fun ⟨h,e,l⟩=>⟨h,e,by simp; omega⟩))
   have push:∀ c:Int,∃ a b o,(bif c == 0 then C4.l0 K0 m xs xs.length ((i + 1:Nat):Int) (v6.length:Int) c (v6 ++ [r]) else C4.l0 K0 m xs xs.length ((i + 1:Nat):Int) v4 c (v6 ++ [r])) = K0 a b o ∧ List.length o ≤ xs.length:=by
    intro c
    cases c == 0
    ·exact pushB c
    ·exact pushA c
   simp only [C4.l0,dlt,decide_eq_true hlt,dge,Bool.and_self,cond_true,O0.d,Int.toNat_natCast,← hr,wadd1 (a:=i) (by omega),e1,e2,e3,U8.d]
   rcases h4 with rfl | ⟨h,rfl,hh⟩
   ·rw [show decide ((-1:Int) ≥ 0) = false from rfl]
    exact push _
   ·have e4:decide ((h:Int) ≥ 0) = true:=decide_eq_true (by omega)
    have set:∀ v:Int,∃ a b o,C4.l0 K0 m xs xs.length ((i + 1:Nat):Int) (h:Int) v5 (List.set v6 h v) = K0 a b o ∧ List.length o ≤ xs.length :=
     fun v=>ih (i + 1) m _ v5 _ (by omega) hlt (by omega) (by simp; omega) (.inr ⟨h,rfl,by simpa using hh⟩)
    simp only [e4,dlt,dge,decide_eq_true hh,cond_true,Int.toNat_natCast,Bool.and_self]
    cases (h:Int) == i64.wrap ((v6.length:Int) - 1)
    ·cases decide (v5 < (O0.val r).1)
     ·exact push _
     ·cases (U8.val (v6.getD h 0) r).2.1
      ·exact push _
      ·exact set _
    ·cases (U8.val (v6.getD h 0) r).2.1
     ·exact push _
     ·exact set _
  ·refine ⟨v4,v5,v6,?_,by omega⟩
   simp only [C4.l0,dlt,decide_eq_false hlt,cond_false]
theorem C4.ex (xs:List Int) (hx:xs.length ≤ 1073741824):∃ c,C4.raw fuel xs = some (c,()) ∧ List.length c ≤ xs.length:=by
 unfold C4.raw
 obtain ⟨a,b,c,e,hc⟩:=compose_l (fun o18 o19 o20=>some (o20,())) xs hx xs.length 0 fuel (-1) 0 [] (by omega) (by omega) (a26 (by omega)) (by simp) (.inl rfl)
 exact ⟨c,e,hc⟩
theorem C4.d (xs:List Int) (hx:xs.length ≤ 1073741824):C4.dom xs = true:=by
 obtain ⟨c,e,_⟩:=C4.ex xs hx
 exact C8 e
theorem C4.len (xs:List Int) (hx:xs.length ≤ 1073741824):List.length (C4.val xs).1 ≤ xs.length:=by
 obtain ⟨c,e,hc⟩:=C4.ex xs hx
 rw [show C4.val xs = (c,()) from D5 e]
 exact hc
end Pt
end
section
open Go Go.Am
namespace Pt
theorem R8.d (x:Int):R8.dom x = true:=by
 show (R8.raw fuel x).isSome = true
 unfold R8.raw
 dsimp only
 simp only [w48,Option.isSome_some,Bool.cond_self]
theorem clone.d (l:List Int) (h:l.length ≤ 1073741824):C1.dom l = true:=decide_eq_true h
theorem clone.v (l:List Int):C1.val l = (l,()):=rfl
def cutL (l:List Int):List Int:=bif l.length == 0 then [] else l ++ [-1]
theorem a03.ev (m:Nat) (l:List Int) (h:l.length ≤ 1000000000):a03.raw m l = some (cutL l,()):=by
 unfold a03.raw cutL
 have e1:decide ((l.length + 1) * 8 ≤ 140737488355328) = true:=decide_eq_true (by omega)
 have e2:decide (l.length + 1 ≤ lim) = true:=decide_eq_true (by unfold lim; omega)
 dsimp only
 rw [clone.d l (by omega),clone.v]
 dsimp only
 by_cases c:l.length = 0
 ·have a:((l.length:Int) == 0) = true:=beq_iff_eq.mpr (by omega)
  have b:(l.length == 0) = true:=beq_iff_eq.mpr c
  rw [a,b]
  rfl
 ·have a:((l.length:Int) == 0) = false:=beq_eq_false_iff_ne.mpr (by omega)
  have b:(l.length == 0) = false:=beq_eq_false_iff_ne.mpr c
  rw [a,b,e1,e2]
  rfl
theorem a30.ev (m:Nat) (s:NormS) (h:NormOk s.1):a30.raw m s = some (C4.val s.1):=by
 have hs:=S8.ev fuel s h
 have hl:=h.len
 unfold a30.raw
 rw [show S8.dom s = true from C8 hs,show S8.val s = _ from D5 hs]
 simp only [cond_true,Bool.not_true,cond_false]
 rw [C4.d s.1 (by omega)]
 rfl
end Pt
end
section
open Go Go.Am
open IntKind (i64 u64 u8 i32 u32)
namespace Pt
theorem varint_l (K0:Int → List Int → Option (Args [.slice (.int .u8)])) :
  ∀ (k n m:Nat) (v:List Int),n < 128 ^ (k + 1) → k < m → v.length + k ≤ 1073741824 → ∃ (r:Int) (o:List Int),M2.l0 K0 m n v = K0 r o ∧ o.length ≤ v.length + k:=by
 intro k
 induction k with
 | zero =>
  intro n m v hn hm hv
  obtain ⟨m,rfl⟩:∃ k,m = k + 1:=⟨m - 1,by omega⟩
  have e:decide ((n:Int) ≥ 128) = false:=decide_eq_false (by simp at hn; omega)
  exact ⟨n,v,by simp only [M2.l0,e,cond_false],by omega⟩
 | succ k ih =>
  intro n m v hn hm hv
  obtain ⟨m,rfl⟩:∃ k,m = k + 1:=⟨m - 1,by omega⟩
  by_cases h:128 ≤ n
  ·have e:decide ((n:Int) ≥ 128) = true:=decide_eq_true (by omega)
   have e3:(n:Int).fdiv 128 = ((n / 128:Nat):Int):=by rw [Int.fdiv_eq_ediv_of_nonneg _ (by omega)]; omega
   have hlt:n / 128 < 128 ^ (k + 1):=by
    rw [Nat.div_lt_iff_lt_mul (by omega)]
    rw [Nat.pow_succ] at hn
    exact hn
   simp only [M2.l0,e,cond_true,e3]
   generalize u8.wrap _ = b
   have e1:decide ((v.length + [b].length) * 1 ≤ 140737488355328) = true:=decide_eq_true (by simp; omega)
   have e2:decide (v.length + [b].length ≤ lim) = true:=decide_eq_true (by unfold lim; simp; omega)
   obtain ⟨r,o,he,ho⟩:=ih (n / 128) m (v ++ [b]) hlt (by omega) (by simp; omega)
   refine ⟨r,o,?_,by simp at ho; omega⟩
   simp only [e1,e2,Bool.and_self,cond_true]
   exact he
  ·have e:decide ((n:Int) ≥ 128) = false:=decide_eq_false (by omega)
   exact ⟨n,v,by simp only [M2.l0,e,cond_false],by omega⟩
theorem two_no {α:Type} {a b:Bool} {u v R K:α} (h0:a = false) (h1:b = false) (h:R = K):(bif a then u else (bif b then v else R)) = K:=by subst h0 h1; exact h
def putK (o5:Int) (o6:List Int):Option (Args [.slice (.int .u8)]):=let z7:=List.length o6 + [u8.wrap o5].length; bif decide (z7 * (1:Nat) ≤ (140737488355328:Nat)) && decide (z7 ≤ lim) then (some ((o6 ++ [u8.wrap o5],()))) else (none)
theorem M2.rest (x:Int) (h0:¬ x < 0) (h1:¬ x > 268435455) (F:Nat) (K:Option (Args [.slice (.int .u8)])) (h:M2.l0 putK F x [] = K):M2.raw F x = K:=by
 unfold M2.raw
 refine two_no (decide_eq_false h0) (decide_eq_false h1) ?_
 exact h
theorem M2.ex (x:Int):∃ o:List Int,M2.raw fuel x = some (o,()) ∧ o.length ≤ 4:=by
 have hf:3 < fuel:=a26 (by omega)
 generalize fuel = F at *
 by_cases h0:x < 0
 ·exact ⟨[],by unfold M2.raw; rw [decide_eq_true h0]; rfl,by simp⟩
 ·by_cases h1:x > 268435455
  ·exact ⟨[],by unfold M2.raw; rw [decide_eq_false h0,decide_eq_true h1]; rfl,by simp⟩
  ·obtain ⟨n,rfl⟩:∃ n:Nat,x = n:=⟨x.toNat,by omega⟩
   have hn:n < 128 ^ (3 + 1):=by
    have hp:(128:Nat) ^ (3 + 1) = 268435456:=by decide
    rw [hp]
    omega
   obtain ⟨r,o,e,ho⟩:=varint_l putK 3 n F [] hn hf (by simp)
   simp only [List.length_nil] at ho
   refine ⟨o ++ [u8.wrap r],M2.rest _ h0 h1 F _ (Eq.trans e ?_),by simp; omega⟩
   have e1:decide ((o.length + [u8.wrap r].length) * 1 ≤ 140737488355328) = true:=decide_eq_true (by simp; omega)
   have e2:decide (o.length + [u8.wrap r].length ≤ lim) = true:=decide_eq_true (by unfold lim; simp; omega)
   unfold putK
   simp only [e1,e2,Bool.and_self,cond_true]
theorem w70 {α:Type} {c:Bool} {a b:Option α} (h1:c = true → a.isSome = true) (h2:c = false → b.isSome = true):(bif c then a else b).isSome = true:=by
  cases c
  · exact h2 rfl
  · exact h1 rfl
theorem sm {α:Type} {a:α}:(some a).isSome = true:=rfl
theorem tabFirst_ok:(a12.all fun x=>decide (0 ≤ x) && decide (x ≤ 255)) = true:=by kernel_rfl
theorem getD_all {l:List Int} {p:Int → Bool} (h:l.all p = true) (hd:p 0 = true) (k:Nat):p (l.getD k 0) = true:=by
  rw [List.getD_eq_getElem?_getD]
  cases hk:l[k]? with
  | none=>exact hd
  | some x=>exact List.all_eq_true.1 h x (List.mem_of_getElem? hk)
theorem tf (k:Nat):0 ≤ Int.fdiv (a12.getD k 0) 16 ∧ Int.fdiv (a12.getD k 0) 16 < 16:=by
  have h:=getD_all tabFirst_ok (by decide) k
  simp only [Bool.and_eq_true,decide_eq_true_eq] at h
  rw [Int.fdiv_eq_ediv_of_nonneg _ (by omega)]
  omega
theorem bt (b:UInt8):((b.toNat:Nat):Int) < 256:=by have:=b.toNat_lt; omega
theorem M9.d (x:ByteArray):M9.dom x = true:=by
  show (M9.raw fuel x).isSome = true
  unfold M9.raw
  dsimp only
  have h0:=bt (x.data.toList.getD 0 0)
  have h1:=tf (Int.toNat ((x.data.toList.getD 0 0).toNat:Int))
  generalize Int.fdiv (a12.getD (Int.toNat ((x.data.toList.getD 0 0).toNat:Int)) 0) 16 = z at *
  repeat' (first | with_reducible exact sm | with_reducible refine w70 (fun _=>?_) (fun _=>?_))
  all_goals
    exfalso
    simp only [Bool.and_eq_false_iff,decide_eq_false_iff_not,decide_eq_true_eq,beq_eq_false_iff_ne,ne_eq] at *
    omega
theorem tfn (k:Nat):i64.wrap (u8.wrap (((BitVec.ofInt 8 (a12.getD k 0) &&& BitVec.ofInt 8 7).toNat:Nat):Int)) = (((BitVec.ofInt 8 (a12.getD k 0) &&& BitVec.ofInt 8 7).toNat:Nat):Int):=by
  have:=(BitVec.ofInt 8 (a12.getD k 0) &&& BitVec.ofInt 8 7).isLt
  rw [IntKind.wrap_u8,IntKind.wrap_i64]
  omega
theorem rowBits:(a12.all fun x=>decide (x ≥ 240) || (decide (2 ≤ (BitVec.ofInt 8 x &&& BitVec.ofInt 8 7).toNat) && decide ((BitVec.ofInt 8 x &&& BitVec.ofInt 8 7).toNat ≤ 4))) = true:=by kernel_rfl
theorem rowBits_k (k:Nat) (h:k < 256) (h2:¬ a12.getD k 0 ≥ 240):2 ≤ (BitVec.ofInt 8 (a12.getD k 0) &&& BitVec.ofInt 8 7).toNat ∧ (BitVec.ofInt 8 (a12.getD k 0) &&& BitVec.ofInt 8 7).toNat ≤ 4:=by
  have hl:a12.length = 256:=by kernel_rfl
  have hk:k < a12.length:=by omega
  have h3:=List.all_eq_true.1 rowBits (a12[k]) (List.getElem_mem hk)
  have e:a12.getD k 0 = a12[k]:=w04 hk 0
  rw [e] at h2 ⊢
  rw [decide_eq_false h2,Bool.false_or,Bool.and_eq_true,decide_eq_true_eq,decide_eq_true_eq] at h3
  exact h3
theorem utf8_slow.d (x:ByteArray):L4.dom x = true:=by
  show (L4.raw fuel x).isSome = true
  unfold L4.raw
  dsimp only
  have h0:=bt (x.data.toList.getD 0 0)
  have h1:=tf (Int.toNat ((x.data.toList.getD 0 0).toNat:Int))
  have h2:=rowBits_k (Int.toNat ((x.data.toList.getD 0 0).toNat:Int)) (by omega)
  simp only [tfn]
  generalize (BitVec.ofInt 8 (a12.getD (Int.toNat ((x.data.toList.getD 0 0).toNat:Int)) 0) &&& BitVec.ofInt 8 7).toNat = y at *
  generalize Int.fdiv (a12.getD (Int.toNat ((x.data.toList.getD 0 0).toNat:Int)) 0) 16 = z at *
  generalize a12.getD (Int.toNat ((x.data.toList.getD 0 0).toNat:Int)) 0 = u at *
  repeat' (first | with_reducible exact sm | with_reducible refine w70 (fun _=>?_) (fun _=>?_))
  all_goals
    exfalso
    simp only [Bool.and_eq_false_iff,decide_eq_false_iff_not,decide_eq_true_eq,beq_eq_false_iff_ne,ne_eq] at *
    omega
theorem M0.d (x:ByteArray):M0.dom x = true:=by
  show (M0.raw fuel x).isSome = true
  unfold M0.raw
  dsimp only
  rw [utf8_slow.d]
  simp only [cond_true]
  by_cases h:x.size = 0
  · have e:x.toList = (ByteArray.mk (nl UInt8).toArray).toList:=by
      have:x = ByteArray.empty:=ByteArray.size_eq_zero_iff.1 h
      rw [this]; rfl
    rw [e]
    simp
  · repeat' (first | with_reducible exact sm | with_reducible refine w70 (fun _=>?_) (fun _=>?_))
    all_goals
      exfalso
      simp only [Bool.and_eq_false_iff,decide_eq_false_iff_not,decide_eq_true_eq,beq_eq_false_iff_ne,ne_eq] at *
      omega
theorem ext_size (v:ByteArray) (k:Nat):(ByteArray.extract v k ((v.size:Nat):Int).toNat).size = v.size - k:=by
  rw [ByteArray.size_extract]
  omega
theorem utf8_Valid_l (K0:Bool → Option (Args [.bool])) (K1:Option (Args [.bool])) (h0:∀ b,(K0 b).isSome = true) (h1:K1.isSome = true) :
    ∀ (n m:Nat) (v:ByteArray),v.size ≤ n → n ≤ 8 → n < m → (D8.l0 K0 K1 m v).isSome = true:=by
  intro n
  induction n with
  | zero =>
    intro m v hv hn hm
    obtain ⟨m,rfl⟩:∃ k,m = k + 1:=⟨m - 1,by omega⟩
    have e:decide (((v.size:Nat):Int) > 0) = false:=decide_eq_false (by omega)
    simp only [D8.l0,e,cond_false]
    exact h1
  | succ n ih =>
    intro m v hv hn hm
    obtain ⟨m,rfl⟩:∃ k,m = k + 1:=⟨m - 1,by omega⟩
    unfold D8.l0
    dsimp only
    have g0:=bt (v.data.toList.getD 0 0)
    have g1:=tf (Int.toNat ((v.data.toList.getD 0 0).toNat:Int))
    have r1:∀ k,0 < k → 0 < v.size → (D8.l0 K0 K1 m (ByteArray.extract v k ((v.size:Nat):Int).toNat)).isSome = true:=fun k hk hv0 =>
      ih m _ (by rw [ext_size]; omega) (by omega) (by omega)
    have e1:=ext_size v 1
    generalize i64.wrap (u8.wrap (((BitVec.ofInt 8 (a12.getD (Int.toNat ((v.data.toList.getD 0 0).toNat:Int)) 0) &&& BitVec.ofInt 8 7).toNat:Nat):Int)) = y at *
    generalize Int.fdiv (a12.getD (Int.toNat ((v.data.toList.getD 0 0).toNat:Int)) 0) 16 = z at *
    repeat' (first | with_reducible exact h0 _ | with_reducible exact h1 | with_reducible refine w70 (fun _=>?_) (fun _=>?_))
    all_goals first
      | (refine r1 _ (by omega) ?_
         simp only [Bool.and_eq_true,decide_eq_true_eq] at *
         omega)
      | (exfalso
         simp only [Bool.and_eq_false_iff,Bool.and_eq_true,decide_eq_false_iff_not,decide_eq_true_eq,beq_eq_false_iff_ne,ne_eq] at *
         omega)
theorem D8.d (x:ByteArray) (h:x.size ≤ 8):D8.dom x = true :=
  utf8_Valid_l _ _ (fun _=>rfl) rfl x.size fuel x (Nat.le_refl _) h (a26 (by omega))
end Pt
end
section
open Go Go.Am
namespace Pt
theorem R6.d (x:ByteArray):R6.dom x = true:=by
 show (R6.raw fuel x).isSome = true
 unfold R6.raw
 dsimp only
 rw [M9.d]
 simp only [cond_true]
 repeat' (first | with_reducible exact sm | with_reducible refine w70 (fun _=>?_) (fun _=>?_))
theorem w19 {x:ByteArray}:(ByteArray.toList x == (ByteArray.mk (nl UInt8).toArray).toList) = (x.size == 0):=by
 rw [ByteArray.toList_eq,ByteArray.toList_eq]
 have e:(ByteArray.mk (nl UInt8).toArray).data.toList = []:=rfl
 rw [e]
 have h:x.size = x.data.toList.length:=rfl
 rw [h]
 cases x.data.toList <;> rfl
theorem cond_pair {α:Type} (c:Bool) (a b:α):(bif c then some a else some b) = some (bif c then a else b):=by cases c <;> rfl
theorem R6.len (x:ByteArray) (h:(R6.val x).1 = true):0 < x.size ∧ x.size ≤ 3:=by
 unfold R6.val R6.raw at h
 dsimp only at h
 rw [M9.d,w19] at h
 by_cases h1:x.size = 0
 ·rw [h1] at h
  cases h
 ·by_cases h2:((x.size:Nat):Int) ≤ 3
  ·omega
  ·have e1:(x.size == 0) = false:=beq_eq_false_iff_ne.2 h1
   rw [e1,decide_eq_false h2] at h
   cases h
theorem a04.d (x:ByteArray) (h:x.size ≤ 8):a04.dom x = true:=by
 show (a04.raw fuel x).isSome = true
 unfold a04.raw
 dsimp only
 rw [M0.d,D8.d x h]
 simp only [cond_true]
 repeat' (first | with_reducible exact sm | with_reducible refine w70 (fun _=>?_) (fun _=>?_))
abbrev DecS:=Ty.den M7
theorem T6.ev (m:Nat) (s:DecS):T6.raw m s = some (bif s.1.size == 0 then (true,()) else R6.val s.1):=by
 unfold T6.raw
 dsimp only
 rw [w19,R6.d]
 cases s.1.size == 0 <;> rfl
theorem T6.d (s:DecS):T6.dom s = true:=C8 (T6.ev fuel s)
theorem T6.v (s:DecS):T6.val s = bif s.1.size == 0 then (true,()) else R6.val s.1:=D5 (T6.ev fuel s)
def DecOk (s:DecS):Prop:=(T6.val s).1 = true
def dec0:DecS:=(ByteArray.mk (nl UInt8).toArray,())
theorem dec0_ok:DecOk dec0:=by
 unfold DecOk
 rw [T6.v]
 rfl
theorem DecOk.len {s:DecS} (h:DecOk s):s.1.size ≤ 3:=by
 unfold DecOk at h
 rw [T6.v] at h
 by_cases h1:s.1.size = 0
 ·omega
 ·have e1:(s.1.size == 0) = false:=beq_eq_false_iff_ne.2 h1
  rw [e1] at h
  exact (R6.len _ h).2
theorem begins_ok {b:ByteArray} (h:(R6.val b).1 = true):DecOk (b,()):=by
 have hl:=R6.len b h
 unfold DecOk
 rw [T6.v]
 have e1:(b.size == 0) = false:=beq_eq_false_iff_ne.2 (by omega)
 rw [e1]
 exact h
def DecRes (n:Nat) (r:Args [M7,.slice (.int .i64)]):Prop:=DecOk r.1 ∧ List.length r.2.1 + r.1.1.size ≤ n
theorem C18 (c:Int):(bytesOf [c]).size = 1:=rfl
theorem app_size (a:ByteArray) (c:Int):(a ++ bytesOf [c]).size = a.size + 1:=by
 rw [ByteArray.size_append,C18]
theorem N5.raw_ex (sd:DecS → Int → Bool) (sv:DecS → Int → Args [M7,.slice (.int .i64)]) (m:Nat) (s:DecS) (c:Int) (h:DecOk s)
  (hr:s.1.size ≠ 0 → sd dec0 c = true ∧ DecRes 1 (sv dec0 c)):∃ r,N5.raw sd sv m s c = some r ∧ DecRes (s.1.size + 1) r:=by
 have hl:=h.len
 have h':(T6.val s).1 = true:=h
 unfold N5.raw
 dsimp only
 rw [T6.d,h',w19]
 simp only [cond_true,Bool.not_true,cond_false]
 have e1:decide (ByteArray.size s.1 + (bytesOf [c]).size ≤ lim) = true:=decide_eq_true (by rw [C18]; unfold lim; omega)
 rw [e1,a04.d _ (by rw [app_size]; omega),R6.d]
 simp only [cond_true]
 cases hw:(a04.val (s.1 ++ bytesOf [c])).2.1 with
 | true=>exact ⟨_,rfl,dec0_ok,by show 1 + 0 ≤ _; omega⟩
 | false =>
  cases hb:(R6.val (s.1 ++ bytesOf [c])).1 with
  | true=>exact ⟨_,rfl,begins_ok hb,by show 0 + (s.1 ++ bytesOf [c]).size ≤ _; rw [app_size]; omega⟩
  | false =>
   by_cases h0:s.1.size = 0
   ·rw [h0]
    exact ⟨_,rfl,dec0_ok,Nat.le_refl _⟩
   ·have e0:(s.1.size == 0) = false:=beq_eq_false_iff_ne.2 h0
    obtain ⟨h1,h2,h3⟩:=hr h0
    have h1':sd (ByteArray.mk (nl UInt8).toArray,()) c = true:=h1
    have g:List.length (sv (ByteArray.mk (nl UInt8).toArray,()) c).2.1 ≤ 1:=by
     have:List.length (sv (ByteArray.mk (nl UInt8).toArray,()) c).2.1 + (sv dec0 c).1.1.size ≤ 1:=h3
     omega
    have e2:decide ((1 + List.length (sv (ByteArray.mk (nl UInt8).toArray,()) c).2.1) * 8 ≤ 140737488355328) = true:=decide_eq_true (by omega)
    have e3:decide (1 + List.length (sv (ByteArray.mk (nl UInt8).toArray,()) c).2.1 ≤ lim) = true:=decide_eq_true (by unfold lim; omega)
    rw [e0,h1',e2,e3]
    refine ⟨_,rfl,h2,?_⟩
    show List.length ([(65533:Int)] ++ (sv dec0 c).2.1) + (sv dec0 c).1.1.size ≤ _
    rw [List.length_append]
    have h3':List.length (sv dec0 c).2.1 + (sv dec0 c).1.1.size ≤ 1:=h3
    show 1 + _ + _ ≤ _
    omega
theorem N5.lv_ex (k:Nat) (s:DecS) (c:Int) (h:DecOk s):(N5.lv (k + 2)).1 s c = true ∧ DecRes (s.1.size + 1) ((N5.lv (k + 2)).2 s c):=by
 have h1:(N5.lv (k + 1)).1 dec0 c = true ∧ DecRes 1 ((N5.lv (k + 1)).2 dec0 c):=by
  obtain ⟨r,e,hr⟩:=N5.raw_ex (N5.lv k).1 (N5.lv k).2 fuel dec0 c dec0_ok (fun hf=>absurd rfl hf)
  exact ⟨C8 e,by show DecRes 1 ((N5.raw _ _ fuel dec0 c).getD _); rw [D5 e]; exact hr⟩
 obtain ⟨r,e,hr⟩:=N5.raw_ex (N5.lv (k + 1)).1 (N5.lv (k + 1)).2 fuel s c h (fun _=>h1)
 exact ⟨C8 e,by show DecRes _ ((N5.raw _ _ fuel s c).getD _); rw [D5 e]; exact hr⟩
theorem N5.d (s:DecS) (c:Int) (h:DecOk s):N5.dom s c = true:=(N5.lv_ex 62 s c h).1
theorem N5.ok (s:DecS) (c:Int) (h:DecOk s):DecOk (N5.val s c).1:=(N5.lv_ex 62 s c h).2.1
theorem N5.len (s:DecS) (c:Int) (h:DecOk s):List.length (N5.val s c).2.1 + (N5.val s c).1.1.size ≤ s.1.size + 1:=(N5.lv_ex 62 s c h).2.2
theorem a43.ev (m:Nat) (s:DecS) (h:DecOk s):a43.raw m s = some (bif s.1.size == 0 then [] else [65533],()):=by
 have h':(T6.val s).1 = true:=h
 unfold a43.raw
 dsimp only
 rw [w19,T6.d,h']
 cases s.1.size == 0 <;> rfl
theorem a43.d (s:DecS) (h:DecOk s):a43.dom s = true:=C8 (a43.ev fuel s h)
theorem a43.v (s:DecS) (h:DecOk s):a43.val s = (bif s.1.size == 0 then [] else [65533],()):=D5 (a43.ev fuel s h)
end Pt
end
section
open Go Go.Am
open IntKind (i64 u64 u8 i32 u32)
namespace Pt
def Ascii (l:List Int):Prop:=∀ x ∈ l,0 ≤ x ∧ x < 128
def digs:List UInt8:=(48:UInt8) :: (49:UInt8) :: (50:UInt8) :: (51:UInt8) :: (52:UInt8) :: (53:UInt8) :: (54:UInt8) :: (55:UInt8) :: (56:UInt8) :: (57:UInt8) :: (97:UInt8) :: (98:UInt8) :: (99:UInt8) :: (100:UInt8) :: (101:UInt8) :: (102:UInt8) :: (103:UInt8) :: (104:UInt8) :: (105:UInt8) :: (106:UInt8) :: (107:UInt8) :: [(108:UInt8),(109:UInt8),(110:UInt8),(111:UInt8),(112:UInt8),(113:UInt8),(114:UInt8),(115:UInt8),(116:UInt8),(117:UInt8),(118:UInt8),(119:UInt8),(120:UInt8),(121:UInt8),(122:UInt8)]
def dig (k:Nat):Int:=((digs.toArray.toList.getD k 0).toNat:Int)
theorem digs_ascii:(digs.all fun b=>decide (b.toNat < 128)) = true:=by decide
theorem dig_ascii (k:Nat):0 ≤ dig k ∧ dig k < 128:=by
 unfold dig
 refine ⟨by omega,?_⟩
 have h:(digs.getD k 0).toNat < 128:=by
  rw [List.getD_eq_getElem?_getD]
  cases hk:digs[k]? with
  | none=>decide
  | some x=>exact of_decide_eq_true (List.all_eq_true.1 digs_ascii x (List.mem_of_getElem? hk))
 have e:digs.toArray.toList = digs:=rfl
 rw [e]
 omega
theorem Ascii.set {l:List Int} (h:Ascii l) (i k:Nat):Ascii (List.set l i (dig k)):=by
 intro x hx
 rcases List.mem_or_eq_of_mem_set hx with hx | hx
 ·exact h x hx
 ·rw [hx]; exact dig_ascii k
theorem wu64 (x:Int):u64.wrap x = x % 18446744073709551616:=by
 simp [IntKind.wrap,IntKind.bits,IntKind.signed]
theorem code_l (K0:Int → Bool → Bool → ByteArray → Int → List Int → Option (Args [.str])) (v2 v3:Bool) (v4:ByteArray) :
  ∀ (k n m i:Nat) (v:List Int),n < 16 ^ (k + 1) → k < m → k < i → i ≤ 65 → v.length = 65 → Ascii v →
   ∃ (n' i':Nat) (v':List Int),E4.l0 K0 m n v2 v3 v4 i 4 16 15 v = K0 n' v2 v3 v4 i' v' ∧ n' < 16 ∧ 1 ≤ i' ∧ i' ≤ 65 ∧ v'.length = 65 ∧ Ascii v':=by
 intro k
 induction k with
 | zero =>
  intro n m i v hn hm hi hi2 hv ha
  obtain ⟨m,rfl⟩:∃ k,m = k + 1:=⟨m - 1,by omega⟩
  have e:decide ((n:Int) ≥ 16) = false:=decide_eq_false (by simp at hn; omega)
  exact ⟨n,i,v,by simp only [E4.l0,e,cond_false],by simpa using hn,by omega,hi2,hv,ha⟩
 | succ k ih =>
  intro n m i v hn hm hi hi2 hv ha
  obtain ⟨m,rfl⟩:∃ k,m = k + 1:=⟨m - 1,by omega⟩
  by_cases h:16 ≤ n
  ·have e:decide ((n:Int) ≥ 16) = true:=decide_eq_true (by omega)
   have hz:u64.wrap (((BitVec.ofInt 64 (n:Int) &&& BitVec.ofInt 64 (15:Int)).toNat:Nat):Int) < 36 ∧ 0 ≤ u64.wrap (((BitVec.ofInt 64 (n:Int) &&& BitVec.ofInt 64 (15:Int)).toNat:Nat):Int):=by
    have hb:(BitVec.ofInt 64 (n:Int) &&& BitVec.ofInt 64 (15:Int)).toNat ≤ 15:=by
     rw [BitVec.toNat_and]
     exact Nat.and_le_right
    rw [wu64]
    omega
   have e2:i64.wrap ((i:Int) - 1) = ((i - 1:Nat):Int):=by rw [wr (by omega) (by omega)]; omega
   have e3:(n:Int).fdiv ((2:Int) ^ Min.min (Int.toNat 4) 64) = ((n / 16:Nat):Int):=by
    have:(2:Int) ^ Min.min (Int.toNat 4) 64 = 16:=by decide
    rw [this,Int.fdiv_eq_ediv_of_nonneg _ (by omega)]; omega
   have e4:decide ((0:Int) ≤ ((i - 1:Nat):Int)) = true:=decide_eq_true (by omega)
   have e5:decide (((i - 1:Nat):Int) < 65) = true:=decide_eq_true (by omega)
   have e6:((i - 1:Nat):Int).toNat = i - 1:=Int.toNat_natCast _
   have e7:decide (i - 1 < v.length) = true:=decide_eq_true (by omega)
   have e8:decide ((0:Int) ≤ 4) = true:=rfl
   have hlt:n / 16 < 16 ^ (k + 1):=by
    rw [Nat.div_lt_iff_lt_mul (by omega)]
    rw [Nat.pow_succ] at hn
    exact hn
   generalize hZ:u64.wrap (((BitVec.ofInt 64 (n:Int) &&& BitVec.ofInt 64 (15:Int)).toNat:Nat):Int) = z at hz
   obtain ⟨n',i',v',he,h1,h2,h3,h4,h5⟩:=ih (n / 16) m (i - 1) (List.set v (i - 1) (dig z.toNat)) hlt (by omega) (by omega) (by omega) (by rw [List.length_set]; exact hv) (ha.set _ _)
   refine ⟨n',i',v',?_,h1,h2,h3,h4,h5⟩
   have e9:decide ((0:Int) ≤ z) = true:=decide_eq_true hz.2
   have e10:decide (z < 36) = true:=decide_eq_true hz.1
   refine Eq.trans ?_ he
   simp only [E4.l0,e,cond_true,hZ,e9,e10,e2,e4,e5,e6,e7,e8,Bool.and_self,e3]
   rfl
  ·have e:decide ((n:Int) ≥ 16) = false:=decide_eq_false (by omega)
   exact ⟨n,i,v,by simp only [E4.l0,e,cond_false],by omega,by omega,hi2,hv,ha⟩
theorem code_ex (K0:Int → Bool → Bool → ByteArray → Int → List Int → Option (Args [.str])) (v2 v3:Bool) (v4:ByteArray) (n m:Nat) (v:List Int) (Q:Args [.str] → Prop)
  (hn:n < 16 ^ (15 + 1)) (hm:15 < m) (hv:v.length = 65) (ha:Ascii v)
  (h:∀ (n' i':Nat) (v':List Int),n' < 16 → 1 ≤ i' → i' ≤ 65 → v'.length = 65 → Ascii v' → ∃ r,K0 n' v2 v3 v4 i' v' = some r ∧ Q r):∃ r,E4.l0 K0 m n v2 v3 v4 65 4 16 15 v = some r ∧ Q r:=by
 obtain ⟨n',i',v',he,h1,h2,h3,h4,h5⟩:=code_l K0 v2 v3 v4 15 n m 65 v hn hm (by omega) (by omega) hv ha
 obtain ⟨r,e,q⟩:=h n' i' v' h1 h2 h3 h4 h5
 exact ⟨r,Eq.trans he e,q⟩
theorem a67 {α:Type} {c:Bool} {u R:Option α} {Q:α → Prop} (hc:c = false) (h:∃ r,R = some r ∧ Q r):∃ r,(bif c then u else R) = some r ∧ Q r:=by subst hc; exact h
theorem a40 {α:Type} {c:Bool} {u R:Option α} {Q:α → Prop} (hc:c = true) (h:∃ r,u = some r ∧ Q r):∃ r,(bif c then u else R) = some r ∧ Q r:=by subst hc; exact h
theorem bytes_ascii {l:List Int} (h:Ascii l):((bytesOf l).data.toList.all fun b=>decide (b.toNat < 128)) = true:=by
 rw [List.all_eq_true]
 intro b hb
 simp only [bytesOf,List.mem_map] at hb
 obtain ⟨x,hx,rfl⟩:=hb
 have:=h x hx
 rw [decide_eq_true_eq]
 rw [UInt8.toNat_ofNat']
 omega
theorem upper_len (l:List UInt8):(Go.Lib.toUpperA l).length = l.length:=by simp [Go.Lib.toUpperA]
theorem code_tail (Z:List Int) (hz:Ascii Z) (hzl:Z.length ≤ 65):∃ r:Args [.str],
  (bif M5.dom (bytesOf Z) then
   (bif strings_Repeat.dom (ByteArray.mk #[(48:UInt8)]) (if i64.wrap ((4:Int) - ((ByteArray.size (M5.val (bytesOf Z)).1:Nat):Int)) > (0:Int) then i64.wrap ((4:Int) - ((ByteArray.size (M5.val (bytesOf Z)).1:Nat):Int)) else (0:Int)) then
    (bif decide (ByteArray.size (strings_Repeat.val (ByteArray.mk #[(48:UInt8)]) (if i64.wrap ((4:Int) - ((ByteArray.size (M5.val (bytesOf Z)).1:Nat):Int)) > (0:Int) then i64.wrap ((4:Int) - ((ByteArray.size (M5.val (bytesOf Z)).1:Nat):Int)) else (0:Int))).1 + ByteArray.size (M5.val (bytesOf Z)).1 ≤ lim) then
     (some ((strings_Repeat.val (ByteArray.mk #[(48:UInt8)]) (if i64.wrap ((4:Int) - ((ByteArray.size (M5.val (bytesOf Z)).1:Nat):Int)) > (0:Int) then i64.wrap ((4:Int) - ((ByteArray.size (M5.val (bytesOf Z)).1:Nat):Int)) else (0:Int))).1 ++ (M5.val (bytesOf Z)).1,())) else none) else none) else none) = some r ∧ r.1.size ≤ 100:=by
 have hsz:(bytesOf Z).size ≤ 65:=by
  show (List.map _ Z).toArray.size ≤ 65
  simpa using hzl
 have hU:(M5.val (bytesOf Z)).1.size ≤ 65:=by
  show (Go.Lib.toUpperA (bytesOf Z).data.toList).toArray.size ≤ 65
  rw [List.size_toArray,upper_len]
  exact hsz
 have hUd:M5.dom (bytesOf Z) = true:=by
  unfold M5.dom
  rw [bytes_ascii hz,decide_eq_true (by omega)]
  rfl
 obtain ⟨U,hUe⟩:∃ U:ByteArray,U = (M5.val (bytesOf Z)).1:=⟨_,rfl⟩
 rw [← hUe] at hU ⊢
 have hw:i64.wrap ((4:Int) - ((U.size:Nat):Int)) = (4:Int) - ((U.size:Nat):Int):=wr (by omega) (by omega)
 have hR:strings_Repeat.dom (ByteArray.mk #[(48:UInt8)]) (if i64.wrap ((4:Int) - ((U.size:Nat):Int)) > (0:Int) then i64.wrap ((4:Int) - ((U.size:Nat):Int)) else (0:Int)) = true:=by
  rw [hw]
  unfold strings_Repeat.dom
  have h1s:(ByteArray.mk #[(48:UInt8)]).size = 1:=rfl
  rw [h1s]
  simp only [Bool.and_eq_true,decide_eq_true_eq]
  split <;> omega
 have hRl:(strings_Repeat.val (ByteArray.mk #[(48:UInt8)]) (if i64.wrap ((4:Int) - ((U.size:Nat):Int)) > (0:Int) then i64.wrap ((4:Int) - ((U.size:Nat):Int)) else (0:Int))).1.size ≤ 4:=by
  rw [hw]
  show (Go.Lib.repeatL (ByteArray.mk #[(48:UInt8)]).data.toList _).toArray.size ≤ 4
  rw [List.size_toArray,Go.Lib.repeatL_length]
  have h1s:(ByteArray.mk #[(48:UInt8)]).data.toList.length = 1:=rfl
  rw [h1s]
  split <;> omega
 rw [hUd,hR]
 generalize (strings_Repeat.val (ByteArray.mk #[(48:UInt8)]) (if i64.wrap ((4:Int) - ((U.size:Nat):Int)) > (0:Int) then i64.wrap ((4:Int) - ((U.size:Nat):Int)) else (0:Int))).1 = R at *
 have e:decide (ByteArray.size R + ByteArray.size U ≤ lim) = true:=decide_eq_true (by unfold lim; omega)
 rw [e]
 exact ⟨_,rfl,by show (R ++ U).size ≤ 100; rw [ByteArray.size_append]; omega⟩
theorem E4.ex (x:Int) (h0:0 ≤ x):∃ r,E4.raw fuel x = some r ∧ r.1.size ≤ 100:=by
 have hf:15 < fuel:=a26 (by omega)
 generalize fuel = F at *
 unfold E4.raw
 refine a67 (decide_eq_false (by omega)) ?_
 have hx:decide (x < 0) = false:=decide_eq_false (by omega)
 obtain ⟨n,hn⟩:∃ n:Nat,u64.wrap x = n:=⟨(x % 18446744073709551616).toNat,by rw [wu64]; omega⟩
 have hb:n < 16 ^ (15 + 1):=by
  have hp:(16:Nat) ^ (15 + 1) = 18446744073709551616:=by decide
  rw [wu64] at hn
  rw [hp]
  omega
 rw [hx,hn]
 refine code_ex _ _ _ _ _ _ _ _ hb hf (by simp) (by intro y hy; rw [List.eq_of_mem_replicate hy]; omega) fun n' i' v' h1 h2 h3 h4 h5=>?_
 dsimp only
 have e2:i64.wrap ((i':Int) - 1) = ((i' - 1:Nat):Int):=by rw [wr (by omega) (by omega)]; omega
 have e6:((i' - 1:Nat):Int).toNat = i' - 1:=Int.toNat_natCast _
 have hd:∀ k,(((digs.toArray.toList.getD k 0).toNat:Nat):Int) = dig k:=fun _=>rfl
 have hs:Ascii (List.set v' (i' - 1) (dig (Int.toNat (n':Int)))):=h5.set (i' - 1) (Int.toNat (n':Int))
 have hl:(List.set v' (i' - 1) (dig (Int.toNat (n':Int)))).length = 65:=by rw [List.length_set]; exact h4
 rw [e2,e6]
 refine a40 (by rw [Bool.and_eq_true,decide_eq_true_eq,decide_eq_true_eq]; omega) ?_
 refine a40 (by rw [Bool.and_eq_true,decide_eq_true_eq,decide_eq_true_eq]; omega) ?_
 refine a40 (by rw [decide_eq_true_eq]; omega) ?_
 refine a67 rfl (a67 rfl ?_)
 obtain ⟨L,hL⟩:∃ L:List Int,L = List.set v' (i' - 1) (dig (Int.toNat (n':Int))):=⟨_,rfl⟩
 rw [← hL] at hs hl
 refine a40 (decide_eq_true (p:=L.length = 65) hl |> fun h=>by rw [hL] at h; exact h) ?_
 refine a40 ?_ ?_
 ·have:L.length = 65:=hl
  rw [hL] at this
  have e:decide ((0:Int) ≤ ((i' - 1:Nat):Int)) = true:=decide_eq_true (by omega)
  have e':decide (((i' - 1:Nat):Int) ≤ (((List.set v' (i' - 1) (dig (Int.toNat (n':Int)))).length:Nat):Int)) = true:=decide_eq_true (by omega)
  have e'':decide ((((List.set v' (i' - 1) (dig (Int.toNat (n':Int)))).length:Nat):Int) ≤ (((List.set v' (i' - 1) (dig (Int.toNat (n':Int)))).length:Nat):Int)) = true:=decide_eq_true (Int.le_refl _)
  exact Bool.and_eq_true_iff.2 ⟨Bool.and_eq_true_iff.2 ⟨e,e'⟩,e''⟩
 have hz:Ascii (List.drop (i' - 1) (List.take (((L.length:Nat):Int).toNat) L)):=fun y hy=>hs y (List.mem_of_mem_take (List.mem_of_mem_drop hy))
 have hzl:(List.drop (i' - 1) (List.take (((L.length:Nat):Int).toNat) L)).length ≤ 65:=by
  rw [List.length_drop,List.length_take]; omega
 rw [hL] at hz hzl
 exact code_tail _ hz hzl
end Pt
end
section
open Go Go.Am
namespace Pt
theorem B54 (c:UInt8):∀ s:List UInt8,c ∉ s → Go.Lib.index s [c] = -1
 | [],_=>rfl
 | b :: l,h=>by
  have hb:c ≠ b:=fun e=>h (e ▸ List.mem_cons_self)
  have hl:c ∉ l:=fun e=>h (List.mem_cons_of_mem _ e)
  have e:List.isPrefixOf [c] (b :: l) = false:=by
   show (c == b && List.isPrefixOf [] l) = false
   rw [beq_eq_false_iff_ne.2 hb]; rfl
  unfold Go.Lib.index
  rw [e,B54 c l hl]
  rfl
theorem index_at (c:UInt8) (r:List UInt8):∀ a:List UInt8,c ∉ a → Go.Lib.index (a ++ c :: r) [c] = (a.length:Int)
 | [],_=>by
  have e:List.isPrefixOf [c] (c :: r) = true:=by simp
  show Go.Lib.index (c :: r) [c] = 0
  unfold Go.Lib.index
  rw [e]
  rfl
 | b :: l,h=>by
  have hb:c ≠ b:=fun e=>h (e ▸ List.mem_cons_self)
  have hl:c ∉ l:=fun e=>h (List.mem_cons_of_mem _ e)
  have e:List.isPrefixOf [c] (b :: (l ++ c :: r)) = false:=by
   show (c == b && List.isPrefixOf [] (l ++ c :: r)) = false
   rw [beq_eq_false_iff_ne.2 hb]; rfl
  show Go.Lib.index (b :: (l ++ c :: r)) [c] = _
  unfold Go.Lib.index
  rw [e,index_at c r l hl]
  have:((l.length:Int) == -1) = false:=beq_eq_false_iff_ne.2 (by omega)
  simp only [this,Bool.false_eq_true,if_false,List.length_cons]
  omega
theorem part_at (c:UInt8):∀ s:List UInt8,c ∉ s ∨ ∃ a r,s = a ++ c :: r ∧ c ∉ a
 | []=>.inl (by simp)
 | b :: l=>by
  by_cases hb:c = b
  ·exact .inr ⟨[],l,by rw [hb]; rfl,by simp⟩
  ·rcases part_at c l with h | ⟨a,r,rfl,h⟩
   ·exact .inl (by simp [hb,h])
   ·exact .inr ⟨b :: a,r,rfl,by simp [hb,h]⟩
def spl (c:UInt8):List UInt8 → List (List UInt8)
 | []=>[[]]
 | b :: l=>bif b == c then [] :: spl c l else match spl c l with
  | x :: xs=>(b :: x) :: xs
  | []=>[[b]]
theorem spl_cons (c b:UInt8) (l:List UInt8):spl c (b :: l) = bif b == c then [] :: spl c l else match spl c l with
  | x :: xs=>(b :: x) :: xs
  | []=>[[b]]:=rfl
theorem spl_none (c:UInt8):∀ s:List UInt8,c ∉ s → spl c s = [s]
 | [],_=>rfl
 | b :: l,h=>by
  have hb:(b == c) = false:=beq_eq_false_iff_ne.2 fun e=>h (e ▸ List.mem_cons_self)
  have hl:c ∉ l:=fun e=>h (List.mem_cons_of_mem _ e)
  rw [spl_cons,hb,spl_none c l hl]
  rfl
theorem spl_at (c:UInt8) (r:List UInt8):∀ a:List UInt8,c ∉ a → spl c (a ++ c :: r) = a :: spl c r
 | [],_=>by
  show spl c (c :: r) = _
  rw [spl_cons]
  have:(c == c) = true:=beq_self_eq_true c
  rw [this]
  rfl
 | b :: l,h=>by
  have hb:(b == c) = false:=beq_eq_false_iff_ne.2 fun e=>h (e ▸ List.mem_cons_self)
  have hl:c ∉ l:=fun e=>h (List.mem_cons_of_mem _ e)
  show spl c (b :: (l ++ c :: r)) = _
  rw [spl_cons,hb,spl_at c r l hl]
  rfl
theorem split_spl (c:UInt8):∀ (n:Nat) (s:List UInt8),s.length ≤ n → Go.Lib.splitK [c] 0 (Go.Lib.count s [c]) s = spl c s:=by
 intro n
 induction n with
 | zero =>
  intro s hs
  have:s = []:=List.length_eq_zero_iff.1 (by omega)
  subst this
  rfl
 | succ n ih =>
  intro s hs
  rcases part_at c s with h | ⟨a,r,rfl,h⟩
  ·rw [Go.Lib.count_miss (B54 c s h),spl_none c s h]
   rfl
  ·have hi:=index_at c r a h
   have hd:(a ++ c :: r).drop (a.length + [c].length) = r:=by
    rw [List.drop_append]
    simp
   have hl:r.length ≤ n:=by
    simp only [List.length_append,List.length_cons] at hs
    omega
   rw [Go.Lib.count_hit (by simp) hi,hd,spl_at c r a h,Nat.add_comm 1]
   unfold Go.Lib.splitK
   have hne:((a.length:Int) == -1) = false:=beq_eq_false_iff_ne.2 (by omega)
   rw [hi]
   simp only [hne,Bool.false_eq_true,if_false,Int.toNat_natCast,Nat.add_zero]
   rw [hd,ih r hl]
   congr 1
   exact List.take_left' rfl
theorem cut_one (c:UInt8) (s:List UInt8):(Go.Lib.cut s [c]).1 = s.takeWhile (· != c):=by
 rcases part_at c s with h | ⟨a,r,rfl,h⟩
 ·unfold Go.Lib.cut
  rw [B54 c s h]
  have e:(s ++ []).takeWhile (· != c) = s ++ [].takeWhile (· != c):=by
   rw [List.takeWhile_append_of_pos]
   intro x hx
   simp only [bne_iff_ne,ne_eq]
   intro e
   exact h (e ▸ hx)
  rw [List.append_nil,List.takeWhile_nil,List.append_nil] at e
  rw [e]
  rfl
 ·unfold Go.Lib.cut
  rw [index_at c r a h]
  have e:(a ++ c :: r).takeWhile (· != c) = a:=by
   rw [List.takeWhile_append_of_pos]
   ·simp
   ·intro x hx
    simp only [bne_iff_ne,ne_eq]
    intro e
    exact h (e ▸ hx)
  rw [e,if_pos (by omega)]
  simp
theorem index_hit (sub:List UInt8):∀ (s:List UInt8) (i:Nat),Go.Lib.index s sub = i → ∃ a r,s = a ++ sub ++ r ∧ a.length = i
 | [],i,h=>by
  unfold Go.Lib.index at h
  split at h
  ·rename_i hs
   have:sub = []:=List.isEmpty_iff.1 hs
   subst this
   exact ⟨[],[],rfl,by simp at h ⊢; omega⟩
  ·omega
 | b :: l,i,h=>by
  unfold Go.Lib.index at h
  split at h
  ·rename_i hs
   obtain ⟨r,hr⟩:=List.isPrefixOf_iff_prefix.1 hs
   exact ⟨[],r,by rw [← hr]; rfl,by simp; omega⟩
  ·split at h
   ·omega
   ·rename_i hne
    have hne':Go.Lib.index l sub ≠ -1:=fun e=>hne (beq_iff_eq.2 e)
    have:=Go.Lib.index_ge l sub
    obtain ⟨a,r,e,ha⟩:=index_hit sub l (Go.Lib.index l sub).toNat (by omega)
    exact ⟨b :: a,r,by rw [e]; rfl,by simp [ha]; omega⟩
theorem cut_found (s sub:List UInt8) (h:(Go.Lib.cut s sub).2.2 = true):∃ a,s = a ++ sub ++ (Go.Lib.cut s sub).2.1:=by
 unfold Go.Lib.cut at h ⊢
 split at h
 ·rename_i hi
  rw [if_pos hi]
  obtain ⟨a,r,e,ha⟩:=index_hit sub s (Go.Lib.index s sub).toNat (by omega)
  refine ⟨a,?_⟩
  have hd:s.drop ((Go.Lib.index s sub).toNat + sub.length) = r:=by
   rw [← ha,e]
   rw [show a.length + sub.length = (a ++ sub).length by simp]
   exact List.drop_left' rfl
  show s = a ++ sub ++ s.drop _
  rw [hd]
  exact e
 ·cases h
end Pt
end
end
