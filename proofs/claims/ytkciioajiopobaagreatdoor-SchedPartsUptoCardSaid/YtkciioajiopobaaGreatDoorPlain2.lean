/- Plain laws of what the functions compute. Conditions: none beyond the statement's own. -/
import Derived.Test.YtkciioajiopobaaGreatDoorWalks1
import Derived.Test.YtkciioajiopobaaGreatDoorWalks3
import Derived.Test.YtkciioajiopobaaGreatDoorWalks5
import Derived.Test.YtkciioajiopobaaGreatDoorWalks6
import Derived.Test.YtkciioajiopobaaGreatDoorWalks7
import Derived.Test.YtkciioajiopobaaGreatDoorWalks8
import Derived.Test.YtkciioajiopobaaGreatDoorPlain1
set_option linter.all false
noncomputable section
section
open Go Go.Am
open IntKind (i64 u64 u8 i32 u32)
namespace Pt
def hexB (b:UInt8):Bool:=(decide (48 ≤ b.toNat) && decide (b.toNat ≤ 57)) || (decide (65 ≤ b.toNat) && decide (b.toNat ≤ 70))
def HexI (c:Int):Prop:=(48 ≤ c ∧ c ≤ 57) ∨ (65 ≤ c ∧ c ≤ 70)
theorem lower_hex (c:Int) (h:65 ≤ c ∧ c ≤ 70):u8.wrap (((BitVec.ofInt 8 c ||| BitVec.ofInt 8 (32:Int)).toNat:Nat):Int) = c + 32:=by
 have hc:c = 65 ∨ c = 66 ∨ c = 67 ∨ c = 68 ∨ c = 69 ∨ c = 70:=by omega
 rcases hc with rfl | rfl | rfl | rfl | rfl | rfl <;> rfl
theorem l1_step (K0:ByteArray → Bool → Int → List Int → Option (Args [.slice (.int .i64)])) (m:Nat) (v10:ByteArray) (v13:Bool) (n:Nat) (L:List Int) (i:Nat) (v18:List Int)
  (hi:i < L.length) (hb:L.length ≤ 1000) (hn:n < 16777216) (hc:HexI (L.getD i 0)) :
  ∃ d:Nat,d < 16 ∧ C3.l1 K0 (m + 1) 16 false v10 1152921504606846976 4294967295 v13 n L (L.length:Int) i v18 = C3.l1 K0 m 16 false v10 1152921504606846976 4294967295 v13 ((n * 16 + d:Nat):Int) L (L.length:Int) ((i + 1:Nat):Int) v18:=by
 obtain ⟨c,hcc⟩:∃ c,c = L.getD i 0:=⟨_,rfl⟩
 have hto:Int.toNat (i:Int) = i:=Int.toNat_natCast i
 rw [← hcc] at hc
 have e1:decide ((i:Int) < (L.length:Int)) = true:=decide_eq_true (by omega)
 have e2:decide ((0:Int) ≤ (i:Int)) = true:=decide_eq_true (by omega)
 have e3:(c == 95) = false:=beq_eq_false_iff_ne.2 (by unfold HexI at hc; omega)
 have e4:decide ((n:Int) ≥ 1152921504606846976) = false:=decide_eq_false (by omega)
 have w16:u64.wrap 16 = 16:=by rw [wu64]; rfl
 have w16':u8.wrap 16 = 16:=by rw [IntKind.wrap_u8]; rfl
 have e5:u64.wrap ((n:Int) * 16) = ((n * 16:Nat):Int):=by rw [wu64]; omega
 have e6:i64.wrap ((i:Int) + 1) = ((i + 1:Nat):Int):=by rw [wr (by omega) (by omega)]; omega
 rcases hc with hc | hc
 ·refine ⟨(c - 48).toNat,by omega,?_⟩
  have f0:decide ((48:Int) ≤ c) = true:=decide_eq_true hc.1
  have f1:decide (c ≤ 57) = true:=decide_eq_true hc.2
  have f2:u8.wrap (c - 48) = c - 48:=by rw [IntKind.wrap_u8]; omega
  have f3:decide (c - 48 ≥ 16) = false:=decide_eq_false (by omega)
  have f4:u64.wrap (c - 48) = c - 48:=by rw [wu64]; omega
  have f5:u64.wrap (((n * 16:Nat):Int) + (c - 48)) = ((n * 16 + (c - 48).toNat:Nat):Int):=by rw [wu64]; omega
  have f6:decide (((n * 16 + (c - 48).toNat:Nat):Int) < ((n * 16:Nat):Int)) = false:=decide_eq_false (by omega)
  have f7:decide (((n * 16 + (c - 48).toNat:Nat):Int) > 4294967295) = false:=decide_eq_false (by omega)
  simp only [C3.l1,hto,← hcc,e1,e2,e3,e4,e5,e6,w16,w16',f0,f1,f2,f3,f4,f5,f6,f7,cond_true,cond_false,Bool.and_self]
 ·refine ⟨(c - 55).toNat,by omega,?_⟩
  have f0:decide ((48:Int) ≤ c) = true:=decide_eq_true (by omega)
  have f1:decide (c ≤ 57) = false:=decide_eq_false (by omega)
  have f2:=lower_hex c hc
  have g0:decide ((97:Int) ≤ c + 32) = true:=decide_eq_true (by omega)
  have g1:decide (c + 32 ≤ 122) = true:=decide_eq_true (by omega)
  have g2:u8.wrap (c + 32 - 97) = c - 65:=by rw [IntKind.wrap_u8]; omega
  have g3:u8.wrap (c - 65 + 10) = c - 55:=by rw [IntKind.wrap_u8]; omega
  have f3:decide (c - 55 ≥ 16) = false:=decide_eq_false (by omega)
  have f4:u64.wrap (c - 55) = c - 55:=by rw [wu64]; omega
  have f5:u64.wrap (((n * 16:Nat):Int) + (c - 55)) = ((n * 16 + (c - 55).toNat:Nat):Int):=by rw [wu64]; omega
  have f6:decide (((n * 16 + (c - 55).toNat:Nat):Int) < ((n * 16:Nat):Int)) = false:=decide_eq_false (by omega)
  have f7:decide (((n * 16 + (c - 55).toNat:Nat):Int) > 4294967295) = false:=decide_eq_false (by omega)
  simp only [C3.l1,hto,← hcc,e1,e2,e3,e4,e5,e6,w16,w16',f0,f1,f2,f3,f4,f5,f6,f7,g0,g1,g2,g3,cond_true,cond_false,Bool.and_self]
theorem l1_all (K0:ByteArray → Bool → Int → List Int → Option (Args [.slice (.int .i64)])) (v10:ByteArray) (v13:Bool) (L:List Int) (v18:List Int) (hb:L.length ≤ 1000) (hL:∀ i,i < L.length → HexI (L.getD i 0)) :
  ∀ (k i m n j:Nat),i + k = L.length → k + j ≤ 6 → n < 16 ^ j → k < m → ∃ n',n' < 16777216 ∧ C3.l1 K0 m 16 false v10 1152921504606846976 4294967295 v13 n L (L.length:Int) i v18 = K0 v10 v13 n' v18:=by
 intro k
 induction k with
 | zero =>
  intro i m n j hi hj hn hm
  obtain ⟨m,rfl⟩:∃ k,m = k + 1:=⟨m - 1,by omega⟩
  have e1:decide ((i:Int) < (L.length:Int)) = false:=decide_eq_false (by omega)
  refine ⟨n,?_,by simp only [C3.l1,e1,cond_false]⟩
  have:16 ^ j ≤ 16 ^ 6:=Nat.pow_le_pow_right (by omega) (by omega)
  have h6:16 ^ 6 = 16777216:=by decide
  omega
 | succ k ih =>
  intro i m n j hi hj hn hm
  obtain ⟨m,rfl⟩:∃ k,m = k + 1:=⟨m - 1,by omega⟩
  have hn2:n < 16777216:=by
   have:16 ^ j ≤ 16 ^ 6:=Nat.pow_le_pow_right (by omega) (by omega)
   have h6:16 ^ 6 = 16777216:=by decide
   omega
  obtain ⟨d,hd,e⟩:=l1_step K0 m v10 v13 n L i v18 (by omega) hb hn2 (hL i (by omega))
  have hp:n * 16 + d < 16 ^ (j + 1):=by rw [Nat.pow_succ]; omega
  obtain ⟨n',h1,h2⟩:=ih (i + 1) m (n * 16 + d) (j + 1) (by omega) (by omega) hp (by omega)
  exact ⟨n',h1,e.trans h2⟩
def PartOk (p:ByteArray):Prop:=1 ≤ p.size ∧ p.size ≤ 6 ∧ (p.data.toList.all hexB) = true
theorem B36 (p:ByteArray):(ofBytes p).length = p.size:=by
 unfold ofBytes
 rw [List.length_map]
 rfl
theorem C46 (p:ByteArray) (i:Nat) (hl:i < p.data.toList.length):(ofBytes p).getD i 0 = (((p.data.toList.getD i 0).toNat:Nat):Int):=by
 unfold ofBytes
 rw [List.getD_eq_getElem?_getD,List.getElem?_map,List.getElem?_eq_getElem hl,w04 hl]
 rfl
theorem PartOk.hex {p:ByteArray} (h:PartOk p) (i:Nat) (hi:i < (ofBytes p).length):HexI ((ofBytes p).getD i 0):=by
 have hl:i < p.data.toList.length:=by unfold ofBytes at hi; rwa [List.length_map] at hi
 have hx:=List.all_eq_true.1 h.2.2 _ (List.getElem_mem hl)
 rw [C46 p i hl,w04 hl]
 unfold hexB at hx
 simp only [Bool.or_eq_true,Bool.and_eq_true,decide_eq_true_eq] at hx
 unfold HexI
 omega
theorem l0_all (K0:List Int → Option (Args [.slice (.int .i64)])) (ps:List ByteArray) (hb:ps.length ≤ 1000) (hp:∀ i,i < ps.length → PartOk (ps.getD i Ty.str.dflt)) :
  ∀ (k i m:Nat) (v:List Int),i + k = ps.length → v.length = ps.length → k + 7 < m → ∃ v':List Int,v'.length = ps.length ∧ C3.l0 K0 m ps (ps.length:Int) i v = K0 v':=by
 intro k
 induction k with
 | zero =>
  intro i m v hi hv hm
  obtain ⟨m,rfl⟩:∃ k,m = k + 1:=⟨m - 1,by omega⟩
  have e1:decide ((i:Int) < (ps.length:Int)) = false:=decide_eq_false (by omega)
  exact ⟨v,hv,by simp only [C3.l0,e1,cond_false]⟩
 | succ k ih =>
  intro i m v hi hv hm
  obtain ⟨m,rfl⟩:∃ k,m = k + 1:=⟨m - 1,by omega⟩
  have e1:decide ((i:Int) < (ps.length:Int)) = true:=decide_eq_true (by omega)
  have e2:decide ((0:Int) ≤ (i:Int)) = true:=decide_eq_true (by omega)
  have hto:Int.toNat (i:Int) = i:=Int.toNat_natCast i
  obtain ⟨p,hpp⟩:∃ p,p = ps.getD i Ty.str.dflt:=⟨_,rfl⟩
  have ho:=hp i (by omega)
  rw [← hpp] at ho
  have e3:(ByteArray.toList p == (ByteArray.mk (nl UInt8).toArray).toList) = false:=by
   rw [w19]
   exact beq_eq_false_iff_ne.2 (by have:=ho.1; omega)
  have e4:decide ((0:Int) < ((ByteArray.size p:Nat):Int)) = true:=decide_eq_true (by have:=ho.1; omega)
  have hl0:0 < p.data.toList.length:=by have:=ho.1; exact this
  have hx:HexI (((p.data.toList.getD 0 0).toNat:Nat):Int):=by
   have h0:=ho.hex 0 (by rw [B36]; exact ho.1)
   rwa [C46 p 0 hl0] at h0
  have e5:((((p.data.toList.getD 0 0).toNat:Nat):Int) == 43) = false:=beq_eq_false_iff_ne.2 (by unfold HexI at hx; omega)
  have e6:((((p.data.toList.getD 0 0).toNat:Nat):Int) == 45) = false:=beq_eq_false_iff_ne.2 (by unfold HexI at hx; omega)
  have e7:i64.wrap ((i:Int) + 1) = ((i + 1:Nat):Int):=by rw [wr (by omega) (by omega)]; omega
  have e8:decide ((i:Int) < (v.length:Int)) = true:=decide_eq_true (by omega)
  have e9:decide (i < v.length) = true:=decide_eq_true (by omega)
  have hlen:(ofBytes p).length ≤ 6:=by rw [B36]; exact ho.2.1
  have step:∃ w:List Int,w.length = ps.length ∧ C3.l0 K0 (m + 1) ps (ps.length:Int) i v = C3.l0 K0 m ps (ps.length:Int) ((i + 1:Nat):Int) w:=by
   simp only [C3.l0,hto,← hpp,e1,e2,e3,e4,e5,e6,cond_true,cond_false,Bool.and_self]
   obtain ⟨n',h1,h2⟩:=l1_all (fun o41 o42 o43 o44=>bif o42 then none else (bif decide (o43 ≥ (2147483648:Int)) then none else (bif decide ((0:Int) ≤ (i:Int)) && decide ((i:Int) < (↑(List.length o44):Int)) then (bif decide (i < List.length o44) then (C3.l0 K0 m ps (ps.length:Int) (i64.wrap ((i:Int) + (1:Int))) (List.set o44 i (i64.wrap o43))) else none) else none))) p false (ofBytes p) v (by omega) ho.hex (ofBytes p).length 0 m 0 0 (by omega) (by omega) (by decide) (by omega)
   have f1:decide ((n':Int) ≥ 2147483648) = false:=decide_eq_false (by omega)
   refine ⟨List.set v i (i64.wrap n'),by rw [List.length_set]; exact hv,?_⟩
   refine Eq.trans ?_ (h2.trans ?_)
   ·simp only [e2,Bool.true_and]; rfl
   ·simp only [f1,e2,e8,e9,e7,cond_true,cond_false,Bool.and_self]
  obtain ⟨w,hw,e⟩:=step
  obtain ⟨v',h1,h2⟩:=ih (i + 1) m w (by omega) hw (by omega)
  exact ⟨v',h1,e.trans h2⟩
def partB (p:List UInt8):Bool:=decide (1 ≤ p.length) && decide (p.length ≤ 6) && p.all hexB
def rowOk (l:List UInt8):Bool:=decide ((spl 44 l).length ≤ 4) && (spl 44 l).all partB
def chkT:List UInt8 → Bool
 | []=>true
 | b :: r=>(b != 61 || rowOk (r.takeWhile (· != 32))) && chkT r
theorem tab_ok:chkT tabB.data.toList = true:=by kernel_rfl
theorem tab_size:tabB.size ≤ 100000:=by
 have:decide (tabB.size ≤ 100000) = true:=by kernel_rfl
 exact of_decide_eq_true this
theorem chk_at (b:UInt8) (r:List UInt8):∀ a:List UInt8,chkT (a ++ b :: r) = true → b = 61 → rowOk (r.takeWhile (· != 32)) = true
 | [],h,hb=>by
  have h':((b != 61 || rowOk (r.takeWhile (· != 32))) && chkT r) = true:=h
  rw [Bool.and_eq_true] at h'
  subst hb
  exact h'.1
 | x :: a,h,hb=>by
  have h':((x != 61 || rowOk ((a ++ b :: r).takeWhile (· != 32))) && chkT (a ++ b :: r)) = true:=h
  rw [Bool.and_eq_true] at h'
  exact chk_at b r a h'.2 hb
theorem C3.ex (x:ByteArray) (hs:x.size ≤ 100000) (h:rowOk x.data.toList = true):∃ v:List Int,C3.raw fuel x = some (v,()) ∧ v.length ≤ 4:=by
 unfold rowOk at h
 rw [Bool.and_eq_true,decide_eq_true_eq] at h
 have hd:strings_Split.dom x (ByteArray.mk #[(44:UInt8)]) = true:=by
  unfold strings_Split.dom
  rw [Bool.and_eq_true,decide_eq_true_eq,decide_eq_true_eq]
  exact ⟨by omega,Nat.le_refl 1⟩
 have hm:(strings_Split.val x (ByteArray.mk #[(44:UInt8)])).1.map (·.data.toList) = spl 44 x.data.toList:=by
  show (Go.Lib.splitB _ 0 (Go.Lib.countB x (ByteArray.mk #[(44:UInt8)])) x).map (·.data.toList) = _
  rw [Go.Lib.splitB_data]
  exact split_spl 44 x.data.toList.length x.data.toList (Nat.le_refl _)
 obtain ⟨ps,hps⟩:∃ ps:List ByteArray,ps = (strings_Split.val x (ByteArray.mk #[(44:UInt8)])).1:=⟨_,rfl⟩
 rw [← hps] at hm
 have hl:ps.length ≤ 4:=by
  have:=congrArg List.length hm
  rw [List.length_map] at this
  omega
 have hp:∀ i,i < ps.length → PartOk (ps.getD i Ty.str.dflt):=by
  intro i hi
  rw [w04 hi]
  have:ps[i].data.toList ∈ spl 44 x.data.toList:=by
   rw [← hm]
   exact List.mem_map.2 ⟨ps[i],List.getElem_mem hi,rfl⟩
  have hb:=List.all_eq_true.1 h.2 _ this
  unfold partB at hb
  simp only [Bool.and_eq_true,decide_eq_true_eq] at hb
  exact ⟨hb.1.1,hb.1.2,hb.2⟩
 unfold C3.raw
 dsimp only
 rw [hd,← hps]
 have hz:(decide ((0:Int) ≤ (ps.length:Int)) && decide ((ps.length:Int) ≤ (ps.length:Int)) && decide ((ps.length:Int) * (8:Int) ≤ (140737488355328:Int)) && decide ((ps.length:Int) ≤ (1099511627776:Int))) = true:=by
  simp only [Bool.and_eq_true,decide_eq_true_eq]
  omega
 obtain ⟨v',h1,h2⟩:=l0_all (fun o45=>some (o45,())) ps (by omega) hp ps.length 0 fuel (List.replicate ((ps.length:Int)).toNat 0) (by omega) (by rw [List.length_replicate]; omega) (by have:=a26 (n:=100) (by omega); omega)
 refine ⟨v',?_,by omega⟩
 have e:∀ {α:Type} {c d:Bool} {u n:α},c = true → d = true → (bif c then (bif d then u else n) else n) = u:=by intro α c d u n h1 h2; subst h1 h2; rfl
 exact (e rfl hz).trans h2
theorem cut_ofs (c:ByteArray) (h:(Go.Lib.cut tabB.data.toList (ByteArray.mk #[(32:UInt8)] ++ c ++ ByteArray.mk #[(61:UInt8)]).data.toList).2.2 = true) :
  ∃ r:Args [.slice (.int .i64)],(bif strings_Cut.dom (ByteArray.mk (Go.Lib.cut tabB.data.toList (ByteArray.mk #[(32:UInt8)] ++ c ++ ByteArray.mk #[(61:UInt8)]).data.toList).2.1.toArray) (ByteArray.mk #[(32:UInt8)]) then
   (bif C3.dom (strings_Cut.val (ByteArray.mk (Go.Lib.cut tabB.data.toList (ByteArray.mk #[(32:UInt8)] ++ c ++ ByteArray.mk #[(61:UInt8)]).data.toList).2.1.toArray) (ByteArray.mk #[(32:UInt8)])).1 then
    some (C3.val (strings_Cut.val (ByteArray.mk (Go.Lib.cut tabB.data.toList (ByteArray.mk #[(32:UInt8)] ++ c ++ ByteArray.mk #[(61:UInt8)]).data.toList).2.1.toArray) (ByteArray.mk #[(32:UInt8)])).1) else none) else none) = some r ∧ List.length r.1 ≤ 4:=by
 obtain ⟨a,ha⟩:=cut_found _ _ h
 generalize hr:(Go.Lib.cut tabB.data.toList (ByteArray.mk #[(32:UInt8)] ++ c ++ ByteArray.mk #[(61:UInt8)]).data.toList).2.1 = r at *
 have hrl:r.length ≤ 100000:=by
  have h1:=congrArg List.length ha
  rw [List.length_append,List.length_append] at h1
  have h2:tabB.data.toList.length ≤ 100000:=tab_size
  omega
 have hsep:(ByteArray.mk #[(32:UInt8)] ++ c ++ ByteArray.mk #[(61:UInt8)]).data.toList = (32 :: c.data.toList) ++ [61]:=by
  simp
 rw [hsep] at ha
 have hrow:rowOk (r.takeWhile (· != 32)) = true:=by
  have hk:=tab_ok
  rw [ha] at hk
  refine chk_at 61 r (a ++ (32 :: c.data.toList)) ?_ rfl
  simpa using hk
 have hd:strings_Cut.dom (ByteArray.mk r.toArray) (ByteArray.mk #[(32:UInt8)]) = true:=by
  unfold strings_Cut.dom
  rw [decide_eq_true_eq]
  show r.toArray.size < _
  rw [List.size_toArray]
  omega
 have hv:(strings_Cut.val (ByteArray.mk r.toArray) (ByteArray.mk #[(32:UInt8)])).1.data.toList = r.takeWhile (· != 32):=by
  show (Go.Lib.cut r [32]).1 = _
  exact cut_one 32 r
 have hsz:(strings_Cut.val (ByteArray.mk r.toArray) (ByteArray.mk #[(32:UInt8)])).1.size ≤ 100000:=by
  show (Go.Lib.cut r [32]).1.toArray.size ≤ _
  rw [List.size_toArray,cut_one]
  have:=List.takeWhile_sublist (l:=r) (fun x=>x != (32:UInt8)) |>.length_le
  omega
 obtain ⟨v,e,hl⟩:=C3.ex _ hsz (by rw [hv]; exact hrow)
 rw [hd,show C3.dom _ = true from C8 e,show C3.val _ = (v,()) from D5 e]
 exact ⟨_,rfl,hl⟩
theorem full_tail (x:Int) (h0:0 ≤ x):∃ r:Args [.slice (.int .i64)],
  (bif E4.dom x then (bif decide ((1:Nat) + ByteArray.size (E4.val x).1 ≤ lim) then (bif decide ((ByteArray.mk #[(32:UInt8)] ++ (E4.val x).1).size + (1:Nat) ≤ lim) then
   (bif !(Go.Lib.cut tabB.data.toList (ByteArray.mk #[(32:UInt8)] ++ (E4.val x).1 ++ ByteArray.mk #[(61:UInt8)]).data.toList).2.2 then (some (([x],()):Args [.slice (.int .i64)])) else
   (bif strings_Cut.dom (ByteArray.mk (Go.Lib.cut tabB.data.toList (ByteArray.mk #[(32:UInt8)] ++ (E4.val x).1 ++ ByteArray.mk #[(61:UInt8)]).data.toList).2.1.toArray) (ByteArray.mk #[(32:UInt8)]) then
   (bif C3.dom (strings_Cut.val (ByteArray.mk (Go.Lib.cut tabB.data.toList (ByteArray.mk #[(32:UInt8)] ++ (E4.val x).1 ++ ByteArray.mk #[(61:UInt8)]).data.toList).2.1.toArray) (ByteArray.mk #[(32:UInt8)])).1 then
    some (C3.val (strings_Cut.val (ByteArray.mk (Go.Lib.cut tabB.data.toList (ByteArray.mk #[(32:UInt8)] ++ (E4.val x).1 ++ ByteArray.mk #[(61:UInt8)]).data.toList).2.1.toArray) (ByteArray.mk #[(32:UInt8)])).1) else none) else none)) else none) else none) else none) = some r ∧ List.length r.1 ≤ 4:=by
 obtain ⟨r,e,hl⟩:=E4.ex x h0
 rw [show E4.dom x = true from C8 e,show E4.val x = r from D5 e]
 refine a40 rfl ?_
 refine a40 (decide_eq_true (by unfold lim; omega)) ?_
 refine a40 (decide_eq_true (by rw [ByteArray.size_append]; have:(ByteArray.mk #[(32:UInt8)]).size = 1:=rfl; unfold lim; omega)) ?_
 cases h:(Go.Lib.cut tabB.data.toList (ByteArray.mk #[(32:UInt8)] ++ r.1 ++ ByteArray.mk #[(61:UInt8)]).data.toList).2.2 with
 | false=>exact ⟨_,rfl,by show 1 ≤ 4; omega⟩
 | true=>exact cut_ofs r.1 h
theorem syl_ex (x:Int):∃ r,V8.raw fuel x = some r ∧ List.length r.1 ≤ 3:=by
 unfold V8.raw
 dsimp only
 cases decide (Int.tmod x 28 > 0)
 ·exact ⟨_,rfl,by show 2 ≤ 3; omega⟩
 ·exact ⟨_,rfl,by show 3 ≤ 3; omega⟩
theorem R0.ex (x:Int):∃ r,R0.raw fuel x = some r ∧ List.length r.1 ≤ 4:=by
 obtain ⟨q,eq,hq⟩:=syl_ex (i64.wrap (x - 44032))
 unfold R0.raw
 by_cases h0:x < 0
 ·exact a40 (decide_eq_true h0) ⟨_,rfl,by show 1 ≤ 4; omega⟩
 ·refine a67 (decide_eq_false h0) ?_
  have ht:=full_tail x (by omega)
  by_cases h1:x ≥ 44032
  ·refine a40 (decide_eq_true h1) ?_
   by_cases h2:x ≤ 55203
   ·refine a40 (decide_eq_true h2) ?_
    dsimp only
    rw [show V8.dom _ = true from C8 eq,show V8.val _ = q from D5 eq]
    exact ⟨q,rfl,by omega⟩
   ·refine a67 (decide_eq_false h2) ?_
    by_cases h3:x ≥ 65281
    ·refine a40 (decide_eq_true h3) ?_
     by_cases h4:x ≤ 65374
     ·exact a40 (decide_eq_true h4) ⟨_,rfl,by show 1 ≤ 4; omega⟩
     ·exact a67 (decide_eq_false h4) ht
    ·exact a67 (decide_eq_false h3) ht
  ·refine a67 (decide_eq_false h1) ?_
   by_cases h3:x ≥ 65281
   ·refine a40 (decide_eq_true h3) ?_
    by_cases h4:x ≤ 65374
    ·exact a40 (decide_eq_true h4) ⟨_,rfl,by show 1 ≤ 4; omega⟩
    ·exact a67 (decide_eq_false h4) ht
   ·exact a67 (decide_eq_false h3) ht
theorem R0.d (x:Int):R0.dom x = true:=by obtain ⟨r,e,_⟩:=R0.ex x; exact C8 e
theorem R0.len (x:Int):List.length (R0.val x).1 ≤ 4:=by
 obtain ⟨r,e,h⟩:=R0.ex x
 rw [show R0.val x = r from D5 e]
 exact h
end Pt
end
section
open Go Go.Am
namespace Pt
def NormI (L:List Int):Prop:=∃ h t:List Int,L = h ++ t ∧ (h = [] ∨ ∃ x,h = [x] ∧ markB x = false) ∧ (∀ y ∈ t,markB y = true) ∧ t.Pairwise (fun a b=>cccI a ≤ cccI b) ∧ t.length ≤ 30
theorem NormI.ok {L:List Int} (hL:NormI L):NormOk L:=by
 obtain ⟨h,t,rfl,hh,ht,hp,hl⟩:=hL
 have hf:t.filter markB = t:=List.filter_eq_self.mpr ht
 have inord:∀ l:List Int,List.Sublist l t → InOrder l:=by
  intro l hs i j hij hj
  have hp':=hp.sublist hs
  have:=List.pairwise_iff_getElem.1 hp' i j (by omega) hj hij
  rw [w04 hj,w04 (by omega)]
  exact this
 rcases hh with rfl | ⟨x,rfl,hx⟩
 ·refine ⟨?_,?_,fun i=>inord _ (((List.takeWhile_sublist _).trans (List.drop_sublist _ _)))⟩
  ·rw [List.all_eq_true]
   exact fun y hy=>ht y (List.mem_of_mem_tail hy)
  ·rw [List.nil_append,hf]; exact hl
 ·refine ⟨?_,?_,fun i=>?_⟩
  ·rw [List.all_eq_true]
   exact fun y hy=>ht y hy
  ·rw [List.cons_append,List.nil_append,List.filter_cons,hx,hf]; exact hl
  ·cases i with
   | zero =>
    rw [List.drop_zero]
    show InOrder (List.takeWhile markB (x :: t))
    rw [List.takeWhile_cons,hx]
    intro i j hij hj
    simp at hj
   | succ i =>
    refine inord _ ((List.takeWhile_sublist _).trans ?_)
    show List.Sublist (List.drop i t) t
    exact List.drop_sublist _ _
def marksN (L:List Int):Nat:=(L.filter markB).length
theorem NormI.nil:NormI []:=⟨[],[],rfl,.inl rfl,by simp,List.Pairwise.nil,by simp⟩
theorem NormI.one (d:Int):NormI [d]:=by
 cases hd:markB d with
 | true=>exact ⟨[],[d],rfl,.inl rfl,by simpa using hd,List.pairwise_singleton _ _,by simp⟩
 | false=>exact ⟨[d],[],rfl,.inr ⟨d,rfl,hd⟩,by simp,List.Pairwise.nil,by simp⟩
def posK (L:List Int) (d:Int):Nat → Nat
 | 0=>0
 | k + 1=>bif decide (cccI (L.getD k 0) > cccI d) then posK L d k else k + 1
theorem posK_le (L:List Int) (d:Int):∀ k,posK L d k ≤ k
 | 0=>Nat.le_refl _
 | k + 1=>by
  unfold posK
  cases decide (cccI (L.getD k 0) > cccI d)
  ·exact Nat.le_refl _
  ·exact Nat.le_succ_of_le (posK_le L d k)
theorem posK_gt (L:List Int) (d:Int):∀ k j,posK L d k ≤ j → j < k → cccI d < cccI (L.getD j 0)
 | 0,j,_,h=>by omega
 | k + 1,j,h1,h2=>by
  unfold posK at h1
  cases hc:decide (cccI (L.getD k 0) > cccI d) with
  | false=>rw [hc] at h1; simp only [cond_false] at h1; omega
  | true =>
   rw [hc] at h1
   by_cases hj:j = k
   ·subst hj; exact of_decide_eq_true hc
   ·exact posK_gt L d k j h1 (by omega)
theorem posK_at (L:List Int) (d:Int):∀ k,posK L d k = 0 ∨ cccI (L.getD (posK L d k - 1) 0) ≤ cccI d
 | 0=>.inl rfl
 | k + 1=>by
  unfold posK
  cases hc:decide (cccI (L.getD k 0) > cccI d) with
  | false =>
   have:¬ (cccI (L.getD k 0) > cccI d):=of_decide_eq_false hc
   right
   simp only [cond_false,Nat.add_sub_cancel]
   omega
  | true=>exact posK_at L d k
def insN (L:List Int) (d:Int):List Int:=List.take (posK L d L.length) L ++ [d] ++ List.drop (posK L d L.length) L
theorem B56 (L:List Int) (d:Int) (hd:markB d = true):marksN (insN L d) = marksN L + 1:=by
 unfold marksN insN
 rw [List.filter_append,List.filter_append,List.length_append,List.length_append]
 have e:(List.filter markB (List.take (posK L d L.length) L)).length + (List.filter markB (List.drop (posK L d L.length) L)).length = (List.filter markB L).length:=by
  rw [← List.length_append,← List.filter_append,List.take_append_drop]
 have e1:(List.filter markB [d]).length = 1:=by rw [List.filter_cons,hd]; rfl
 omega
theorem insN_len (L:List Int) (d:Int):(insN L d).length = L.length + 1:=by
 unfold insN
 have:=posK_le L d L.length
 simp only [List.length_append,List.length_take,List.length_drop,List.length_cons,List.length_nil]
 omega
theorem NormI.ins {L:List Int} (hL:NormI L) (d:Int) (hd:markB d = true) (hm:marksN L < 30):NormI (insN L d):=by
 obtain ⟨h,t,rfl,hh,ht,hp,hl⟩:=hL
 have hf:t.filter markB = t:=List.filter_eq_self.mpr ht
 have hdc:cccI d > 0:=by rw [markB_ccc] at hd; exact of_decide_eq_true hd
 obtain ⟨p,hpp⟩:∃ p,p = posK (h ++ t) d (h ++ t).length:=⟨_,rfl⟩
 have h1:=posK_le (h ++ t) d (h ++ t).length
 have h2:=posK_gt (h ++ t) d (h ++ t).length
 have h3:=posK_at (h ++ t) d (h ++ t).length
 rw [← hpp] at h1 h2 h3
 have hge:h.length ≤ p:=by
  rcases hh with rfl | ⟨x,rfl,hx⟩
  ·simp
  ·by_cases hp0:p = 0
   ·have:=h2 0 (by omega) (by simp)
    rw [markB_ccc] at hx
    have hx':=of_decide_eq_false hx
    have e:([x] ++ t).getD 0 0 = x:=rfl
    rw [e] at this
    omega
   ·simp; omega
 have hmt:t.length < 30:=by
  have:marksN (h ++ t) = t.length:=by
   unfold marksN
   rw [List.filter_append,hf]
   rcases hh with rfl | ⟨x,rfl,hx⟩
   ·simp
   ·simp [List.filter_cons,hx]
  omega
 rw [List.length_append] at h1
 refine ⟨h,List.take (p - h.length) t ++ [d] ++ List.drop (p - h.length) t,?_,hh,?_,?_,?_⟩
 ·unfold insN
  rw [← hpp,List.take_append,List.drop_append,List.take_of_length_le hge,List.drop_eq_nil_of_le hge]
  simp
 ·intro y hy
  simp only [List.mem_append,List.mem_singleton] at hy
  rcases hy with (hy | hy) | hy
  ·exact ht y (List.mem_of_mem_take hy)
  ·rw [hy]; exact hd
  ·exact ht y (List.mem_of_mem_drop hy)
 ·have getr:∀ j,h.length ≤ j → (h ++ t).getD j 0 = t.getD (j - h.length) 0:=by
   intro j hj
   rw [List.getD_eq_getElem?_getD,List.getElem?_append_right hj,← List.getD_eq_getElem?_getD]
  have lo:∀ a ∈ List.take (p - h.length) t,cccI a ≤ cccI d:=by
   intro a ha
   obtain ⟨i,hi,rfl⟩:=List.getElem_of_mem ha
   rw [List.length_take] at hi
   rw [List.getElem_take]
   rcases h3 with h3 | h3
   ·omega
   ·have e:=getr (p - 1) (by omega)
    rw [e,w04 (by omega)] at h3
    by_cases hi2:i = p - 1 - h.length
    ·subst hi2; exact h3
    ·have:=List.pairwise_iff_getElem.1 hp i (p - 1 - h.length) (by omega) (by omega) (by omega)
     omega
  have hi:∀ b ∈ List.drop (p - h.length) t,cccI d ≤ cccI b:=by
   intro b hb
   obtain ⟨i,hi,rfl⟩:=List.getElem_of_mem hb
   rw [List.length_drop] at hi
   rw [List.getElem_drop]
   have:=h2 (h.length + (p - h.length + i)) (by omega) (by rw [List.length_append]; omega)
   rw [getr _ (by omega),w04 (by omega)] at this
   have e:h.length + (p - h.length + i) - h.length = p - h.length + i:=by omega
   simp only [e] at this
   omega
  rw [List.append_assoc]
  refine List.pairwise_append.2 ⟨hp.sublist (List.take_sublist _ _),List.pairwise_append.2 ⟨List.pairwise_singleton _ _,hp.sublist (List.drop_sublist _ _),?_⟩,?_⟩
  ·intro a ha b hb
   rw [List.mem_singleton] at ha
   rw [ha]
   exact hi b hb
  ·intro a ha b hb
   have h4:=lo a ha
   rcases List.mem_append.1 hb with hb | hb
   ·rw [List.mem_singleton] at hb
    rw [hb]; exact h4
   ·have:=hi b hb
    omega
 ·simp only [List.length_append,List.length_take,List.length_drop,List.length_cons,List.length_nil]
  omega
end Pt
end
section
open Go Go.Am
open IntKind (i64 u64 u8 i32 u32)
namespace Pt
abbrev NR:=Option (Args [E7,.slice (.int .i64)])
abbrev NK:=List Int → List Int → List Int → NR
theorem norm_l3 (K0:Int → Int → List Int → List Int → List Int → NR) (d:Int) (a L b:List Int) (hL:L.length ≤ 1000) :
  ∀ (k m:Nat),k ≤ L.length → k < m → C0.l3 K0 m d k a L b = K0 d (posK L d k:Nat) a L b:=by
 intro k
 induction k with
 | zero =>
  intro m h1 h2
  obtain ⟨m,rfl⟩:∃ k,m = k + 1:=⟨m - 1,by omega⟩
  have e:decide (((0:Nat):Int) > 0) = false:=rfl
  simp only [C0.l3,e,cond_false,posK]
 | succ k ih =>
  intro m h1 h2
  obtain ⟨m,rfl⟩:∃ k,m = k + 1:=⟨m - 1,by omega⟩
  have e:decide (((k + 1:Nat):Int) > 0) = true:=decide_eq_true (by omega)
  have e2:i64.wrap (((k + 1:Nat):Int) - 1) = (k:Int):=by rw [wr (by omega) (by omega)]; omega
  have e3:decide ((0:Int) ≤ (k:Int)) = true:=decide_eq_true (by omega)
  have e4:decide ((k:Int) < (L.length:Int)) = true:=decide_eq_true (by omega)
  have e5:((k:Nat):Int).toNat = k:=Int.toNat_natCast k
  simp only [C0.l3,e,e2,e3,e4,e5,O0.d,cond_true,Bool.and_self]
  rw [show (O0.val (L.getD k 0)).1 = cccI (L.getD k 0) from rfl,show (O0.val d).1 = cccI d from rfl]
  unfold posK
  cases decide (cccI (L.getD k 0) > cccI d)
  ·rfl
  ·exact ih m (by omega) (by omega)
theorem norm_l1 (K0:Int → Int → List Int → List Int → List Int → NR) (d:Int) (a b L:List Int) (hL:L.length ≤ 1000) :
  ∀ (k m:Nat),k ≤ L.length → k < m → C0.l1 K0 m d k a b L = K0 d (posK L d k:Nat) a b L:=by
 intro k
 induction k with
 | zero =>
  intro m h1 h2
  obtain ⟨m,rfl⟩:∃ k,m = k + 1:=⟨m - 1,by omega⟩
  have e:decide (((0:Nat):Int) > 0) = false:=rfl
  simp only [C0.l1,e,cond_false,posK]
 | succ k ih =>
  intro m h1 h2
  obtain ⟨m,rfl⟩:∃ k,m = k + 1:=⟨m - 1,by omega⟩
  have e:decide (((k + 1:Nat):Int) > 0) = true:=decide_eq_true (by omega)
  have e2:i64.wrap (((k + 1:Nat):Int) - 1) = (k:Int):=by rw [wr (by omega) (by omega)]; omega
  have e3:decide ((0:Int) ≤ (k:Int)) = true:=decide_eq_true (by omega)
  have e4:decide ((k:Int) < (L.length:Int)) = true:=decide_eq_true (by omega)
  have e5:((k:Nat):Int).toNat = k:=Int.toNat_natCast k
  have e6:decide (k < L.length) = true:=decide_eq_true (by omega)
  simp only [C0.l1,e,e2,e3,e4,e5,e6,O0.d,cond_true,Bool.and_self]
  rw [show (O0.val (L.getD k 0)).1 = cccI (L.getD k 0) from rfl,show (O0.val d).1 = cccI d from rfl]
  unfold posK
  cases decide (cccI (L.getD k 0) > cccI d)
  ·rfl
  ·exact ih m (by omega) (by omega)
theorem norm_l2 (K0:Int → Int → List Int → List Int → List Int → NR) (d:Int) (a b L:List Int) (hL:L.length ≤ 1000) :
  ∀ (k m:Nat),k ≤ L.length → k < m → C0.l2 K0 m d k a b L = K0 d (posK L d k:Nat) a b L:=by
 intro k
 induction k with
 | zero =>
  intro m h1 h2
  obtain ⟨m,rfl⟩:∃ k,m = k + 1:=⟨m - 1,by omega⟩
  have e:decide (((0:Nat):Int) > 0) = false:=rfl
  simp only [C0.l2,e,cond_false,posK]
 | succ k ih =>
  intro m h1 h2
  obtain ⟨m,rfl⟩:∃ k,m = k + 1:=⟨m - 1,by omega⟩
  have e:decide (((k + 1:Nat):Int) > 0) = true:=decide_eq_true (by omega)
  have e2:i64.wrap (((k + 1:Nat):Int) - 1) = (k:Int):=by rw [wr (by omega) (by omega)]; omega
  have e3:decide ((0:Int) ≤ (k:Int)) = true:=decide_eq_true (by omega)
  have e4:decide ((k:Int) < (L.length:Int)) = true:=decide_eq_true (by omega)
  have e5:((k:Nat):Int).toNat = k:=Int.toNat_natCast k
  have e6:decide (k < L.length) = true:=decide_eq_true (by omega)
  simp only [C0.l2,e,e2,e3,e4,e5,e6,O0.d,cond_true,Bool.and_self]
  rw [show (O0.val (L.getD k 0)).1 = cccI (L.getD k 0) from rfl,show (O0.val d).1 = cccI d from rfl]
  unfold posK
  cases decide (cccI (L.getD k 0) > cccI d)
  ·rfl
  ·exact ih m (by omega) (by omega)
def psi (L out:List Int):Nat:=30 * out.length + 30 * L.length + marksN L
def GoodN (K0:NK) (B:Nat) (e:NR):Prop:=∃ a L out,e = K0 a L out ∧ NormI L ∧ psi L out ≤ B
theorem gT {K0:NK} {B:Nat} {c:Bool} {a b:NR} (hc:c = true) (h:GoodN K0 B a):GoodN K0 B (bif c then a else b):=by subst hc; exact h
theorem gF {K0:NK} {B:Nat} {c:Bool} {a b:NR} (hc:c = false) (h:GoodN K0 B b):GoodN K0 B (bif c then a else b):=by subst hc; exact h
theorem gC {K0:NK} {B:Nat} {c:Bool} {a b:NR} (h1:c = true → GoodN K0 B a) (h2:c = false → GoodN K0 B b):GoodN K0 B (bif c then a else b):=by
 cases c
 ·exact h2 rfl
 ·exact h1 rfl
theorem m847:markB 847 = false:=by kernel_rfl
theorem w89 (L:List Int):marksN L ≤ L.length:=List.length_filter_le _ _
theorem app_ok {a b:Nat} (ha:a ≤ 1000000) (hb:b ≤ 1000000):(decide ((a + b) * (8:Nat) ≤ (140737488355328:Nat)) && decide (a + b ≤ lim)) = true:=by
 rw [Bool.and_eq_true,decide_eq_true_eq,decide_eq_true_eq]
 unfold lim
 omega
theorem put_in {K0:NK} {B:Nat} (m:Nat) (v3:List Int) (i:Nat) (v6 L out:List Int) (d:Int) (hL:L.length ≤ 1000) (hi:i ≤ 1000)
  (h:GoodN K0 B (C0.l0 K0 m v3 (v3.length:Int) ((i + 1:Nat):Int) v6 (insN L d) out)) :
  GoodN K0 B (let y78:=C1.val L; bif C1.dom L then (let z79:=List.length y78.1 + [d].length; let z80:=decide ((0:Int) ≤ (posK L d L.length:Int)) && decide ((posK L d L.length:Int) ≤ (↑(List.length y78.1):Int)) && decide ((0:Nat) < [d].length) && decide (z79 * (1:Nat) * (8:Nat) ≤ (70368744177664:Nat)) && decide (z79 ≤ (1099511627776:Nat)); bif z80 then (C0.l0 K0 m v3 (v3.length:Int) (i64.wrap ((i:Int) + (1:Int))) v6 (List.take (Int.toNat (posK L d L.length:Int)) y78.1 ++ [d] ++ List.drop (Int.toNat (posK L d L.length:Int)) y78.1) out) else (none)) else none):=by
 have hp:=posK_le L d L.length
 dsimp only
 rw [clone.d L (by omega),clone.v]
 refine gT rfl (gT ?_ ?_)
 ·simp only [Bool.and_eq_true,decide_eq_true_eq,List.length_cons,List.length_nil]
  omega
 ·have e6:i64.wrap ((i:Int) + 1) = ((i + 1:Nat):Int):=by rw [wr (by omega) (by omega)]; omega
  rw [e6,Int.toNat_natCast]
  exact h
theorem B00 (d:Int):marksN [d] ≤ 1:=w89 [d]
theorem norm_l0 (K0:NK) (v3:List Int) (hv:v3.length ≤ 1000) :
  ∀ (r:List Int) (i m:Nat) (v6 L out:List Int),v3.drop i = r → i ≤ v3.length → NormI L → psi L out + 31 * r.length ≤ 1000000 → r.length + 1000 < m →
   GoodN K0 (psi L out + 31 * r.length) (C0.l0 K0 m v3 (v3.length:Int) i v6 L out):=by
 intro r
 induction r with
 | nil =>
  intro i m v6 L out hd hi hL hB hm
  obtain ⟨m,rfl⟩:∃ k,m = k + 1:=⟨m - 1,by omega⟩
  have:=a69 hd hi
  have e1:decide ((i:Int) < (v3.length:Int)) = false:=decide_eq_false (by omega)
  exact ⟨v6,L,out,by simp only [C0.l0,e1,cond_false],hL,by simp⟩
 | cons d r ih =>
  intro i m v6 L out hd hi hL hB hm
  obtain ⟨m,rfl⟩:∃ k,m = k + 1:=⟨m - 1,by omega⟩
  obtain ⟨hlt,hg,hr⟩:=a60 hd (0:Int)
  have hlen:=hL.ok.len
  have hto:Int.toNat (i:Int) = i:=Int.toNat_natCast i
  have e1:decide ((i:Int) < (v3.length:Int)) = true:=decide_eq_true (by omega)
  have e2:decide ((0:Int) ≤ (i:Int)) = true:=decide_eq_true (by omega)
  have e6:i64.wrap ((i:Int) + 1) = ((i + 1:Nat):Int):=by rw [wr (by omega) (by omega)]; omega
  have hcd:=C4.d L (by omega)
  have hcl:=C4.len L (by omega)
  have hout:out.length ≤ 100000:=by unfold psi at hB; omega
  simp only [List.length_cons] at hB hm
  have next:∀ (v6 L' out':List Int),NormI L' → psi L' out' ≤ psi L out + 31 → GoodN K0 (psi L out + 31 * (r.length + 1)) (C0.l0 K0 m v3 (v3.length:Int) ((i + 1:Nat):Int) v6 L' out'):=by
   intro v6 L' out' hL' hp
   obtain ⟨a,x,o,h1,h2,h3⟩:=ih (i + 1) m v6 L' out' hr (by omega) hL' (by omega) (by omega)
   exact ⟨a,x,o,h1,h2,by omega⟩
  unfold C0.l0
  dsimp only
  rw [hto,hg,e1,e2,e6,R2.d,R2.d,hcd]
  refine gT rfl (gT rfl (gT rfl ?_))
  obtain ⟨c,hc⟩:∃ c:List Int,c = (C4.val L).1:=⟨_,rfl⟩
  rw [← hc] at hcl ⊢
  have happ:=app_ok (a:=out.length) (b:=c.length) (by omega) (by omega)
  have hpsi:psi L out = 30 * out.length + 30 * L.length + marksN L:=rfl
  have hcapp:(out ++ c).length = out.length + c.length:=List.length_append
  refine gC (fun hmk=>?_) (fun hmk=>?_)
  ·have hd0:markB d = false:=by
    have:(!markB d) = true:=hmk
    simpa using this
   have toNew:psi [d] (out ++ c) ≤ psi L out + 31:=by
    have:psi [d] (out ++ c) = 30 * (out ++ c).length + 30 * 1 + marksN [d]:=rfl
    have h2:marksN [d] = 0:=by unfold marksN; rw [List.filter_cons,hd0]; rfl
    omega
   refine gT rfl (gC (fun hc1=>?_) (fun _=>?_))
   ·have hc1':c.length = 1:=by have:=beq_iff_eq.1 hc1; omega
    have f1:decide ((0:Int) < (c.length:Int)) = true:=decide_eq_true (by omega)
    rw [f1,U8.d]
    refine gT rfl (gT rfl (gC (fun _=>?_) (fun _=>?_)))
    ·refine gT rfl (gT rfl (gC (fun _=>?_) (fun _=>?_)))
     ·refine next _ _ _ (NormI.one _) ?_
      have h1:=B00 (U8.val (c.getD 0 0) d).1
      have h2:psi [(U8.val (c.getD 0 0) d).1] out = 30 * out.length + 30 * 1 + marksN [(U8.val (c.getD 0 0) d).1]:=rfl
      omega
     ·exact gT happ (next _ _ _ (NormI.one _) toNew)
    ·exact gT happ (next _ _ _ (NormI.one _) toNew)
   ·exact gT happ (next _ _ _ (NormI.one _) toNew)
  ·have hd1:markB d = true:=by
    have:(!markB d) = false:=hmk
    simpa using this
   have hmv:=C88.ev fuel (L,()) hL.ok
   rw [show O1.dom (L,()) = true from C8 hmv,show O1.val (L,()) = ((marksN L:Int),()) from D5 hmv]
   refine gT rfl (gC (fun h30=>?_) (fun h30=>?_))
   ·have hm30:marksN L = 30:=by
     have:((marksN L:Int) == 30) = true:=h30
     have:=beq_iff_eq.1 this
     omega
    have hl30:=w89 L
    have toNew:psi (insN [847] d) (out ++ c) ≤ psi L out + 31:=by
     have h1:psi (insN [847] d) (out ++ c) = 30 * (out ++ c).length + 30 * (insN [847] d).length + marksN (insN [847] d):=rfl
     have h2:=B56 [847] d hd1
     have h3:=insN_len [847] d
     have h4:marksN [(847:Int)] = 0:=by unfold marksN; rw [List.filter_cons,m847]; rfl
     have h5:[(847:Int)].length = 1:=rfl
     omega
    have new:GoodN K0 (psi L out + 31 * (r.length + 1)) (bif decide ((out.length + c.length) * (8:Nat) ≤ (140737488355328:Nat)) && decide (out.length + c.length ≤ lim) then (C0.l2 (fun o41 o42 o43 o44 o45=>let y46:=C1.val o45; bif C1.dom o45 then (let z47:=List.length y46.1 + [o41].length; let z48:=decide ((0:Int) ≤ o42) && decide (o42 ≤ (↑(List.length y46.1):Int)) && decide ((0:Nat) < [o41].length) && decide (z47 * (1:Nat) * (8:Nat) ≤ (70368744177664:Nat)) && decide (z47 ≤ (1099511627776:Nat)); bif z48 then (C0.l0 K0 m v3 (v3.length:Int) (i64.wrap ((i:Int) + (1:Int))) o43 (List.take (Int.toNat o42) y46.1 ++ [o41] ++ List.drop (Int.toNat o42) y46.1) o44) else (none)) else none) m d ((1:Int)) v6 (out ++ c) ([(847:Int)])) else none):=by
     refine gT happ ?_
     have:=norm_l2 (fun o41 o42 o43 o44 o45=>let y46:=C1.val o45; bif C1.dom o45 then (let z47:=List.length y46.1 + [o41].length; let z48:=decide ((0:Int) ≤ o42) && decide (o42 ≤ (↑(List.length y46.1):Int)) && decide ((0:Nat) < [o41].length) && decide (z47 * (1:Nat) * (8:Nat) ≤ (70368744177664:Nat)) && decide (z47 ≤ (1099511627776:Nat)); bif z48 then (C0.l0 K0 m v3 (v3.length:Int) (i64.wrap ((i:Int) + (1:Int))) o43 (List.take (Int.toNat o42) y46.1 ++ [o41] ++ List.drop (Int.toNat o42) y46.1) o44) else (none)) else none) d v6 (out ++ c) [847] (by simp) 1 m (by simp) (by omega)
     rw [show ((1:Nat):Int) = 1 from rfl] at this
     rw [this]
     exact put_in m v3 i v6 [847] (out ++ c) d (by simp) (by omega) (next _ _ _ ((NormI.one 847).ins d hd1 (by have:=B00 847; omega)) toNew)
    rw [← e6]
    refine gT rfl (gC (fun hc1=>?_) (fun _=>new))
    have hc1':c.length = 1:=by have:=beq_iff_eq.1 hc1; omega
    have f1:decide ((0:Int) < (c.length:Int)) = true:=decide_eq_true (by omega)
    rw [f1,U8.d]
    refine gT rfl (gT rfl (gC (fun _=>?_) (fun _=>new)))
    refine gT rfl (gT rfl (gC (fun _=>?_) (fun _=>new)))
    obtain ⟨v,hv2⟩:∃ v:Int,v = (U8.val (c.getD 0 0) 847).1:=⟨_,rfl⟩
    rw [← hv2]
    have:=norm_l1 (fun o25 o26 o27 o28 o29=>let y30:=C1.val o29; bif C1.dom o29 then (let z31:=List.length y30.1 + [o25].length; let z32:=decide ((0:Int) ≤ o26) && decide (o26 ≤ (↑(List.length y30.1):Int)) && decide ((0:Nat) < [o25].length) && decide (z31 * (1:Nat) * (8:Nat) ≤ (70368744177664:Nat)) && decide (z31 ≤ (1099511627776:Nat)); bif z32 then (C0.l0 K0 m v3 (v3.length:Int) (i64.wrap ((i:Int) + (1:Int))) o27 (List.take (Int.toNat o26) y30.1 ++ [o25] ++ List.drop (Int.toNat o26) y30.1) o28) else (none)) else none) d v6 out [v] (by simp) 1 m (by simp) (by omega)
    have g:GoodN K0 (psi L out + 31 * (r.length + 1)) (C0.l1 (fun o25 o26 o27 o28 o29=>let y30:=C1.val o29; bif C1.dom o29 then (let z31:=List.length y30.1 + [o25].length; let z32:=decide ((0:Int) ≤ o26) && decide (o26 ≤ (↑(List.length y30.1):Int)) && decide ((0:Nat) < [o25].length) && decide (z31 * (1:Nat) * (8:Nat) ≤ (70368744177664:Nat)) && decide (z31 ≤ (1099511627776:Nat)); bif z32 then (C0.l0 K0 m v3 (v3.length:Int) (i64.wrap ((i:Int) + (1:Int))) o27 (List.take (Int.toNat o26) y30.1 ++ [o25] ++ List.drop (Int.toNat o26) y30.1) o28) else (none)) else none) m d ((1:Nat):Int) v6 out [v]):=by
     rw [this]
     refine put_in m v3 i v6 [v] out d (by simp) (by omega) (next _ _ _ ((NormI.one v).ins d hd1 (by have:=B00 v; omega)) ?_)
     have h1:psi (insN [v] d) out = 30 * out.length + 30 * (insN [v] d).length + marksN (insN [v] d):=rfl
     have h2:=B56 [v] d hd1
     have h3:=insN_len [v] d
     have h4:=B00 v
     have h5:[v].length = 1:=rfl
     omega
    exact g
   ·have hm30:marksN L < 30:=by
     have:((marksN L:Int) == 30) = false:=h30
     have h1:=beq_eq_false_iff_ne.1 this
     have h2:=hL.ok.few
     have h3:marksN L = (L.filter markB).length:=rfl
     omega
    rw [← e6]
    have:=norm_l3 (fun o73 o74 o75 o76 o77=>let y78:=C1.val o76; bif C1.dom o76 then (let z79:=List.length y78.1 + [o73].length; let z80:=decide ((0:Int) ≤ o74) && decide (o74 ≤ (↑(List.length y78.1):Int)) && decide ((0:Nat) < [o73].length) && decide (z79 * (1:Nat) * (8:Nat) ≤ (70368744177664:Nat)) && decide (z79 ≤ (1099511627776:Nat)); bif z80 then (C0.l0 K0 m v3 (v3.length:Int) (i64.wrap ((i:Int) + (1:Int))) o75 (List.take (Int.toNat o74) y78.1 ++ [o73] ++ List.drop (Int.toNat o74) y78.1) o77) else (none)) else none) d v6 L out (by omega) L.length m (Nat.le_refl _) (by omega)
    refine Eq.mpr (congrArg _ this) ?_
    refine put_in m v3 i v6 L out d (by omega) (by omega) (next _ _ _ (hL.ins d hd1 hm30) ?_)
    have h1:psi (insN L d) out = 30 * out.length + 30 * (insN L d).length + marksN (insN L d):=rfl
    have h2:=B56 L d hd1
    have h3:=insN_len L d
    omega
def NormSt (s:NormS):Prop:=NormI s.1
theorem C0.ex (s:NormS) (x:Int) (hs:NormSt s):∃ r,C0.raw fuel s x = some r ∧ NormSt r.1 ∧ psi r.1.1 r.2.1 ≤ psi s.1 [] + 31 * List.length (R0.val x).1:=by
 have hsn:=S8.ev fuel s hs.ok
 have hlen:=hs.ok.len
 have hf:=R0.len x
 have hp:psi s.1 [] ≤ 961:=by
  have h1:psi s.1 [] = 30 * 0 + 30 * List.length s.1 + marksN s.1:=rfl
  have h2:=w89 s.1
  omega
 have hpb:psi s.1 (nl Int) + 31 * List.length (R0.val x).1 ≤ 1000000:=by
  have:psi s.1 (nl Int) = psi s.1 []:=rfl
  omega
 have e1:S8.dom s = true:=C8 hsn
 have e2:S8.val s = (true,()):=D5 hsn
 have hF:2000 < fuel:=a26 (by omega)
 clear hsn
 generalize fuel = F at *
 unfold C0.raw
 dsimp only
 rw [e1,e2,R0.d]
 refine a40 rfl (a67 rfl (a40 rfl ?_))
 obtain ⟨a,L,out,h1,h2,h3⟩:=norm_l0 (fun o85 o86 o87=>some (((o86,()),o87,()))) (R0.val x).1 (by omega) (R0.val x).1 0 F (nl Int) s.1 (nl Int) rfl (by omega) hs hpb (by omega)
 exact ⟨((L,()),out,()),h1,h2,h3⟩
theorem C0.d (s:NormS) (x:Int) (hs:NormSt s):C0.dom s x = true:=by obtain ⟨r,e,_⟩:=C0.ex s x hs; exact C8 e
theorem C0.ok (s:NormS) (x:Int) (hs:NormSt s):NormSt (C0.val s x).1:=by
 obtain ⟨r,e,h,_⟩:=C0.ex s x hs
 rw [show C0.val s x = r from D5 e]; exact h
theorem C0.psi (s:NormS) (x:Int) (hs:NormSt s):psi (C0.val s x).1.1 (C0.val s x).2.1 ≤ psi s.1 [] + 31 * List.length (R0.val x).1:=by
 obtain ⟨r,e,_,h⟩:=C0.ex s x hs
 rw [show C0.val s x = r from D5 e]; exact h
theorem special_len:(a56.all fun p=>decide (p.2.length ≤ 3)) = true:=by kernel_rfl
theorem ruled_len (x:Int):∀ l,(ruled x l).length = 1
 | []=>rfl
 | y :: l=>by
  unfold ruled
  cases decide (y.1 ≤ x) && decide (x ≤ y.2.1) && ((x - y.1) % y.2.2.1 == 0)
  ·exact ruled_len x l
  ·rfl
theorem foldS_len (x:Int):(foldS x).length ≤ 3:=by
 unfold foldS
 cases h:a56.find? fun p=>p.1 == x with
 | none=>show (ruled x rulesL).length ≤ 3; rw [ruled_len]; omega
 | some p =>
  have hm:=List.mem_of_find?_eq_some h
  exact of_decide_eq_true (List.all_eq_true.1 special_len p hm)
theorem casing_l (K0:List Int → Option (Args [.slice (.int .i64)])) (xs:List Int) (hx:xs.length ≤ 1000000) :
  ∀ (r:List Int) (i m:Nat) (v:List Int),xs.drop i = r → i ≤ xs.length → v.length + 3 * r.length ≤ 10000000 → r.length < m →
   N3.l0 K0 m xs (xs.length:Int) i v = K0 (v ++ r.flatMap foldS):=by
 intro r
 induction r with
 | nil =>
  intro i m v hd hi hv hm
  obtain ⟨m,rfl⟩:∃ k,m = k + 1:=⟨m - 1,by omega⟩
  have:=a69 hd hi
  have e1:decide ((i:Int) < (xs.length:Int)) = false:=decide_eq_false (by omega)
  simp only [N3.l0,e1,cond_false,List.flatMap_nil,List.append_nil]
 | cons d r ih =>
  intro i m v hd hi hv hm
  obtain ⟨m,rfl⟩:∃ k,m = k + 1:=⟨m - 1,by omega⟩
  obtain ⟨hlt,hg,hr⟩:=a60 hd (0:Int)
  have hto:Int.toNat (i:Int) = i:=Int.toNat_natCast i
  have e1:decide ((i:Int) < (xs.length:Int)) = true:=decide_eq_true (by omega)
  have e2:decide ((0:Int) ≤ (i:Int)) = true:=decide_eq_true (by omega)
  have e6:i64.wrap ((i:Int) + 1) = ((i + 1:Nat):Int):=by rw [wr (by omega) (by omega)]; omega
  have hl:=foldS_len d
  simp only [List.length_cons] at hv hm
  have e3:decide ((v.length + (foldS d).length) * 8 ≤ 140737488355328) = true:=decide_eq_true (by omega)
  have e4:decide (v.length + (foldS d).length ≤ lim) = true:=decide_eq_true (by unfold lim; omega)
  simp only [N3.l0,hto,hg,e1,e2,e3,e4,e6,cond_true,Bool.and_self]
  rw [ih (i + 1) m _ hr (by omega) (by rw [List.length_append]; omega) (by omega)]
  simp
theorem N3.ev (xs:List Int) (hx:xs.length ≤ 1000000):N3.raw fuel xs = some (xs.flatMap foldS,()):=by
 have hf:1000001 < fuel:=a26 (by omega)
 generalize fuel = F at *
 have:=casing_l (fun o6=>some (o6,())) xs hx xs 0 F (nl (Ty.int i64).den) rfl (by omega) (by show 0 + _ ≤ _; omega) (by omega)
 exact this
def leftL (x:Int):List Int:=(foldS x).filter fun y=>!(R5.val y).1
theorem leftL_len (x:Int):(leftL x).length ≤ 3:=Nat.le_trans (List.length_filter_le _ _) (foldS_len x)
theorem U0.ev (x:Int):U0.raw fuel [x] = some (leftL x,()):=by
 have h:=N3.ev [x] (by simp)
 have e:List.flatMap foldS [x] = foldS x:=by simp
 rw [e] at h
 unfold U0.raw
 dsimp only
 rw [show N3.dom [x] = true from C8 h,show N3.val [x] = (foldS x,()) from D5 h]
 have ha:(List.all (foldS x) fun y=>R5.dom y) = true:=by
  rw [List.all_eq_true]
  exact fun y _=>R5.d y
 dsimp only
 rw [ha]
 rfl
theorem U0.d (x:Int):U0.dom [x] = true:=C8 (U0.ev x)
theorem U0.v (x:Int):U0.val [x] = (leftL x,()):=D5 (U0.ev x)
theorem B49 (L a b:List Int):psi L (a ++ b) = 30 * a.length + psi L b:=by
 unfold psi
 rw [List.length_append]
 omega
theorem foldin_l (K0:List Int → List Int → NR) (v3:List Int) (hv:v3.length ≤ 1000) :
  ∀ (r:List Int) (i m:Nat) (L out:List Int),v3.drop i = r → i ≤ v3.length → NormI L → psi L out + 124 * r.length ≤ 100000 → r.length < m →
   ∃ L' out',E6.l0 K0 m v3 (v3.length:Int) i L out = K0 L' out' ∧ NormI L' ∧ psi L' out' ≤ psi L out + 124 * r.length:=by
 intro r
 induction r with
 | nil =>
  intro i m L out hd hi hL hB hm
  obtain ⟨m,rfl⟩:∃ k,m = k + 1:=⟨m - 1,by omega⟩
  have:=a69 hd hi
  have e1:decide ((i:Int) < (v3.length:Int)) = false:=decide_eq_false (by omega)
  exact ⟨L,out,by simp only [E6.l0,e1,cond_false],hL,by simp⟩
 | cons d r ih =>
  intro i m L out hd hi hL hB hm
  obtain ⟨m,rfl⟩:∃ k,m = k + 1:=⟨m - 1,by omega⟩
  obtain ⟨hlt,hg,hr⟩:=a60 hd (0:Int)
  have hto:Int.toNat (i:Int) = i:=Int.toNat_natCast i
  have e1:decide ((i:Int) < (v3.length:Int)) = true:=decide_eq_true (by omega)
  have e2:decide ((0:Int) ≤ (i:Int)) = true:=decide_eq_true (by omega)
  have e6:i64.wrap ((i:Int) + 1) = ((i + 1:Nat):Int):=by rw [wr (by omega) (by omega)]; omega
  have hs:NormSt (L,()):=hL
  have hd1:=C0.d (L,()) d hs
  have hok:=C0.ok (L,()) d hs
  have hpsi:=C0.psi (L,()) d hs
  have hfl:=R0.len d
  obtain ⟨y,hy⟩:∃ y,y = C0.val (L,()) d:=⟨_,rfl⟩
  rw [← hy] at hok hpsi
  simp only [List.length_cons] at hB hm
  have hp1:psi L out = 30 * out.length + psi L []:=by have:=B49 L out []; rwa [List.append_nil] at this
  have hp2:psi y.1.1 y.2.1 = 30 * List.length y.2.1 + psi y.1.1 []:=by have:=B49 y.1.1 y.2.1 []; rwa [List.append_nil] at this
  have hpp:psi (L,()).1 [] = psi L []:=rfl
  have e3:decide ((out.length + List.length y.2.1) * 8 ≤ 140737488355328) = true:=decide_eq_true (by omega)
  have e4:decide (out.length + List.length y.2.1 ≤ lim) = true:=decide_eq_true (by unfold lim; omega)
  have hp3:=B49 y.1.1 out y.2.1
  obtain ⟨L',out',h1,h2,h3⟩:=ih (i + 1) m y.1.1 (out ++ y.2.1) hr (by omega) hok (by omega) (by omega)
  refine ⟨L',out',?_,h2,by simp only [List.length_cons]; omega⟩
  simp only [E6.l0,hto,hg,e1,e2,e6,hd1,← hy,e3,e4,cond_true,Bool.and_self]
  exact h1
theorem E6.ex (s:NormS) (x:Int) (hs:NormSt s):∃ r,E6.raw fuel s x = some r ∧ NormSt r.1 ∧ psi r.1.1 r.2.1 ≤ psi s.1 [] + 372:=by
 have hsn:=S8.ev fuel s hs.ok
 have hlen:=hs.ok.len
 have hp:psi s.1 (nl Int) ≤ 961:=by
  have h1:psi s.1 (nl Int) = 30 * 0 + 30 * List.length s.1 + marksN s.1:=rfl
  have h2:=w89 s.1
  omega
 have hl:=leftL_len x
 have e1:S8.dom s = true:=C8 hsn
 have e2:S8.val s = (true,()):=D5 hsn
 have hF:2000 < fuel:=a26 (by omega)
 clear hsn
 generalize fuel = F at *
 unfold E6.raw
 dsimp only
 rw [e1,e2,U0.d,U0.v]
 refine a40 rfl (a67 rfl (a40 rfl ?_))
 obtain ⟨L,out,h1,h2,h3⟩:=foldin_l (fun o12 o13=>some (((o12,()),o13,()))) (leftL x) (by omega) (leftL x) 0 F s.1 (nl Int) rfl (by omega) hs (by omega) (by omega)
 have hpp:psi s.1 (nl Int) = psi s.1 []:=rfl
 exact ⟨((L,()),out,()),h1,h2,by show psi L out ≤ _; omega⟩
theorem E6.d (s:NormS) (x:Int) (hs:NormSt s):E6.dom s x = true:=by obtain ⟨r,e,_⟩:=E6.ex s x hs; exact C8 e
theorem E6.ok (s:NormS) (x:Int) (hs:NormSt s):NormSt (E6.val s x).1:=by
 obtain ⟨r,e,h,_⟩:=E6.ex s x hs
 rw [show E6.val s x = r from D5 e]; exact h
theorem E6.psi (s:NormS) (x:Int) (hs:NormSt s):psi (E6.val s x).1.1 (E6.val s x).2.1 ≤ psi s.1 [] + 372:=by
 obtain ⟨r,e,_,h⟩:=E6.ex s x hs
 rw [show E6.val s x = r from D5 e]; exact h
theorem concatB_l0 (K0:List (List Int) → Int → Option (Args [(.slice (.int .u8))])) (v3:List (List Int)) (hv:v3.length ≤ 1073741824) :
  ∀ (r:List (List Int)) (i:Nat),v3.drop i = r → i ≤ v3.length → ∀ m v1 (v2:Nat),r.length < m → v2 + r.flatten.length ≤ 1073741824 →
  B2.l0 K0 m v1 v2 v3 v3.length i = K0 v1 ((v2 + r.flatten.length:Nat):Int):=by
 intro r
 induction r with
 | nil =>
  intro i hd hi m v1 v2 hm h2
  obtain ⟨m,rfl⟩:∃ k,m = k + 1:=⟨m - 1,by simp at hm; omega⟩
  have:=a69 hd hi
  subst this
  simp [B2.l0]
 | cons x r ih =>
  intro i hd hi m v1 v2 hm h2
  obtain ⟨m,rfl⟩:∃ k,m = k + 1:=⟨m - 1,by simp at hm; omega⟩
  obtain ⟨hlt,hg,hr⟩:=a60 hd (Ty.int u8).slice.dflt
  have hl:(x :: r).flatten.length = x.length + r.flatten.length:=by simp
  have e:i64.wrap ((i:Int) + 1) = ((i + 1:Nat):Int):=by rw [wr (by omega) (by omega)]; omega
  have e2:i64.wrap ((v2:Int) + (x.length:Int)) = ((v2 + x.length:Nat):Int):=by rw [wr (by omega) (by omega)]; omega
  have e3:decide ((i:Int) < (v3.length:Int)) = true:=decide_eq_true (by omega)
  have e4:decide ((0:Int) ≤ (i:Int)) = true:=decide_eq_true (by omega)
  have e5:decide (((v2 + x.length:Nat):Int) < 0) = false:=decide_eq_false (by omega)
  have:=ih (i + 1) hr hlt m v1 (v2 + x.length) (by simp at hm; omega) (by omega)
  simp only [B2.l0]
  rw [Int.toNat_natCast,hg,e,e2,e3,e4,e5]
  simp only [Bool.and_self,cond_true,cond_false]
  rw [this,hl,Nat.add_assoc]
theorem concatB_l1 (K0:List Int → Option (Args [(.slice (.int .u8))])) (v3:List (List Int)) (hv:v3.length ≤ 1073741824) :
  ∀ (r:List (List Int)) (i:Nat),v3.drop i = r → i ≤ v3.length → ∀ m (v:List Int),r.length < m → v.length + r.flatten.length ≤ 1073741824 →
  B2.l1 K0 m v3 v3.length i v = K0 (v ++ r.flatten):=by
 intro r
 induction r with
 | nil =>
  intro i hd hi m v hm h2
  obtain ⟨m,rfl⟩:∃ k,m = k + 1:=⟨m - 1,by simp at hm; omega⟩
  have:=a69 hd hi
  subst this
  simp [B2.l1]
 | cons x r ih =>
  intro i hd hi m v hm h2
  obtain ⟨m,rfl⟩:∃ k,m = k + 1:=⟨m - 1,by simp at hm; omega⟩
  obtain ⟨hlt,hg,hr⟩:=a60 hd (Ty.int u8).slice.dflt
  have hl:(x :: r).flatten.length = x.length + r.flatten.length:=by simp
  have e:i64.wrap ((i:Int) + 1) = ((i + 1:Nat):Int):=by rw [wr (by omega) (by omega)]; omega
  have e3:decide ((i:Int) < (v3.length:Int)) = true:=decide_eq_true (by omega)
  have e4:decide ((0:Int) ≤ (i:Int)) = true:=decide_eq_true (by omega)
  have e5:decide ((v.length + x.length) * 1 ≤ 140737488355328) = true:=decide_eq_true (by omega)
  have e6:decide (v.length + x.length ≤ lim) = true:=decide_eq_true (by unfold lim; omega)
  have:=ih (i + 1) hr hlt m (v ++ x) (by simp at hm; omega) (by simp at *; omega)
  simp only [B2.l1]
  rw [Int.toNat_natCast,hg,e,e3,e4,e5,e6]
  simp only [Bool.and_self,cond_true,cond_false]
  rw [this,List.flatten_cons,List.append_assoc]
theorem concatB.ev (m:Nat) (xs:List (List Int)) (hm:xs.length < m) (hx:xs.length ≤ 1073741824) (hf:xs.flatten.length ≤ 1073741824) :
  B2.raw m xs = some (xs.flatten,()):=by
 unfold B2.raw
 have a:=concatB_l0 (fun o6 o7=>bif decide ((0:Int) ≤ o7) && decide (o7 ≤ (1073741824:Int)) then (B2.l1 (fun o13=>some ((o13,()))) m o6 ((↑(List.length o6):Int)) ((0:Int)) (nl Int)) else (none)) xs hx xs 0 rfl (Nat.zero_le _) m xs 0 hm (by omega)
 have b:=concatB_l1 (fun o13=>some ((o13,()))) xs hx xs 0 rfl (Nat.zero_le _) m [] hm (by simp; simpa using hf)
 rw [show ((0:Nat):Int) = 0 from rfl] at a b
 refine a.trans ?_
 have e1:decide ((0:Int) ≤ ((0 + xs.flatten.length:Nat):Int)) = true:=decide_eq_true (by omega)
 have e2:decide (((0 + xs.flatten.length:Nat):Int) ≤ 1073741824) = true:=decide_eq_true (by omega)
 simp only [e1,e2,Bool.and_self,cond_true]
 exact b
theorem concatB.d (a b:List Int) (h:a.length + b.length ≤ 1073741824):B2.dom [a,b] = true :=
 C8 (concatB.ev fuel [a,b] (a26 (by simp)) (by simp) (by simpa using h))
theorem concatB.v (a b:List Int) (h:a.length + b.length ≤ 1073741824):B2.val [a,b] = (a ++ b,()):=by
 have:=concatB.ev fuel [a,b] (a26 (by simp)) (by simp) (by simpa using h)
 rw [show B2.val [a,b] = _ from D5 this]
 simp
abbrev Wire:=Ty.den D7
def Wire.ok (w:Wire):Bool:=decide (List.length w.1 ≤ 4096) && decide (0 ≤ w.2.2.1) && decide (w.2.2.1 ≤ 4096)
def Wire.zero:Wire:=([],false,0,[],())
def Wire.sane (w:Wire):Wire:=bif Wire.ok w then w else Wire.zero
theorem a13.ev (m:Nat) (w:Wire):a13.raw m w = some (Wire.ok w,()):=by
 unfold a13.raw Wire.ok
 by_cases h:List.length w.1 ≤ 4096
 ·have h':(List.length w.1:Int) ≤ 4096:=by omega
  by_cases k:0 ≤ w.2.2.1
  ·simp [h,h',k]
  ·simp [h,h',k]
 ·have h':¬ (List.length w.1:Int) ≤ 4096:=by omega
  simp [h,h']
theorem a13.d (w:Wire):a13.dom w = true:=C8 (a13.ev _ w)
theorem a13.v (w:Wire):a13.val w = (Wire.ok w,()):=D5 (a13.ev _ w)
theorem N7.ev (m:Nat) (w:Wire):N7.raw m w = some (Wire.sane w,()):=by
 unfold N7.raw Wire.sane
 simp only [a13.d,a13.v]
 cases Wire.ok w <;> rfl
theorem N7.d (w:Wire):N7.dom w = true:=C8 (N7.ev _ w)
theorem N7.v (w:Wire):N7.val w = (Wire.sane w,()):=D5 (N7.ev _ w)
theorem Wire.sane_ok (w:Wire):Wire.ok (Wire.sane w) = true:=by
 unfold Wire.sane
 cases h:Wire.ok w
 ·rfl
 ·exact h
theorem Wire.ok_iff (w:Wire):Wire.ok w = true ↔ List.length w.1 ≤ 4096 ∧ @LE.le Int _ 0 w.2.2.1 ∧ @LE.le Int _ w.2.2.1 4096:=by
 unfold Wire.ok
 simp only [Bool.and_eq_true,decide_eq_true_eq,and_assoc]
theorem Wire.sane_of {w:Wire} (h:Wire.ok w = true):Wire.sane w = w:=by unfold Wire.sane; rw [h]; rfl
def Wire.arrive (w:Wire) (b:List Int):Wire × Int :=
 bif (Wire.sane w).2.1 then (Wire.sane w,2) else bif decide (List.length (Wire.sane w).1 + b.length ≤ 4096) then (((Wire.sane w).1 ++ b,(Wire.sane w).2),0) else (Wire.sane w,3)
theorem V3.ev (m:Nat) (w:Wire) (b:List Int):V3.raw m w b = some ((Wire.arrive w b).1,(Wire.arrive w b).2,()):=by
 unfold V3.raw Wire.arrive
 simp only [N7.d,N7.v,cond_true]
 obtain ⟨h1,h2,h3⟩:=(Wire.ok_iff _).mp (Wire.sane_ok w)
 generalize Wire.sane w = s at *
 cases s.2.1
 ·have e:i64.wrap ((4096:Int) - (List.length s.1:Int)) = 4096 - (List.length s.1:Int):=wr (by omega) (by omega)
  rw [e]
  by_cases h:List.length s.1 + b.length ≤ 4096
  ·have e1:decide ((b.length:Int) > 4096 - (List.length s.1:Int)) = false:=decide_eq_false (by omega)
   rw [e1,concatB.d _ _ (by omega),concatB.v _ _ (by omega)]
   simp [h]
  ·have e1:decide ((b.length:Int) > 4096 - (List.length s.1:Int)) = true:=decide_eq_true (by omega)
   rw [e1]
   simp [h]
 ·rfl
theorem V3.d (w:Wire) (b:List Int):V3.dom w b = true:=C8 (V3.ev _ w b)
theorem V3.v (w:Wire) (b:List Int):V3.val w b = ((Wire.arrive w b).1,(Wire.arrive w b).2,()):=D5 (V3.ev _ w b)
def Wire.finish (w:Wire):Wire:=((Wire.sane w).1,true,(Wire.sane w).2.2)
theorem V1.ev (m:Nat) (w:Wire):V1.raw m w = some (Wire.finish w,()):=by
 unfold V1.raw Wire.finish
 simp only [N7.d,N7.v,cond_true]
theorem V1.d (w:Wire):V1.dom w = true:=C8 (V1.ev _ w)
theorem V1.v (w:Wire):V1.val w = (Wire.finish w,()):=D5 (V1.ev _ w)
def Wire.grant (w:Wire) (n:Int):Wire × Int :=
 bif decide (n < 0) then (Wire.sane w,2) else bif decide (n > 4096 - (Wire.sane w).2.2.1) then (Wire.sane w,3)
 else (((Wire.sane w).1,(Wire.sane w).2.1,(Wire.sane w).2.2.1 + n,(Wire.sane w).2.2.2),0)
theorem Y8.ev (m:Nat) (w:Wire) (n:Int):Y8.raw m w n = some ((Wire.grant w n).1,(Wire.grant w n).2,()):=by
 unfold Y8.raw Wire.grant
 simp only [N7.d,N7.v,cond_true]
 obtain ⟨h1,h2,h3⟩:=(Wire.ok_iff _).mp (Wire.sane_ok w)
 generalize Wire.sane w = s at *
 have e:i64.wrap ((4096:Int) - s.2.2.1) = 4096 - s.2.2.1:=wr (by omega) (by omega)
 rw [e]
 by_cases h:n < 0
 ·simp [h]
 ·by_cases k:n > 4096 - s.2.2.1
  ·simp [h,k]
  ·have e2:i64.wrap (s.2.2.1 + n) = s.2.2.1 + n:=wr (by omega) (by omega)
   rw [e2]
   simp [h,k]
theorem Y8.d (w:Wire) (n:Int):Y8.dom w n = true:=C8 (Y8.ev _ w n)
theorem Y8.v (w:Wire) (n:Int):Y8.val w n = ((Wire.grant w n).1,(Wire.grant w n).2,()):=D5 (Y8.ev _ w n)
def Wire.waits (w:Wire):Bool:=bif List.length (Wire.sane w).1 == 0 then !(Wire.sane w).2.1 else false
theorem S9.ev (m:Nat) (w:Wire):S9.raw m w = some (Wire.waits w,()):=by
 unfold S9.raw Wire.waits
 simp only [N7.d,N7.v,cond_true]
 generalize Wire.sane w = s
 obtain ⟨l,s⟩:=s
 cases l with
 | nil=>simp
 | cons b l =>
  have e1:((List.length l:Int) + 1 == 0) = false:=beq_eq_false_iff_ne.mpr (by omega)
  simp [e1]
theorem S9.d (w:Wire):S9.dom w = true:=C8 (S9.ev _ w)
theorem S9.v (w:Wire):S9.val w = (Wire.waits w,()):=D5 (S9.ev _ w)
def Wire.read (w:Wire) (n:Int):Wire × List Int:=(((Wire.sane w).1.drop n.toNat,(Wire.sane w).2),(Wire.sane w).1.take n.toNat)
theorem Z9.ev (m:Nat) (w:Wire) (n:Int):Z9.raw m w n = some ((Wire.read w n).1,(Wire.read w n).2,()):=by
 unfold Z9.raw Wire.read
 simp only [N7.d,N7.v,cond_true]
 obtain ⟨h1,h2,h3⟩:=(Wire.ok_iff _).mp (Wire.sane_ok w)
 generalize Wire.sane w = s at *
 obtain ⟨l,s⟩:=s
 simp only at h1
 have key:∀ z:Int,0 ≤ z → z ≤ (l.length:Int) → l.take z.toNat = l.take n.toNat → l.drop z.toNat = l.drop n.toNat →
   (bif decide ((0:Int) ≤ z) && decide (z ≤ (l.length:Int)) then (let y4:=R3.val (List.take z.toNat l); bif R3.dom (List.take z.toNat l) then (bif decide ((0:Int) ≤ z) && decide (z ≤ (l.length:Int)) && decide ((l.length:Int) ≤ (l.length:Int)) then (some (((List.drop z.toNat (List.take (l.length:Int).toNat l),s),y4):Args [D7,(.slice (.int .u8))])) else (none)) else none) else (none)) = some ((l.drop n.toNat,s),l.take n.toNat,()):=by
  intro z h0 hz ht hd
  have hd':R3.dom (List.take z.toNat l) = true:=by unfold R3.dom; exact decide_eq_true (by simp; omega)
  simp only [hd',show R3.val (List.take z.toNat l) = (List.take z.toNat l,()) from rfl]
  simp [h0,hz,ht,hd]
 by_cases h:(l.length:Int) < n
 ·refine Eq.trans ?_ (key l.length (by omega) (by omega) (by rw [List.take_of_length_le (by omega),List.take_of_length_le (by omega)]) (by rw [List.drop_eq_nil_of_le (by omega),List.drop_eq_nil_of_le (by omega)]))
  simp only [h,if_true]
  by_cases k:(l.length:Int) > 0
  ·simp only [k,if_true]
  ·have:(l.length:Int) = 0:=by omega
   simp only [if_false,this,gt_iff_lt,Int.lt_irrefl]
 ·by_cases k:n > 0
  ·refine Eq.trans ?_ (key n (by omega) (by omega) rfl rfl)
   simp only [h,k,if_true,if_false]
  ·refine Eq.trans ?_ (key 0 (by omega) (by omega) (by rw [show n.toNat = 0 from by omega]; rfl) (by rw [show n.toNat = 0 from by omega]; rfl))
   simp only [h,k,if_false]
theorem Z9.d (w:Wire) (n:Int):Z9.dom w n = true:=C8 (Z9.ev _ w n)
theorem Z9.v (w:Wire) (n:Int):Z9.val w n = ((Wire.read w n).1,(Wire.read w n).2,()):=D5 (Z9.ev _ w n)
def Wire.write (w:Wire) (b:List Int):Wire × Int :=
 (((Wire.sane w).1,(Wire.sane w).2.1,(Wire.sane w).2.2.1 - ((b.take (Wire.sane w).2.2.1.toNat).length:Int),(Wire.sane w).2.2.2.1 ++ b.take (Wire.sane w).2.2.1.toNat,()),((b.take (Wire.sane w).2.2.1.toNat).length:Int))
theorem Y5.ev (m:Nat) (w:Wire) (b:List Int) (hw:List.length (Wire.sane w).2.2.2.1 ≤ 1000000000):Y5.raw m w b = some ((Wire.write w b).1,(Wire.write w b).2,()):=by
 unfold Y5.raw Wire.write
 simp only [N7.d,N7.v,cond_true]
 obtain ⟨h1,h2,h3⟩:=(Wire.ok_iff _).mp (Wire.sane_ok w)
 generalize Wire.sane w = s at *
 obtain ⟨c,hc0⟩:∃ c:Int,c = s.2.2.1:=⟨_,rfl⟩
 rw [← hc0] at h2 h3 ⊢
 obtain ⟨z,hz⟩:∃ z:Int,(if c < (b.length:Int) then c else (b.length:Int)) = z:=⟨_,rfl⟩
 simp only [hz]
 have z0:0 ≤ z:=by rw [← hz]; split <;> omega
 have z1:z ≤ (b.length:Int):=by rw [← hz]; split <;> omega
 have z2:z ≤ c:=by rw [← hz]; split <;> omega
 have zt:b.take z.toNat = b.take c.toNat:=by
  rw [← hz]
  split
  ·rfl
  ·rw [List.take_of_length_le (by omega),List.take_of_length_le (by omega)]
 have zl:((b.take c.toNat).length:Int) = z:=by
  rw [← zt,List.length_take]
  omega
 have e1:decide ((0:Int) ≤ z) = true:=decide_eq_true z0
 have e2:decide (z ≤ (b.length:Int)) = true:=decide_eq_true z1
 have e3:i64.wrap (c - z) = c - z:=wr (by omega) (by omega)
 have hc:List.length s.2.2.2.1 + (b.take c.toNat).length ≤ 1073741824:=by omega
 simp only [e1,e2,e3,zt,zl,Bool.and_self,cond_true]
 rw [concatB.d _ _ hc,concatB.v _ _ hc]
 rfl
theorem Y5.d (w:Wire) (b:List Int) (hw:List.length (Wire.sane w).2.2.2.1 ≤ 1000000000):Y5.dom w b = true:=C8 (Y5.ev _ w b hw)
theorem Y5.v (w:Wire) (b:List Int) (hw:List.length (Wire.sane w).2.2.2.1 ≤ 1000000000):Y5.val w b = ((Wire.write w b).1,(Wire.write w b).2,()):=D5 (Y5.ev _ w b hw)
end Pt
end
section
open Go Go.Am
namespace Pt
theorem encZ_len (r:Int):(Go.Lib.encodeRuneZ r).length ≤ 4:=by
 unfold Go.Lib.encodeRuneZ
 split
 ·simp
 ·split
  ·simp
  ·split
   ·simp
   ·split <;> simp
theorem encS_len (r:Int):(encS r).length ≤ 4:=encZ_len _
theorem text_len:∀ l:List Int,(l.flatMap encS).length ≤ 4 * l.length
 | []=>by simp
 | x :: l=>by
  have h1:=encS_len x
  have h2:=text_len l
  simp only [List.flatMap_cons,List.length_append,List.length_cons]
  omega
theorem a45.d (l:List Int) (h:l.length ≤ 1000000):a45.dom l = true:=by
 unfold a45.dom
 exact decide_eq_true (by omega)
theorem a45.len (l:List Int):(ofBytes (a45.val l).1).length ≤ 4 * l.length:=by
 rw [B36]
 show (bytesOf (l.flatMap encS)).size ≤ _
 show (List.map _ (l.flatMap encS)).toArray.size ≤ _
 rw [List.size_toArray,List.length_map]
 exact text_len l
theorem a10.ev (m:Nat) (a b:List Int) (h:a.length + b.length ≤ 1073741824):a10.raw m [a,b] = some (a ++ b,()):=by
 unfold a10.raw
 dsimp only
 rw [concatB.d a b h,concatB.v a b h]
 rfl
theorem Y2.ex (l:List Int) (h:l.length ≤ 32):∃ r,Y2.raw fuel l = some r ∧ List.length r.1 ≤ 4 + 4 * l.length:=by
 have ht:=a45.len l
 obtain ⟨o,ho,hol⟩:=M2.ex ((↑(ofBytes (a45.val l).1).length:Int))
 have hv:M2.dom ((↑(ofBytes (a45.val l).1).length:Int)) = true:=C8 ho
 have hv2:M2.val ((↑(ofBytes (a45.val l).1).length:Int)) = (o,()):=D5 ho
 have hf:=a10.ev fuel o (ofBytes (a45.val l).1) (by omega)
 clear ho
 unfold Y2.raw
 dsimp only
 rw [a45.d l (by omega),hv,hv2,show a10.dom [o,ofBytes (a45.val l).1] = true from C8 hf,show a10.val [o,ofBytes (a45.val l).1] = (o ++ ofBytes (a45.val l).1,()) from D5 hf]
 refine a40 rfl ?_
 cases ((l.length:Int) == 0) with
 | true=>exact ⟨_,rfl,by show 0 ≤ _; omega⟩
 | false =>
  cases decide ((↑(ofBytes (a45.val l).1).length:Int) > (268435455:Int)) with
  | true=>exact ⟨_,rfl,by show 0 ≤ _; omega⟩
  | false=>exact ⟨_,rfl,by show (o ++ ofBytes (a45.val l).1).length ≤ _; rw [List.length_append]; omega⟩
theorem Y2.d (l:List Int) (h:l.length ≤ 32):Y2.dom l = true:=by obtain ⟨r,e,_⟩:=Y2.ex l h; exact C8 e
theorem Y2.len (l:List Int) (h:l.length ≤ 32):List.length (Y2.val l).1 ≤ 4 + 4 * l.length:=by
 obtain ⟨r,e,hl⟩:=Y2.ex l h
 rw [show Y2.val l = r from D5 e]; exact hl
theorem kindLe (k:Int) (h:@LE.le Int _ 0 k ∧ @LE.le Int _ k 14):decide (k ≥ (0:Int)) = true ∧ decide (k ≤ (14:Int)) = true:=⟨decide_eq_true h.1,decide_eq_true h.2⟩
def NextOk (r:Option (Args [X1])):Prop:=∃ q:Args [X1],r = some q ∧ N1.is q.1 = true ∧ q.1.1 = true
theorem nextC {c:Bool} {a b:Option (Args [X1])} (h1:c = true → NextOk a) (h2:c = false → NextOk b):NextOk (bif c then a else b):=by
 cases c
 ·exact h2 rfl
 ·exact h1 rfl
theorem X5.ex (s:ClusS) (x:Int):NextOk (X5.raw fuel s x):=by
 have hr:=Y0.range x
 unfold X5.raw
 dsimp only
 rw [N1.d,Y0.d]
 obtain ⟨k,hk⟩:∃ k:Int,k = (Y0.val x).1:=⟨_,rfl⟩
 rw [← hk] at hr ⊢
 have hl:=kindLe k hr
 refine nextC (fun _=>?_) (fun h=>by cases h)
 refine nextC (fun _=>?_) (fun _=>?_)
 ·refine nextC (fun _=>?_) (fun h=>by cases h)
  refine nextC (fun h=>⟨_,rfl,by simp [N1.is,h],rfl⟩) (fun h1=>?_)
  refine nextC (fun h=>⟨_,rfl,by simp [N1.is,h1,h],rfl⟩) (fun h2=>?_)
  refine nextC (fun h=>⟨_,rfl,by simp [N1.is,h1,h2,h],rfl⟩) (fun h3=>?_)
  refine nextC (fun h=>⟨_,rfl,by simp [N1.is,h1,h2,h3,h],rfl⟩) (fun h4=>⟨_,rfl,?_,rfl⟩)
  simp only [N1.is,h1,h2,h3,h4,hl.1,hl.2,cond_false,cond_true,Bool.not_true,Bool.not_false]
 ·refine nextC (fun _=>?_) (fun h=>by cases h)
  refine nextC (fun h=>⟨_,rfl,by simp [N1.is,h],rfl⟩) (fun h1=>?_)
  refine nextC (fun h=>?_) (fun h2=>?_)
  ·refine nextC (fun _=>⟨_,rfl,by simp [N1.is,h1,h],rfl⟩) (fun _=>⟨_,rfl,by simp [N1.is,h1,h],rfl⟩)
  refine nextC (fun h=>?_) (fun h3=>?_)
  ·refine nextC (fun _=>⟨_,rfl,by simp [N1.is,h1,h2,h],rfl⟩) (fun _=>⟨_,rfl,by simp [N1.is,h1,h2,h],rfl⟩)
  refine nextC (fun h=>⟨_,rfl,by simp [N1.is,h1,h2,h3,h],rfl⟩) (fun h4=>⟨_,rfl,?_,rfl⟩)
  simp only [N1.is,h1,h2,h3,h4,hl.1,hl.2,cond_false,cond_true,Bool.not_true,Bool.not_false]
theorem X5.ok (s:ClusS) (x:Int):N1.is (X5.val s x).1 = true ∧ (X5.val s x).1.1 = true:=by
 obtain ⟨q,e,h⟩:=X5.ex s x
 rw [show X5.val s x = q from D5 e]
 exact h
abbrev SegS:=Ty.den Y1
theorem U7.v (s:SegS):U7.val s = (decide (List.length s.1 ≤ 32) && N1.is s.2.1 && (s.2.1.1 == decide (0 < List.length s.1)),()):=D5 (U7.ev fuel s)
def SegOk (s:SegS):Prop:=(U7.val s).1 = true
theorem SegOk.len {s:SegS} (h:SegOk s):List.length s.1 ≤ 32:=by
 unfold SegOk at h
 rw [U7.v] at h
 simp only [Bool.and_eq_true,decide_eq_true_eq] at h
 exact h.1.1
theorem SegOk.mk {l:List Int} {c:Ty.den X1} (h1:l.length ≤ 32) (h0:0 < l.length) (h2:N1.is c = true) (h3:c.1 = true):SegOk (l,c,()):=by
 unfold SegOk
 rw [U7.v]
 show (decide (l.length ≤ 32) && N1.is c && (c.1 == decide (0 < l.length))) = true
 rw [decide_eq_true h1,h2,h3,decide_eq_true h0]
 rfl
def seg0:SegS:=(nl Int,(false,(0:Int),false,false,()),())
theorem seg0_ok:SegOk seg0:=by
 unfold SegOk
 rw [U7.v]
 rfl
theorem seg_full.small {s:SegS} {x:Int} (h:(S5.val s x).1 = false) (hs:List.length s.1 ≤ 32):List.length s.1 < 32:=by
 by_cases h32:List.length s.1 = 32
 ·have e:S5.raw fuel s x = some (true,()):=by
   unfold S5.raw
   have e1:decide ((↑(List.length s.1):Int) > (0:Int)) = true:=decide_eq_true (by omega)
   have e2:((↑(List.length s.1):Int) == (32:Int)) = true:=beq_iff_eq.2 (by omega)
   rw [e1,e2]
   rfl
  rw [show S5.val s x = _ from D5 e] at h
  cases h
 ·omega
theorem Z3.ex (s:SegS) (x:Int) (hs:SegOk s):∃ r,Z3.raw fuel s x = some r ∧ SegOk r.1 ∧ 1 ≤ List.length r.1.1 ∧ List.length r.2.1 + List.length r.1.1 ≤ List.length s.1 + 1 ∧ List.length r.2.1 ≤ 32:=by
 have hl:=hs.len
 have hn:=X5.ok s.2.1 x
 have h':(U7.val s).1 = true:=hs
 unfold Z3.raw
 dsimp only
 rw [U7.d,h',X5.d s.2.1,seg_full.d,clone.d _ (by omega),clone.v]
 refine a40 rfl (a67 rfl (a40 rfl (a40 rfl ?_)))
 cases hf:(S5.val s x).1 with
 | true =>
  refine ⟨_,rfl,SegOk.mk (by simp) (by simp) hn.1 hn.2,Nat.le_refl _,?_,hl⟩
  show List.length s.1 + 1 ≤ _
  omega
 | false =>
  have hsm:=seg_full.small hf hl
  refine a67 rfl (a40 rfl (a40 (by simp only [Bool.and_eq_true,decide_eq_true_eq,List.length_cons,List.length_nil]; unfold lim; omega) ?_))
  refine ⟨_,rfl,SegOk.mk (by rw [List.length_append]; show List.length s.1 + 1 ≤ 32; omega) (by rw [List.length_append]; show 0 < List.length s.1 + 1; omega) hn.1 hn.2,?_,?_,by show 0 ≤ 32; omega⟩
  ·show 1 ≤ List.length (s.1 ++ [x]); rw [List.length_append]; show 1 ≤ List.length s.1 + 1; omega
  ·show 0 + List.length (s.1 ++ [x]) ≤ _; rw [List.length_append]; show 0 + (List.length s.1 + 1) ≤ _; omega
theorem Z3.d (s:SegS) (x:Int) (hs:SegOk s):Z3.dom s x = true:=by obtain ⟨r,e,_⟩:=Z3.ex s x hs; exact C8 e
theorem Z3.ok (s:SegS) (x:Int) (hs:SegOk s):SegOk (Z3.val s x).1 ∧ 1 ≤ List.length (Z3.val s x).1.1 ∧ List.length (Z3.val s x).2.1 + List.length (Z3.val s x).1.1 ≤ List.length s.1 + 1 ∧ List.length (Z3.val s x).2.1 ≤ 32:=by
 obtain ⟨r,e,h⟩:=Z3.ex s x hs
 rw [show Z3.val s x = r from D5 e]; exact h
theorem a38.ev (m:Nat) (s:SegS) (hs:SegOk s):a38.raw m s = some (s.1,()):=by
 have h':(U7.val s).1 = true:=hs
 unfold a38.raw
 dsimp only
 rw [U7.d,h']
 rfl
theorem a38.v (s:SegS) (hs:SegOk s):a38.val s = (s.1,()):=D5 (a38.ev fuel s hs)
abbrev MachS:=Ty.den B9
structure MachOk (s:MachS):Prop where
 lo:@LE.le Int _ 0 s.1
 hi:@LT.lt Int _ s.1 5
 d:DecOk s.2.1
 n:NormSt s.2.2.1
 g:SegOk s.2.2.2.1
 c:List.length s.2.2.2.2.1 ≤ 32
 cut:(-1:Int) ∉ s.2.2.2.2.1
 d0:s.1 ≠ (0:Int) → s.2.1.1.size = 0
 n0:s.1 ≠ (1:Int) → s.1 ≠ (2:Int) → List.length s.2.2.1.1 = 0
 g0:s.1 ≠ (3:Int) → List.length s.2.2.2.1.1 = 0
 c0:s.1 ≠ (4:Int) → List.length s.2.2.2.2.1 = 0
theorem five_k {k:Int} (h0:0 ≤ k) (h1:k < 5):k = 0 ∨ k = 1 ∨ k = 2 ∨ k = 3 ∨ k = 4:=by omega
theorem MachOk.kind {s:MachS} (h:MachOk s):s.1 = (0:Int) ∨ s.1 = (1:Int) ∨ s.1 = (2:Int) ∨ s.1 = (3:Int) ∨ s.1 = (4:Int):=five_k h.lo h.hi
theorem X7.ev (s:MachS) (h:MachOk s):X7.raw fuel s = some (true,()):=by
 have hd:(T6.val s.2.1).1 = true:=h.d
 have hn:=S8.ev fuel s.2.2.1 h.n.ok
 have hg:(U7.val s.2.2.2.1).1 = true:=h.g
 have hc:List.length s.2.2.2.2.1 ≤ 1073741824:=by have:=h.c; omega
 have hnc:List.contains s.2.2.2.2.1 (-1:Int) = false:=by
  have:=h.cut
  simpa using this
 have e1:decide ((↑(List.length s.2.2.2.2.1):Int) ≤ (32:Int)) = true:=decide_eq_true (by have:=h.c; omega)
 have e2:decide (@LT.lt Int _ s.1 0) = false:=decide_eq_false (Int.not_lt.2 h.lo)
 have e3:decide (@GE.ge Int _ s.1 5) = false:=decide_eq_false (Int.not_le.2 h.hi)
 unfold X7.raw
 dsimp only
 rw [T6.d,hd,show S8.dom s.2.2.1 = true from C8 hn,show S8.val s.2.2.1 = (true,()) from D5 hn,U7.d,hg,e1,w00.d _ _ hc,w00.v _ _ hc,hnc,e2,e3]
 simp only [cond_true,cond_false,Bool.not_true,Bool.not_false,w19]
 have z:∀ {l:List Int},l.length = 0 → ((l.length:Int) == 0) = true:=fun hl=>beq_iff_eq.2 (by omega)
 have zb:∀ {b:ByteArray},b.size = 0 → (b.size == 0) = true:=fun hl=>beq_iff_eq.2 hl
 rcases h.kind with hk | hk | hk | hk | hk
 ·have f1:=z (h.n0 (by rw [hk]; decide) (by rw [hk]; decide))
  have f2:=z (h.g0 (by rw [hk]; decide))
  have f3:=z (h.c0 (by rw [hk]; decide))
  rw [hk,f1,f2,f3]; rfl
 ·have f1:=zb (h.d0 (by rw [hk]; decide))
  have f2:=z (h.g0 (by rw [hk]; decide))
  have f3:=z (h.c0 (by rw [hk]; decide))
  rw [hk,f1,f2,f3]; rfl
 ·have f1:=zb (h.d0 (by rw [hk]; decide))
  have f2:=z (h.g0 (by rw [hk]; decide))
  have f3:=z (h.c0 (by rw [hk]; decide))
  rw [hk,f1,f2,f3]; rfl
 ·have f1:=zb (h.d0 (by rw [hk]; decide))
  have f2:=z (h.n0 (by rw [hk]; decide) (by rw [hk]; decide))
  have f3:=z (h.c0 (by rw [hk]; decide))
  rw [hk,f1,f2,f3]; rfl
 ·have f1:=zb (h.d0 (by rw [hk]; decide))
  have f2:=z (h.n0 (by rw [hk]; decide) (by rw [hk]; decide))
  have f3:=z (h.g0 (by rw [hk]; decide))
  rw [hk,f1,f2,f3]; rfl
theorem X7.d (s:MachS) (h:MachOk s):X7.dom s = true:=C8 (X7.ev s h)
theorem X7.v (s:MachS) (h:MachOk s):X7.val s = (true,()):=D5 (X7.ev s h)
theorem U3.ev (m:Nat) (s:MachS) (h:MachOk s):U3.raw m s = some (s,()):=by
 unfold U3.raw
 dsimp only
 rw [X7.d s h,X7.v s h]
 rfl
theorem U3.d (s:MachS) (h:MachOk s):U3.dom s = true:=C8 (U3.ev fuel s h)
theorem U3.v (s:MachS) (h:MachOk s):U3.val s = (s,()):=D5 (U3.ev fuel s h)
def mach0 (k:Int):MachS:=(k,dec0,(nl Int,()),seg0,nl Int,())
theorem mach0_ok {k:Int} (h0:0 ≤ k) (h1:k < 5):MachOk (mach0 k) :=
 ⟨h0,h1,dec0_ok,NormI.nil,seg0_ok,Nat.zero_le _,List.not_mem_nil,fun _=>rfl,fun _ _=>rfl,fun _=>rfl,fun _=>rfl⟩
theorem R8.ev (m:Nat) (k:Int) (h0:0 ≤ k) (h1:k < 5):R8.raw m k = some (mach0 k,()):=by
 unfold R8.raw
 have e2:decide (k < 0) = false:=decide_eq_false (by omega)
 have e3:decide (k ≥ 5) = false:=decide_eq_false (by omega)
 rw [e2,e3]
 rfl
theorem R8.v (k:Int) (h0:0 ≤ k) (h1:k < 5):R8.val k = (mach0 k,()):=D5 (R8.ev fuel k h0 h1)
end Pt
end
section
open Go Go.Am
open IntKind (i64 u64 u8 i32 u32)
namespace Pt
def wt (s:MachS):Nat:=30 * s.2.1.1.size + psi s.2.2.1.1 [] + 60 * List.length s.2.2.2.1.1 + 120 * List.length s.2.2.2.2.1
def kt (k:Int):Nat:=bif k == 0 then 30 else bif k == 1 then 124 else bif k == 2 then 372 else bif k == 3 then 60 else 120
theorem psi_nil:psi [] [] = 0:=rfl
theorem psi_empty {L:List Int} (h:L.length = 0):psi L [] = 0:=by
 have:L = []:=List.length_eq_zero_iff.1 h
 subst this; rfl
abbrev MR:=Args [B9,.slice (.int .i64)]
def FeedOk (s:MachS) (r:MR):Prop:=MachOk r.1 ∧ @Eq Int r.1.1 s.1 ∧ 30 * List.length r.2.1 + wt r.1 ≤ wt s + kt s.1
theorem decode_ex (s:MachS) (x:Int) (h:MachOk s) (hk:s.1 = (0:Int)):∃ r,S1.raw fuel s x = some r ∧ FeedOk s r:=by
 unfold S1.raw
 dsimp only
 rw [N5.d _ _ h.d]
 have h1:=N5.ok s.2.1 (u8.wrap x) h.d
 have h2:=N5.len s.2.1 (u8.wrap x) h.d
 refine ⟨_,rfl,⟨h.lo,h.hi,h1,h.n,h.g,h.c,h.cut,fun hf=>absurd hk hf,h.n0,h.g0,h.c0⟩,rfl,?_⟩
 have e:kt s.1 = 30:=by rw [hk]; rfl
 rw [e]
 unfold wt
 dsimp only
 omega
theorem norm_ex (s:MachS) (x:Int) (h:MachOk s) (hk:s.1 = (1:Int)):∃ r,U2.raw fuel s x = some r ∧ FeedOk s r:=by
 unfold U2.raw
 dsimp only
 rw [C0.d _ _ h.n]
 have h1:=C0.ok s.2.2.1 x h.n
 have h2:=C0.psi s.2.2.1 x h.n
 have h3:=R0.len x
 have h4:=B49 (C0.val s.2.2.1 x).1.1 (C0.val s.2.2.1 x).2.1 []
 rw [List.append_nil] at h4
 refine ⟨_,rfl,⟨h.lo,h.hi,h.d,h1,h.g,h.c,h.cut,h.d0,fun hf=>absurd hk hf,h.g0,h.c0⟩,rfl,?_⟩
 have e:kt s.1 = 124:=by rw [hk]; rfl
 rw [e]
 unfold wt
 dsimp only
 omega
theorem fold_ex (s:MachS) (x:Int) (h:MachOk s) (hk:s.1 = (2:Int)):∃ r,U1.raw fuel s x = some r ∧ FeedOk s r:=by
 unfold U1.raw
 dsimp only
 rw [E6.d _ _ h.n]
 have h1:=E6.ok s.2.2.1 x h.n
 have h2:=E6.psi s.2.2.1 x h.n
 have h4:=B49 (E6.val s.2.2.1 x).1.1 (E6.val s.2.2.1 x).2.1 []
 rw [List.append_nil] at h4
 refine ⟨_,rfl,⟨h.lo,h.hi,h.d,h1,h.g,h.c,h.cut,h.d0,fun _ hf=>absurd hk hf,h.g0,h.c0⟩,rfl,?_⟩
 have e:kt s.1 = 372:=by rw [hk]; rfl
 rw [e]
 unfold wt
 dsimp only
 omega
theorem a03.d (l:List Int) (h:l.length ≤ 1000000000):a03.dom l = true:=C8 (a03.ev fuel l h)
theorem a03.v (l:List Int) (h:l.length ≤ 1000000000):a03.val l = (cutL l,()):=D5 (a03.ev fuel l h)
theorem cutL_len (l:List Int):(cutL l).length ≤ 2 * l.length:=by
 unfold cutL
 cases l with
 | nil=>exact Nat.le_refl _
 | cons x l =>
  show ((x :: l) ++ [-1]).length ≤ _
  simp only [List.length_append,List.length_cons,List.length_nil]
  omega
theorem cutL_len1 (l:List Int):(cutL l).length ≤ l.length + 1:=by
 unfold cutL
 cases l with
 | nil=>exact Nat.zero_le _
 | cons x l =>
  show ((x :: l) ++ [-1]).length ≤ _
  simp only [List.length_append,List.length_cons,List.length_nil]
  omega
theorem cutL_zero (l:List Int) (h:l.length = 0):(cutL l).length = 0:=by
 have:l = []:=List.length_eq_zero_iff.1 h
 subst this; rfl
theorem segment_ex (s:MachS) (x:Int) (h:MachOk s) (hk:s.1 = (3:Int)):∃ r,R1.raw fuel s x = some r ∧ FeedOk s r:=by
 obtain ⟨h1,h2,h3,h4⟩:=Z3.ok s.2.2.2.1 x h.g
 unfold R1.raw
 dsimp only
 rw [Z3.d _ _ h.g,a03.d _ (by omega),a03.v _ (by omega)]
 refine ⟨_,rfl,⟨h.lo,h.hi,h.d,h.n,h1,h.c,h.cut,h.d0,h.n0,fun hf=>absurd hk hf,h.c0⟩,rfl,?_⟩
 have e:kt s.1 = 60:=by rw [hk]; rfl
 rw [e]
 have h5:=cutL_len1 (Z3.val s.2.2.2.1 x).2.1
 have h6:=cutL_zero (Z3.val s.2.2.2.1 x).2.1
 unfold wt
 dsimp only
 by_cases h0:List.length (Z3.val s.2.2.2.1 x).2.1 = 0
 ·have:=h6 h0
  omega
 ·omega
theorem framer_l (K0:MachS → MachS → List Int → Option MR) (v4:List Int) (hv:v4.length ≤ 1000) (a b:MachS) :
  ∀ (r:List Int) (i m:Nat) (v:List Int),v4.drop i = r → i ≤ v4.length → v.length + r.length ≤ 1000000 → r.length < m →
   ∃ o,D6.l0 K0 m v4 (v4.length:Int) i a b v = K0 a b o ∧ o.length = v.length + r.length:=by
 intro r
 induction r with
 | nil =>
  intro i m v hd hi hB hm
  obtain ⟨m,rfl⟩:∃ k,m = k + 1:=⟨m - 1,by omega⟩
  have:=a69 hd hi
  have e1:decide ((i:Int) < (v4.length:Int)) = false:=decide_eq_false (by omega)
  exact ⟨v,by simp only [D6.l0,e1,cond_false],by simp⟩
 | cons d r ih =>
  intro i m v hd hi hB hm
  obtain ⟨m,rfl⟩:∃ k,m = k + 1:=⟨m - 1,by omega⟩
  obtain ⟨hlt,hg,hr⟩:=a60 hd (0:Int)
  have hto:Int.toNat (i:Int) = i:=Int.toNat_natCast i
  have e1:decide ((i:Int) < (v4.length:Int)) = true:=decide_eq_true (by omega)
  have e2:decide ((0:Int) ≤ (i:Int)) = true:=decide_eq_true (by omega)
  have e6:i64.wrap ((i:Int) + 1) = ((i + 1:Nat):Int):=by rw [wr (by omega) (by omega)]; omega
  simp only [List.length_cons] at hB hm
  have e3:decide ((v.length + [i64.wrap d].length) * 8 ≤ 140737488355328) = true:=decide_eq_true (by simp; omega)
  have e4:decide (v.length + [i64.wrap d].length ≤ lim) = true:=decide_eq_true (by unfold lim; simp; omega)
  obtain ⟨o,h1,h2⟩:=ih (i + 1) m (v ++ [i64.wrap d]) hr (by omega) (by simp; omega) (by omega)
  refine ⟨o,?_,by rw [h2]; simp; omega⟩
  simp only [D6.l0,hto,hg,e1,e2,e3,e4,e6,cond_true,Bool.and_self]
  exact h1
theorem framer_ex (s:MachS) (x:Int) (h:MachOk s) (hk:s.1 = (4:Int)):∃ r,D6.raw fuel s x = some r ∧ FeedOk s r:=by
 have e:kt s.1 = 120:=by rw [hk]; rfl
 have hc:=h.c
 by_cases hx:x = -1
 ·have hp:=Y2.len s.2.2.2.2.1 hc
  have hd:=Y2.d s.2.2.2.2.1 hc
  have hF:2000 < fuel:=a26 (by omega)
  have hxb:(x != (-1:Int)) = false:=by rw [hx]; rfl
  generalize fuel = F at *
  unfold D6.raw
  refine a67 hxb ?_
  dsimp only
  refine a40 hd ?_
  obtain ⟨o,h1,h2⟩:=framer_l (fun o11 o12 o13=>some (((o11.1,o11.2.1,o11.2.2.1,o11.2.2.2.1,nl (Ty.int i64).den,()),o13,()))) (Y2.val s.2.2.2.2.1).1 (by omega) s (((0:Int),(ByteArray.mk (nl UInt8).toArray,()),(nl (Ty.int i64).den,()),(nl (Ty.int i64).den,(false,(0:Int),false,false,()),()),nl (Ty.int i64).den,())) (Y2.val s.2.2.2.2.1).1 0 F (nl (Ty.int i64).den) rfl (by omega) (by show 0 + _ ≤ _; omega) (by omega)
  have h2':o.length = 0 + List.length (Y2.val s.2.2.2.2.1).1:=h2
  refine ⟨_,h1,⟨h.lo,h.hi,h.d,h.n,h.g,Nat.zero_le _,List.not_mem_nil,h.d0,h.n0,h.g0,fun _=>rfl⟩,rfl,?_⟩
  rw [e]
  unfold wt
  have hz:List.length (nl (Ty.int i64).den) = 0:=rfl
  dsimp only
  rw [hz]
  omega
 ·have hxb:(x != (-1:Int)) = true:=by simp [hx]
  unfold D6.raw
  refine a40 hxb ?_
  dsimp only
  rw [clone.d _ (by omega),clone.v]
  by_cases h32:List.length s.2.2.2.2.1 < 32
  ·refine a40 (decide_eq_true (by omega)) (a40 rfl (a40 ?_ ?_))
   ·simp only [Bool.and_eq_true,decide_eq_true_eq,List.length_cons,List.length_nil]; unfold lim; omega
   ·refine ⟨_,rfl,⟨h.lo,h.hi,h.d,h.n,h.g,?_,?_,h.d0,h.n0,h.g0,fun hf=>absurd hk hf⟩,rfl,?_⟩
    ·show List.length (s.2.2.2.2.1 ++ [x]) ≤ 32
     rw [List.length_append]; show List.length s.2.2.2.2.1 + 1 ≤ 32; omega
    ·show (-1:Int) ∉ s.2.2.2.2.1 ++ [x]
     intro hm
     rcases List.mem_append.1 hm with hm | hm
     ·exact h.cut hm
     ·exact hx (List.mem_singleton.1 hm).symm
    ·rw [e]
     unfold wt
     have hz:List.length (nl (Ty.int i64).den) = 0:=rfl
     have hl:List.length (s.2.2.2.2.1 ++ [x]) = List.length s.2.2.2.2.1 + 1:=by rw [List.length_append]; rfl
     dsimp only
     rw [hz,hl]
     omega
  ·refine a67 (decide_eq_false (by omega)) ⟨_,rfl,h,rfl,?_⟩
   rw [e]
   have hz:List.length (nl (Ty.int i64).den) = 0:=rfl
   dsimp only
   rw [hz]
   omega
theorem ran {x:MachS → Int → Option MR} {s:MachS} {y:Int} {d:Bool} {v:MR} (hd:d = (x s y).isSome) (hv:v = (x s y).getD (dfltA [B9,(.slice (.int .i64))])) (h:∃ r,x s y = some r ∧ FeedOk s r):d = true ∧ FeedOk s v:=by
 obtain ⟨r,e,h⟩:=h
 exact ⟨by rw [hd,e]; rfl,by rw [hv,e]; exact h⟩
theorem T3.ex (s:MachS) (x:Int) (h:MachOk s):∃ r,T3.raw fuel s x = some r ∧ FeedOk s r:=by
 unfold T3.raw
 dsimp only
 rw [U3.d s h,U3.v s h]
 dsimp only
 rcases h.kind with hk | hk | hk | hk | hk
 ·obtain ⟨h1,h2⟩:=ran rfl rfl (decode_ex s x h hk)
  have h1':S1.dom s x = true:=h1
  rw [hk,h1']
  exact ⟨_,rfl,h2⟩
 ·obtain ⟨h1,h2⟩:=ran rfl rfl (norm_ex s x h hk)
  have h1':U2.dom s x = true:=h1
  rw [hk,h1']
  exact ⟨_,rfl,h2⟩
 ·obtain ⟨h1,h2⟩:=ran rfl rfl (fold_ex s x h hk)
  have h1':U1.dom s x = true:=h1
  rw [hk,h1']
  exact ⟨_,rfl,h2⟩
 ·obtain ⟨h1,h2⟩:=ran rfl rfl (segment_ex s x h hk)
  have h1':R1.dom s x = true:=h1
  rw [hk,h1']
  exact ⟨_,rfl,h2⟩
 ·obtain ⟨h1,h2⟩:=ran rfl rfl (framer_ex s x h hk)
  have h1':D6.dom s x = true:=h1
  rw [hk,h1']
  exact ⟨_,rfl,h2⟩
theorem T3.d (s:MachS) (x:Int) (h:MachOk s):T3.dom s x = true:=by obtain ⟨r,e,_⟩:=T3.ex s x h; exact C8 e
theorem T3.ok (s:MachS) (x:Int) (h:MachOk s):FeedOk s (T3.val s x):=by
 obtain ⟨r,e,h1⟩:=T3.ex s x h
 rw [show T3.val s x = r from D5 e]; exact h1
theorem X3.ex (s:MachS) (h:MachOk s):∃ r,X3.raw fuel s = some r ∧ r.1 = mach0 s.1 ∧ 30 * List.length r.2.1 ≤ wt s:=by
 have hnew:=R8.v s.1 h.lo h.hi
 have hnd:=R8.d s.1
 have hlen:=h.n.ok.len
 unfold X3.raw
 dsimp only
 rw [U3.d s h,U3.v s h]
 dsimp only
 rw [hnew,hnd]
 refine a40 rfl ?_
 have norm:30 * List.length (a30.val s.2.2.1).1 ≤ wt s ∧ a30.dom s.2.2.1 = true:=by
  have e:=a30.ev fuel s.2.2.1 h.n.ok
  refine ⟨?_,C8 e⟩
  rw [show a30.val s.2.2.1 = _ from D5 e]
  have:=C4.len s.2.2.1.1 (by omega)
  have hp:psi s.2.2.1.1 [] = 30 * 0 + 30 * List.length s.2.2.1.1 + marksN s.2.2.1.1:=rfl
  unfold wt
  omega
 rcases h.kind with hk | hk | hk | hk | hk
 ·refine a40 (by rw [hk]; rfl) ?_
  rw [a43.d _ h.d,a43.v _ h.d]
  refine ⟨_,rfl,rfl,?_⟩
  unfold wt
  by_cases h0:s.2.1.1.size = 0
  ·have e:(ByteArray.size s.2.1.1 == 0) = true:=beq_iff_eq.2 h0
   dsimp only
   rw [e]
   exact Nat.zero_le _
  ·have e:(ByteArray.size s.2.1.1 == 0) = false:=beq_eq_false_iff_ne.2 h0
   dsimp only
   rw [e]
   show 30 * 1 ≤ _
   omega
 ·refine a67 (by rw [hk]; rfl) (a40 (by rw [hk]; rfl) ?_)
  rw [norm.2]
  exact ⟨_,rfl,rfl,norm.1⟩
 ·refine a67 (by rw [hk]; rfl) (a67 (by rw [hk]; rfl) (a40 (by rw [hk]; rfl) ?_))
  rw [norm.2]
  exact ⟨_,rfl,rfl,norm.1⟩
 ·refine a67 (by rw [hk]; rfl) (a67 (by rw [hk]; rfl) (a67 (by rw [hk]; rfl) (a40 (by rw [hk]; rfl) ?_)))
  have hl:=h.g.len
  rw [a38.d,a38.v _ h.g,a03.d _ (by show List.length s.2.2.2.1.1 ≤ _; omega),a03.v _ (by show List.length s.2.2.2.1.1 ≤ _; omega)]
  refine ⟨_,rfl,rfl,?_⟩
  have:=cutL_len s.2.2.2.1.1
  unfold wt
  dsimp only
  omega
 ·refine a67 (by rw [hk]; rfl) (a67 (by rw [hk]; rfl) (a67 (by rw [hk]; rfl) (a67 (by rw [hk]; rfl) ?_)))
  exact ⟨_,rfl,rfl,Nat.zero_le _⟩
theorem X3.d (s:MachS) (h:MachOk s):X3.dom s = true:=by obtain ⟨r,e,_⟩:=X3.ex s h; exact C8 e
theorem X3.ok (s:MachS) (h:MachOk s):(X3.val s).1 = mach0 s.1 ∧ 30 * List.length (X3.val s).2.1 ≤ wt s:=by
 obtain ⟨r,e,h1⟩:=X3.ex s h
 rw [show X3.val s = r from D5 e]; exact h1
def costN (s:MachS):Nat:=s.2.1.1.size + List.length s.2.2.1.1 + List.length s.2.2.2.1.1 + List.length s.2.2.2.2.1
theorem cost_le (s:MachS) (h:MachOk s):costN s ≤ 32:=by
 have h1:=h.d.len
 have h2:=h.n.ok.len
 have h3:=h.g.len
 have h4:=h.c
 unfold costN
 rcases h.kind with hk | hk | hk | hk | hk
 ·have:=h.n0 (by rw [hk]; decide) (by rw [hk]; decide); have:=h.g0 (by rw [hk]; decide); have:=h.c0 (by rw [hk]; decide); omega
 ·have:=h.d0 (by rw [hk]; decide); have:=h.g0 (by rw [hk]; decide); have:=h.c0 (by rw [hk]; decide); omega
 ·have:=h.d0 (by rw [hk]; decide); have:=h.g0 (by rw [hk]; decide); have:=h.c0 (by rw [hk]; decide); omega
 ·have:=h.d0 (by rw [hk]; decide); have:=h.n0 (by rw [hk]; decide) (by rw [hk]; decide); have:=h.c0 (by rw [hk]; decide); omega
 ·have:=h.d0 (by rw [hk]; decide); have:=h.n0 (by rw [hk]; decide) (by rw [hk]; decide); have:=h.g0 (by rw [hk]; decide); omega
theorem V7.ev (m:Nat) (s:MachS) (h:MachOk s):V7.raw m s = some ((costN s:Int),()):=by
 have hc:=cost_le s h
 unfold costN at hc
 unfold V7.raw
 dsimp only
 rw [U3.d s h,U3.v s h]
 dsimp only
 have e1:i64.wrap (((ByteArray.size s.2.1.1:Nat):Int) + ((List.length s.2.2.1.1:Nat):Int)) = ((ByteArray.size s.2.1.1 + List.length s.2.2.1.1:Nat):Int):=by rw [wr (by omega) (by omega)]; omega
 have e2:i64.wrap (((ByteArray.size s.2.1.1 + List.length s.2.2.1.1:Nat):Int) + ((List.length s.2.2.2.1.1:Nat):Int)) = ((ByteArray.size s.2.1.1 + List.length s.2.2.1.1 + List.length s.2.2.2.1.1:Nat):Int):=by rw [wr (by omega) (by omega)]; omega
 have e3:i64.wrap (((ByteArray.size s.2.1.1 + List.length s.2.2.1.1 + List.length s.2.2.2.1.1:Nat):Int) + ((List.length s.2.2.2.2.1:Nat):Int)) = ((costN s:Nat):Int):=by unfold costN; rw [wr (by omega) (by omega)]; omega
 rw [e1,e2,e3]
 rfl
theorem V7.d (s:MachS) (h:MachOk s):V7.dom s = true:=C8 (V7.ev fuel s h)
theorem V7.v (s:MachS) (h:MachOk s):V7.val s = ((costN s:Int),()):=D5 (V7.ev fuel s h)
theorem mach0_cost (k:Int):costN (mach0 k) = 0:=rfl
theorem mach0_wt (k:Int):wt (mach0 k) = 0:=rfl
theorem wt_le (s:MachS) (h:MachOk s):wt s ≤ 3840:=by
 have h1:=h.d.len
 have h2:=h.n.ok.len
 have h3:=h.g.len
 have h4:=h.c
 have h5:=w89 s.2.2.1.1
 have hp:psi s.2.2.1.1 [] = 30 * 0 + 30 * List.length s.2.2.1.1 + marksN s.2.2.1.1:=rfl
 unfold wt
 rcases h.kind with hk | hk | hk | hk | hk
 ·have:=h.n0 (by rw [hk]; decide) (by rw [hk]; decide); have:=h.g0 (by rw [hk]; decide); have:=h.c0 (by rw [hk]; decide); omega
 ·have:=h.d0 (by rw [hk]; decide); have:=h.g0 (by rw [hk]; decide); have:=h.c0 (by rw [hk]; decide); omega
 ·have:=h.d0 (by rw [hk]; decide); have:=h.g0 (by rw [hk]; decide); have:=h.c0 (by rw [hk]; decide); omega
 ·have:=h.d0 (by rw [hk]; decide); have:=h.n0 (by rw [hk]; decide) (by rw [hk]; decide); have:=h.c0 (by rw [hk]; decide); omega
 ·have:=h.d0 (by rw [hk]; decide); have:=h.n0 (by rw [hk]; decide) (by rw [hk]; decide); have:=h.g0 (by rw [hk]; decide); omega
abbrev Chan:=Ty.den B8
def fitsS (b:List Int):Bool:=decide (0 < b.length) && decide (b.length ≤ 8)
def Chan.ok (c:Chan):Bool:=decide (List.length c.1 ≤ 2) && c.1.all fitsS
def Chan.sane (c:Chan):Chan:=bif Chan.ok c then c else ([],false,())
theorem X2.ev (m:Nat) (b:List Int):X2.raw m b = some (fitsS b,()):=by
 unfold X2.raw fitsS
 by_cases h:0 < b.length
 ·simp [h]
  omega
 ·simp [h]
theorem X2.d (b:List Int):X2.dom b = true:=C8 (X2.ev _ b)
theorem X2.v (b:List Int):X2.val b = (fitsS b,()):=D5 (X2.ev _ b)
theorem S6.ev (m:Nat) (b:List Int):S6.raw m b = some (!fitsS b,()):=by
 unfold S6.raw
 simp [X2.d,X2.v]
theorem S6.d (b:List Int):S6.dom b = true:=C8 (S6.ev _ b)
theorem S6.v (b:List Int):S6.val b = (!fitsS b,()):=D5 (S6.ev _ b)
theorem findI_loop (K0:Int → Option (Args [.int .i64])) (K1:Option (Args [.int .i64])) (xs:List (List Int)) (hx:xs.length ≤ 1099511627776) :
  ∀ (r:List (List Int)) (i:Nat),xs.drop i = r → i ≤ xs.length → ∀ m,r.length < m →
  B5.l0 K0 K1 m xs (some 163) xs.length i = (match r.findIdx? (fun b=>!fitsS b) with | some j=>K0 ((i + j:Nat):Int) | none=>K1):=by
 intro r
 induction r with
 | nil =>
  intro i hd hi m hm
  obtain ⟨m,rfl⟩:∃ k,m = k + 1:=⟨m - 1,by simp at hm; omega⟩
  have:i = xs.length:=by
   have:=congrArg List.length hd
   simp at this
   omega
  subst this
  simp [B5.l0]
 | cons x r ih =>
  intro i hd hi m hm
  obtain ⟨m,rfl⟩:∃ k,m = k + 1:=⟨m - 1,by simp at hm; omega⟩
  have hlt:i < xs.length:=by
   have:=congrArg List.length hd
   simp at this
   omega
  have hc:=List.drop_eq_getElem_cons hlt
  rw [hd] at hc
  obtain ⟨hx1,hr⟩:=List.cons.inj hc
  have e:i64.wrap ((i:Int) + 1) = ((i + 1:Nat):Int):=by rw [wr (by omega) (by omega)]; omega
  have:=ih (i + 1) hr.symm hlt m (by simp at hm; omega)
  simp only [B5.l0]
  simp [hlt,w04 hlt,← hx1,S6.d,S6.v,e,this,List.findIdx?_cons]
  cases h:fitsS x
  ·simp
  ·simp
   rw [show (i:Int) + 1 = ((i + 1:Nat):Int) from by omega,this]
   cases List.findIdx? (fun b=>!fitsS b) r with
   | none=>rfl
   | some j=>simp; congr 1; omega
theorem C99.ev (m:Nat) (xs:List (List Int)) (hx:xs.length ≤ 1099511627776) (hm:xs.length < m) :
  B5.raw m xs (some 163) = some ((match xs.findIdx? (fun b=>!fitsS b) with | some j=>(j:Int) | none=>-1),()):=by
 unfold B5.raw
 have:=findI_loop (fun o7=>some (o7,())) (some (-1,())) xs hx xs 0 rfl (Nat.zero_le _) m hm
 rw [show ((0:Nat):Int) = 0 from rfl] at this
 simp only [Nat.zero_add] at this
 rw [this]
 cases xs.findIdx? (fun b=>!fitsS b) <;> rfl
theorem C20.ev (m:Nat) (xs:List (List Int)) (hx:xs.length ≤ 1073741824) :
  E1.raw m xs (some 163) = some (!xs.all fitsS,()):=by
 unfold E1.raw
 have h:=C99.ev fuel xs (by omega) (a26 (by omega))
 rw [show B5.dom xs (some 163) = true from C8 h,show B5.val xs (some 163) = _ from D5 h]
 have hall:xs.all fitsS = (xs.findIdx? (fun b=>!fitsS b)).isNone:=by
  rw [Bool.eq_iff_iff]
  simp [List.findIdx?_eq_none_iff]
 rw [hall]
 cases xs.findIdx? (fun b=>!fitsS b) with
 | none=>rfl
 | some j=>simp
theorem U4.ev (m:Nat) (c:Chan):U4.raw m c = some (Chan.ok c,()):=by
 unfold U4.raw Chan.ok
 by_cases h:List.length c.1 ≤ 2
 ·have h':(List.length c.1:Int) ≤ 2:=by omega
  have k:=C20.ev fuel c.1 (by omega)
  rw [show E1.dom c.1 (some 163) = true from C8 k,show E1.val c.1 (some 163) = _ from D5 k]
  simp [h,h']
 ·have h':¬ (List.length c.1:Int) ≤ 2:=by omega
  simp [h,h']
theorem U4.d (c:Chan):U4.dom c = true:=C8 (U4.ev _ c)
theorem U4.v (c:Chan):U4.val c = (Chan.ok c,()):=D5 (U4.ev _ c)
theorem O6.ev (m:Nat) (c:Chan):O6.raw m c = some (Chan.sane c,()):=by
 unfold O6.raw Chan.sane
 simp only [U4.d,U4.v]
 cases Chan.ok c <;> rfl
theorem O6.d (c:Chan):O6.dom c = true:=C8 (O6.ev _ c)
theorem O6.v (c:Chan):O6.val c = (Chan.sane c,()):=D5 (O6.ev _ c)
theorem Chan.sane_ok (c:Chan):Chan.ok (Chan.sane c) = true:=by
 unfold Chan.sane
 cases h:Chan.ok c
 ·rfl
 ·exact h
theorem Chan.sane_len (c:Chan):List.length (Chan.sane c).1 ≤ 2:=by
 have:=Chan.sane_ok c
 unfold Chan.ok at this
 simp only [Bool.and_eq_true,decide_eq_true_eq] at this
 exact this.1
theorem Chan.sane_of {c:Chan} (h:Chan.ok c = true):Chan.sane c = c:=by unfold Chan.sane; rw [h]; rfl
def Chan.put (c:Chan) (b:List Int):Chan × Bool :=
 bif (Chan.sane c).2.1 || (List.length (Chan.sane c).1 == 2) || !fitsS b then (Chan.sane c,false) else (((Chan.sane c).1 ++ [b],(Chan.sane c).2),true)
theorem X6.ev (m:Nat) (c:Chan) (b:List Int):X6.raw m c b = some ((Chan.put c b).1,(Chan.put c b).2,()):=by
 unfold X6.raw Chan.put
 simp only [O6.d,O6.v,cond_true,X2.d,X2.v]
 have hl:=Chan.sane_len c
 generalize Chan.sane c = s at *
 cases h1:s.2.1
 ·by_cases h2:List.length s.1 = 2
  ·simp [h1,h2]
  ·cases h3:fitsS b
   ·simp [h1,h2,h3]
   ·have hb:List.length b ≤ 8:=by unfold fitsS at h3; simp at h3; exact h3.2
    have hd:C1.dom b = true:=by unfold C1.dom; exact decide_eq_true (by omega)
    have hv:C1.val b = (b,()):=rfl
    have e1:((List.length s.1:Int) == 2) = false:=beq_eq_false_iff_ne.mpr (by omega)
    have e2:(List.length s.1 == 2) = false:=beq_eq_false_iff_ne.mpr h2
    have e3:List.length s.1 + 1 ≤ lim:=by unfold lim; omega
    have e4:(List.length s.1 + 1) * 24 ≤ 140737488355328:=by omega
    simp [h1,h3,hd,hv,e1,e2,e3,e4]
 ·simp [h1]
theorem X6.d (c:Chan) (b:List Int):X6.dom c b = true:=C8 (X6.ev _ c b)
theorem X6.v (c:Chan) (b:List Int):X6.val c b = ((Chan.put c b).1,(Chan.put c b).2,()):=D5 (X6.ev _ c b)
def Chan.take (c:Chan):Chan × List Int × Bool :=
 match (Chan.sane c).1 with
 | []=>(Chan.sane c,[],false)
 | b :: l=>((l,(Chan.sane c).2),b,true)
theorem U5.ev (m:Nat) (c:Chan):U5.raw m c = some ((Chan.take c).1,(Chan.take c).2.1,(Chan.take c).2.2,()):=by
 unfold U5.raw Chan.take
 simp only [O6.d,O6.v,cond_true]
 generalize Chan.sane c = s
 obtain ⟨l,s⟩:=s
 cases l with
 | nil=>rfl
 | cons b l =>
  have e1:((List.length l:Int) + 1 == 0) = false:=beq_eq_false_iff_ne.mpr (by omega)
  have e2:(1:Int) ≤ (List.length l:Int) + 1:=by omega
  simp [e1,e2]
theorem U5.d (c:Chan):U5.dom c = true:=C8 (U5.ev _ c)
theorem U5.v (c:Chan):U5.val c = ((Chan.take c).1,(Chan.take c).2.1,(Chan.take c).2.2,()):=D5 (U5.ev _ c)
def Chan.close (c:Chan):Chan:=((Chan.sane c).1,true,())
theorem E9.ev (m:Nat) (c:Chan):E9.raw m c = some (Chan.close c,()):=by
 unfold E9.raw Chan.close
 simp only [O6.d,O6.v,cond_true]
theorem E9.d (c:Chan):E9.dom c = true:=C8 (E9.ev _ c)
theorem E9.v (c:Chan):E9.val c = (Chan.close c,()):=D5 (E9.ev _ c)
end Pt
end
section
open Go Go.Am
namespace Pt
abbrev StageS:=Ty.den L3
def ChanOk (c:Chan):Prop:=Chan.ok c = true
theorem ChanOk.len {c:Chan} (h:ChanOk c):List.length c.1 ≤ 2:=by
 unfold ChanOk Chan.ok at h
 simp only [Bool.and_eq_true,decide_eq_true_eq] at h
 exact h.1
theorem ChanOk.fits {c:Chan} (h:ChanOk c) (b:List Int) (hb:b ∈ c.1):0 < b.length ∧ b.length ≤ 8:=by
 unfold ChanOk Chan.ok at h
 simp only [Bool.and_eq_true,decide_eq_true_eq] at h
 have:=List.all_eq_true.1 h.2 b hb
 unfold fitsS at this
 simpa using this
structure StageOk (s:StageS):Prop where
 m:MachOk s.1
 p:List.length s.2.1 ≤ 256
 shut:s.2.2.2.1 = true → s.2.2.1 = true ∧ List.length s.2.1 = 0
 ended:s.2.2.1 = true → s.1 = mach0 s.1.1
theorem Y7.ev (m:Nat) (s:StageS) (h:StageOk s):Y7.raw m s = some (true,()):=by
 have hp:=h.p
 unfold Y7.raw
 dsimp only
 rw [X7.d _ h.m,X7.v _ h.m,V7.d _ h.m,V7.v _ h.m]
 have e1:decide ((↑(List.length s.2.1):Int) > (256:Int)) = false:=decide_eq_false (by omega)
 dsimp only
 rw [e1]
 cases hs:s.2.2.2.1 with
 | true =>
  have h1:=h.shut hs
  have e2:decide ((↑(List.length s.2.1):Int) > (0:Int)) = false:=decide_eq_false (by omega)
  have e3:costN s.1 = 0:=by rw [h.ended h1.1]; rfl
  rw [h1.1,e2,e3]
  rfl
 | false =>
  cases he:s.2.2.1 with
  | true =>
   have e3:costN s.1 = 0:=by rw [h.ended he]; rfl
   rw [e3]
   rfl
  | false=>rfl
theorem Y7.d (s:StageS) (h:StageOk s):Y7.dom s = true:=C8 (Y7.ev fuel s h)
theorem Y7.v (s:StageS) (h:StageOk s):Y7.val s = (true,()):=D5 (Y7.ev fuel s h)
theorem U6.ev (m:Nat) (s:StageS) (h:StageOk s):U6.raw m s = some (s,()):=by
 unfold U6.raw
 dsimp only
 rw [Y7.d s h,Y7.v s h]
 rfl
theorem U6.d (s:StageS) (h:StageOk s):U6.dom s = true:=C8 (U6.ev fuel s h)
theorem U6.v (s:StageS) (h:StageOk s):U6.val s = (s,()):=D5 (U6.ev fuel s h)
theorem U9.ev (m:Nat) (c:Chan) (h:ChanOk c):U9.raw m c = some (c,()):=by
 unfold U9.raw
 dsimp only
 rw [U4.d,U4.v,show Chan.ok c = true from h]
 rfl
theorem U9.d (c:Chan) (h:ChanOk c):U9.dom c = true:=C8 (U9.ev fuel c h)
theorem U9.v (c:Chan) (h:ChanOk c):U9.val c = (c,()):=D5 (U9.ev fuel c h)
def feedL:MachS → List Int → MachS × List Int
 | s,[]=>(s,[])
 | s,x :: l=>((feedL (T3.val s x).1 l).1,(T3.val s x).2.1 ++ (feedL (T3.val s x).1 l).2)
theorem feedL_ok:∀ (l:List Int) (s:MachS),MachOk s → MachOk (feedL s l).1 ∧ @Eq Int (feedL s l).1.1 s.1 ∧ 30 * (feedL s l).2.length + wt (feedL s l).1 ≤ wt s + kt s.1 * l.length
 | [],s,h=>⟨h,rfl,by show 30 * 0 + wt s ≤ wt s + _; omega⟩
 | x :: l,s,h=>by
  obtain ⟨h1,h2,h3⟩:=T3.ok s x h
  obtain ⟨g1,g2,g3⟩:=feedL_ok l _ h1
  refine ⟨g1,g2.trans h2,?_⟩
  show 30 * ((T3.val s x).2.1 ++ (feedL (T3.val s x).1 l).2).length + wt (feedL (T3.val s x).1 l).1 ≤ _
  rw [h2] at g3
  rw [List.length_append,List.length_cons,Nat.mul_succ]
  omega
theorem kt_le (k:Int):kt k ≤ 372:=by
 unfold kt
 cases k == 0
 ·cases k == 1
  ·cases k == 2
   ·cases k == 3
    ·exact (by decide:120 ≤ 372)
    ·exact (by decide:60 ≤ 372)
   ·exact (by decide:372 ≤ 372)
  ·exact (by decide:124 ≤ 372)
 ·exact (by decide:30 ≤ 372)
theorem feedL_len (l:List Int) (s:MachS) (h:MachOk s) (hl:l.length ≤ 8):(feedL s l).2.length ≤ 256:=by
 have h1:=(feedL_ok l s h).2.2
 have h2:=wt_le s h
 have h3:kt s.1 * l.length ≤ 372 * 8:=Nat.mul_le_mul (kt_le _) hl
 omega
def stepS (s:StageS) (i o:Chan):StageS × Chan × Chan × Bool :=
 bif s.2.2.2.1 then (s,i,o,false) else
 bif decide (0 < List.length s.2.1) then
  (bif (Chan.put o (List.take 8 s.2.1)).2 then ((s.1,List.drop 8 s.2.1,s.2.2),i,(Chan.put o (List.take 8 s.2.1)).1,true) else (s,i,o,false)) else
 bif s.2.2.1 then ((s.1,s.2.1,s.2.2.1,true,()),i,Chan.close o,true) else
 bif decide (0 < List.length i.1) then (((feedL s.1 (Chan.take i).2.1).1,(feedL s.1 (Chan.take i).2.1).2,s.2.2),(Chan.take i).1,o,true) else
 bif i.2.1 then (((X3.val s.1).1,(X3.val s.1).2.1,true,s.2.2.2),i,o,true) else (s,i,o,false)
end Pt
end
end
