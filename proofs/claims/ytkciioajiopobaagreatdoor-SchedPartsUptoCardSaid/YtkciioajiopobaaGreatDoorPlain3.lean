/- Plain laws of what the functions compute. Conditions: none beyond the statement's own. -/
import Derived.Test.YtkciioajiopobaaGreatDoorWalks1
import Derived.Test.YtkciioajiopobaaGreatDoorWalks6
import Derived.Test.YtkciioajiopobaaGreatDoorWalks7
import Derived.Test.YtkciioajiopobaaGreatDoorWalks8
import Derived.Test.YtkciioajiopobaaGreatDoorPlain1
import Derived.Test.YtkciioajiopobaaGreatDoorPlain2
set_option linter.all false
noncomputable section
section
open Go Go.Am
open IntKind (i64 u64 u8 i32 u32)
namespace Pt
abbrev SR:=Option (Args [L3,B8,B8,.bool])
theorem stage_l (K0:StageS → Chan → Chan → Int → ByteArray → Bool → Int → Bool → Bool → Bool → Bool → Bool → Bool → Int → ByteArray → List Int → List Int → Bool → Int → Bool → Bool → List Int → Bool → Bool → List (List Int) → Bool → List (List Int) → Bool → List Int → SR)
  (b:List Int) (hb:b.length ≤ 1000) (x0:StageS) (x1 x2:Chan) (c16:Int) (c17:ByteArray) (c18:Bool) (c19:Int) (c20 c21 c22 c23 c24 c25:Bool) (e s:Bool) (l1:List (List Int)) (d1:Bool) (l2:List (List Int)) (d2:Bool) :
  ∀ (r:List Int) (i m:Nat) (M:MachS) (v:List Int),b.drop i = r → i ≤ b.length → MachOk M → v.length + 200 * r.length ≤ 1000000 → r.length < m →
   E0.l0 K0 m b (b.length:Int) i x0 x1 x2 c16 c17 c18 c19 c20 c21 c22 c23 c24 c25 M.1 M.2.1.1 M.2.2.1.1 M.2.2.2.1.1 M.2.2.2.1.2.1.1 M.2.2.2.1.2.1.2.1 M.2.2.2.1.2.1.2.2.1 M.2.2.2.1.2.1.2.2.2.1 M.2.2.2.2.1 e s l1 d1 l2 d2 v =
   K0 x0 x1 x2 c16 c17 c18 c19 c20 c21 c22 c23 c24 c25 (feedL M r).1.1 (feedL M r).1.2.1.1 (feedL M r).1.2.2.1.1 (feedL M r).1.2.2.2.1.1 (feedL M r).1.2.2.2.1.2.1.1 (feedL M r).1.2.2.2.1.2.1.2.1 (feedL M r).1.2.2.2.1.2.1.2.2.1 (feedL M r).1.2.2.2.1.2.1.2.2.2.1 (feedL M r).1.2.2.2.2.1 e s l1 d1 l2 d2 (v ++ (feedL M r).2):=by
 intro r
 induction r with
 | nil =>
  intro i m M v hd hi hM hB hm
  obtain ⟨m,rfl⟩:∃ k,m = k + 1:=⟨m - 1,by omega⟩
  have:=a69 hd hi
  have e1:decide ((i:Int) < (b.length:Int)) = false:=decide_eq_false (by omega)
  simp only [E0.l0,e1,cond_false,feedL,List.append_nil]
 | cons d r ih =>
  intro i m M v hd hi hM hB hm
  obtain ⟨m,rfl⟩:∃ k,m = k + 1:=⟨m - 1,by omega⟩
  obtain ⟨hlt,hg,hr⟩:=a60 hd (0:Int)
  have hto:Int.toNat (i:Int) = i:=Int.toNat_natCast i
  have e1:decide ((i:Int) < (b.length:Int)) = true:=decide_eq_true (by omega)
  have e2:decide ((0:Int) ≤ (i:Int)) = true:=decide_eq_true (by omega)
  have e6:i64.wrap ((i:Int) + 1) = ((i + 1:Nat):Int):=by rw [wr (by omega) (by omega)]; omega
  simp only [List.length_cons] at hB hm
  have hz:((M.1,(M.2.1.1,()),(M.2.2.1.1,()),(M.2.2.2.1.1,(M.2.2.2.1.2.1.1,M.2.2.2.1.2.1.2.1,M.2.2.2.1.2.1.2.2.1,M.2.2.2.1.2.1.2.2.2.1,()),()),M.2.2.2.2.1,()):MachS) = M:=rfl
  obtain ⟨h1,h2,h3⟩:=T3.ok M d hM
  have h4:=wt_le M hM
  have h5:=kt_le M.1
  have h6:=T3.d M d hM
  have e3:decide ((v.length + List.length (T3.val M d).2.1) * 8 ≤ 140737488355328) = true:=decide_eq_true (by omega)
  have e4:decide (v.length + List.length (T3.val M d).2.1 ≤ lim) = true:=decide_eq_true (by unfold lim; omega)
  simp only [E0.l0,hto,hg,e1,e2,e6,cond_true,Bool.and_self]
  rw [hz,h6,e3,e4]
  simp only [cond_true,Bool.and_self]
  rw [ih (i + 1) m (T3.val M d).1 (v ++ (T3.val M d).2.1) hr (by omega) h1 (by rw [List.length_append]; omega) (by omega)]
  simp only [feedL,List.append_assoc]
theorem put_ok {c:Chan} (h:ChanOk c) (b:List Int):ChanOk (Chan.put c b).1:=by
 have h':Chan.ok c = true:=h
 unfold Chan.put
 rw [Chan.sane_of h]
 cases hc:c.2.1 || (List.length c.1 == 2) || !fitsS b with
 | true=>exact h
 | false =>
  simp only [Bool.or_eq_false_iff,Bool.not_eq_false'] at hc
  obtain ⟨⟨_,h2⟩,h3⟩:=hc
  have h2':=beq_eq_false_iff_ne.1 h2
  have hl:=h.len
  show Chan.ok (c.1 ++ [b],c.2) = true
  unfold Chan.ok at h' ⊢
  simp only [Bool.and_eq_true,decide_eq_true_eq] at h' ⊢
  refine ⟨by rw [List.length_append]; show List.length c.1 + 1 ≤ 2; omega,?_⟩
  rw [List.all_append,h'.2]
  simp [h3]
theorem take_ok {c:Chan} (h:ChanOk c):ChanOk (Chan.take c).1:=by
 have h':Chan.ok c = true:=h
 unfold Chan.take
 rw [Chan.sane_of h]
 obtain ⟨l,c2⟩:=c
 cases l with
 | nil=>exact h
 | cons b l =>
  show Chan.ok (l,c2) = true
  unfold Chan.ok at h' ⊢
  simp only [Bool.and_eq_true,decide_eq_true_eq,List.all_cons,List.length_cons] at h' ⊢
  exact ⟨by omega,h'.2.2⟩
theorem close_ok {c:Chan} (h:ChanOk c):ChanOk (Chan.close c):=by
 unfold Chan.close
 rw [Chan.sane_of h]
 exact h
theorem B61 {c:Chan} (h:ChanOk c):(Chan.take c).2.1.length ≤ 8:=by
 unfold Chan.take
 rw [Chan.sane_of h]
 obtain ⟨l,c2⟩:=c
 cases l with
 | nil=>exact Nat.zero_le _
 | cons b l=>exact (h.fits b List.mem_cons_self).2
theorem min8 (n:Nat):(if (8:Int) < (n:Int) then (8:Int) else (n:Int)) = ((min 8 n:Nat):Int):=by
 split
 ·omega
 ·omega
theorem take_min (l:List Int):List.take (min 8 l.length) l = List.take 8 l:=by
 rw [List.take_eq_take_iff]
 omega
theorem drop_min (l:List Int):List.drop (min 8 l.length) l = List.drop 8 l:=by
 by_cases h:l.length ≤ 8
 ·rw [Nat.min_eq_right h,List.drop_length,List.drop_eq_nil_of_le h]
 ·rw [Nat.min_eq_left (by omega)]
theorem eT {α:Type} {c:Bool} {a b v:α} (hc:c = true) (h:a = v):(bif c then a else b) = v:=by subst hc; exact h
theorem eF {α:Type} {c:Bool} {a b v:α} (hc:c = false) (h:b = v):(bif c then a else b) = v:=by subst hc; exact h
def outS (q:StageS × Chan × Chan × Bool):SR:=some (q.1,q.2.1,q.2.2.1,q.2.2.2,())
theorem C73 {s:StageS} {i o:Chan} (h:s.2.2.2.1 = true):stepS s i o = (s,i,o,false):=by unfold stepS; rw [h]; rfl
theorem stepS_put {s:StageS} {i o:Chan} (h:s.2.2.2.1 = false) (h0:0 < List.length s.2.1):stepS s i o = bif (Chan.put o (List.take 8 s.2.1)).2 then ((s.1,List.drop 8 s.2.1,s.2.2),i,(Chan.put o (List.take 8 s.2.1)).1,true) else (s,i,o,false):=by
 unfold stepS; rw [h,decide_eq_true h0]; rfl
theorem C56 {s:StageS} {i o:Chan} (h:s.2.2.2.1 = false) (h0:¬ 0 < List.length s.2.1) (he:s.2.2.1 = true):stepS s i o = ((s.1,s.2.1,s.2.2.1,true,()),i,Chan.close o,true):=by
 unfold stepS; rw [h,decide_eq_false h0,he]; rfl
theorem C79 {s:StageS} {i o:Chan} (h:s.2.2.2.1 = false) (h0:¬ 0 < List.length s.2.1) (he:s.2.2.1 = false) (hl:0 < List.length i.1) :
  stepS s i o = (((feedL s.1 (Chan.take i).2.1).1,(feedL s.1 (Chan.take i).2.1).2,s.2.2),(Chan.take i).1,o,true):=by
 unfold stepS; rw [h,decide_eq_false h0,he,decide_eq_true hl]; rfl
theorem stepS_end {s:StageS} {i o:Chan} (h:s.2.2.2.1 = false) (h0:¬ 0 < List.length s.2.1) (he:s.2.2.1 = false) (hl:¬ 0 < List.length i.1) :
  stepS s i o = bif i.2.1 then (((X3.val s.1).1,(X3.val s.1).2.1,true,s.2.2.2),i,o,true) else (s,i,o,false):=by
 unfold stepS; rw [h,decide_eq_false h0,he,decide_eq_false hl]; rfl
theorem E0.ev (s:StageS) (i o:Chan) (h:StageOk s) (hi:ChanOk i) (ho:ChanOk o):E0.raw fuel s i o = outS (stepS s i o):=by
 have hF:2000 < fuel:=a26 (by omega)
 have hp:=h.p
 generalize fuel = F at *
 unfold E0.raw
 dsimp only
 rw [U6.v s h,U9.v i hi,U9.v o ho]
 dsimp only
 refine eT (U6.d s h) (eT (U9.d i hi) (eT (U9.d o ho) ?_))
 cases hs:s.2.2.2.1 with
 | true =>
  rw [C73 hs]
  exact eT rfl rfl
 | false =>
  refine eF rfl ?_
  by_cases h0:0 < List.length s.2.1
  ·have e1:decide ((↑(List.length s.2.1):Int) > (0:Int)) = true:=decide_eq_true (by omega)
   have e3:decide ((0:Int) ≤ ((min 8 (List.length s.2.1):Nat):Int)) = true:=decide_eq_true (by omega)
   have e4:decide (((min 8 (List.length s.2.1):Nat):Int) ≤ (↑(List.length s.2.1):Int)) = true:=decide_eq_true (by omega)
   have e5:decide ((↑(List.length s.2.1):Int) ≤ (↑(List.length s.2.1):Int)) = true:=decide_eq_true (Int.le_refl _)
   have e6:List.take ((↑(List.length s.2.1):Int)).toNat s.2.1 = s.2.1:=by rw [Int.toNat_natCast,List.take_length]
   refine eT e1 ?_
   rw [min8,e3,e4,e5,Int.toNat_natCast,take_min,e6,drop_min,X6.v,stepS_put hs h0]
   refine eT rfl (eT (X6.d _ _) ?_)
   cases hpo:(Chan.put o (List.take 8 s.2.1)).2 with
   | true=>exact eT rfl (eT rfl (eT (clone.d _ (by rw [List.length_drop]; omega)) (by rw [clone.v]; rfl)))
   | false=>exact eF rfl rfl
  ·have e1:decide ((↑(List.length s.2.1):Int) > (0:Int)) = false:=decide_eq_false (by omega)
   refine eF e1 ?_
   cases he:s.2.2.1 with
   | true =>
    rw [C56 hs h0 he,E9.v]
    rw [← hs,← he]
    exact eT he (eT (E9.d _) (by rw [he]; rfl))
   | false =>
    refine eF rfl ?_
    by_cases hl:0 < List.length i.1
    ·have f1:decide ((↑(List.length i.1):Int) > (0:Int)) = true:=decide_eq_true (by omega)
     have ht:=B61 hi
     rw [C79 hs h0 he hl,U5.v]
     refine eT f1 (eT (U5.d _) ?_)
     dsimp only
     have e22:s.2.2 = (false,false,()):=by
      have:s.2.2 = (s.2.2.1,s.2.2.2.1,()):=rfl
      rw [this,he,hs]
     refine (stage_l _ (Chan.take i).2.1 (by omega) s i o _ _ _ _ _ _ _ _ _ _ false false (Chan.take i).1.1 (Chan.take i).1.2.1 o.1 o.2.1 (Chan.take i).2.1 0 F s.1 (nl Int) rfl (by omega) h.m (by show 0 + _ ≤ _; omega) (by omega)).trans ?_
     rw [e22]
     rfl
    ·have f1:decide ((↑(List.length i.1):Int) > (0:Int)) = false:=decide_eq_false (by omega)
     refine eF f1 ?_
     rw [stepS_end hs h0 he hl]
     cases i.2.1 with
     | true=>exact eT rfl (eT (X3.d _ h.m) rfl)
     | false=>exact eF rfl rfl
end Pt
end
section
open Go Go.Am
namespace Pt
theorem stepS_ok {s:StageS} {i o:Chan} (h:StageOk s) (hi:ChanOk i) (ho:ChanOk o):StageOk (stepS s i o).1 ∧ ChanOk (stepS s i o).2.1 ∧ ChanOk (stepS s i o).2.2.1 ∧ @Eq Int (stepS s i o).1.1.1 s.1.1:=by
 cases hs:s.2.2.2.1 with
 | true=>rw [C73 hs]; exact ⟨h,hi,ho,rfl⟩
 | false =>
  by_cases h0:0 < List.length s.2.1
  ·rw [stepS_put hs h0]
   cases hp:(Chan.put o (List.take 8 s.2.1)).2 with
   | true =>
    refine ⟨⟨h.m,?_,?_,h.ended⟩,hi,put_ok ho _,rfl⟩
    ·show (List.drop 8 s.2.1).length ≤ 256
     rw [List.length_drop]
     have:=h.p
     omega
    ·intro hf
     have hf':s.2.2.2.1 = true:=hf
     rw [hs] at hf'
     cases hf'
   | false=>exact ⟨h,hi,ho,rfl⟩
  ·cases he:s.2.2.1 with
   | true =>
    rw [C56 hs h0 he]
    exact ⟨⟨h.m,h.p,fun _=>⟨he,by show List.length s.2.1 = 0; omega⟩,h.ended⟩,hi,close_ok ho,rfl⟩
   | false =>
    by_cases hl:0 < List.length i.1
    ·rw [C79 hs h0 he hl]
     obtain ⟨g1,g2,_⟩:=feedL_ok (Chan.take i).2.1 s.1 h.m
     refine ⟨⟨g1,feedL_len _ _ h.m (B61 hi),?_,?_⟩,take_ok hi,ho,g2⟩
     ·intro hf
      have hf':s.2.2.2.1 = true:=hf
      rw [hs] at hf'
      cases hf'
     ·intro hf
      have hf':s.2.2.1 = true:=hf
      rw [he] at hf'
      cases hf'
    ·rw [stepS_end hs h0 he hl]
     cases i.2.1 with
     | true =>
      obtain ⟨g1,g2⟩:=X3.ok s.1 h.m
      have g3:=wt_le s.1 h.m
      have hk:(X3.val s.1).1.1 = s.1.1:=by rw [g1]; rfl
      refine ⟨⟨by show MachOk (X3.val s.1).1; rw [g1]; exact mach0_ok h.m.lo h.m.hi,by show List.length (X3.val s.1).2.1 ≤ 256; omega,?_,?_⟩,hi,ho,hk⟩
      ·intro hf
       have hf':s.2.2.2.1 = true:=hf
       rw [hs] at hf'
       cases hf'
      ·intro _
       show (X3.val s.1).1 = mach0 (X3.val s.1).1.1
       rw [g1]
       rfl
     | false=>exact ⟨h,hi,ho,rfl⟩
abbrev PipeS:=Ty.den B1
def stg (p:PipeS):Nat → StageS
 | 0=>p.2.1.1
 | 1=>p.2.1.2.1
 | 2=>p.2.1.2.2.1
 | 3=>p.2.1.2.2.2.1
 | _=>p.2.1.2.2.2.2.1
def lnk (p:PipeS):Nat → Chan
 | 0=>p.2.2.1.1
 | 1=>p.2.2.1.2.1
 | 2=>p.2.2.1.2.2.1
 | 3=>p.2.2.1.2.2.2.1
 | 4=>p.2.2.1.2.2.2.2.1
 | _=>p.2.2.1.2.2.2.2.2.1
def mkP (s0 s1 s2 s3 s4:StageS) (c0 c1 c2 c3 c4 c5:Chan):PipeS:=(true,(s0,s1,s2,s3,s4,()),(c0,c1,c2,c3,c4,c5,()),())
def mkF (s:Nat → StageS) (c:Nat → Chan):PipeS:=mkP (s 0) (s 1) (s 2) (s 3) (s 4) (c 0) (c 1) (c 2) (c 3) (c 4) (c 5)
theorem stg_mk (s:Nat → StageS) (c:Nat → Chan) (i:Nat) (h:i < 5):stg (mkF s c) i = s i:=by
 match i,h with
 | 0,_ | 1,_ | 2,_ | 3,_ | 4,_=>rfl
theorem lnk_mk (s:Nat → StageS) (c:Nat → Chan) (i:Nat) (h:i < 6):lnk (mkF s c) i = c i:=by
 match i,h with
 | 0,_ | 1,_ | 2,_ | 3,_ | 4,_ | 5,_=>rfl
theorem mk_self (p:PipeS) (h:p.1 = true):mkF (stg p) (lnk p) = p:=by
 have e:p = (p.1,p.2):=rfl
 rw [e,h]
 rfl
structure PipeOk (p:PipeS):Prop where
 on:p.1 = true
 s:∀ i,i < 5 → StageOk (stg p i) ∧ (stg p i).1.1 = (i:Int)
 c:∀ i,i < 6 → ChanOk (lnk p i)
def upd {α:Type} (f:Nat → α) (i:Nat) (x:α) (j:Nat):α:=bif j == i then x else f j
theorem w50 {α:Type} (f:Nat → α) (i:Nat) (x:α):upd f i x i = x:=by unfold upd; rw [beq_self_eq_true]; rfl
theorem w33 {α:Type} (f:Nat → α) {i j:Nat} (x:α) (h:j ≠ i):upd f i x j = f j:=by unfold upd; rw [beq_eq_false_iff_ne.2 h]; rfl
def pstep (p:PipeS) (i:Nat):PipeS × Bool :=
 (mkF (upd (stg p) i (stepS (stg p i) (lnk p i) (lnk p (i + 1))).1) (upd (upd (lnk p) i (stepS (stg p i) (lnk p i) (lnk p (i + 1))).2.1) (i + 1) (stepS (stg p i) (lnk p i) (lnk p (i + 1))).2.2.1),(stepS (stg p i) (lnk p i) (lnk p (i + 1))).2.2.2)
theorem mkF_ok {s:Nat → StageS} {c:Nat → Chan} (hs:∀ i,i < 5 → StageOk (s i) ∧ (s i).1.1 = (i:Int)) (hc:∀ i,i < 6 → ChanOk (c i)):PipeOk (mkF s c) :=
 ⟨rfl,fun i hi=>by rw [stg_mk s c i hi]; exact hs i hi,fun i hi=>by rw [lnk_mk s c i hi]; exact hc i hi⟩
theorem B13 {p:PipeS} (h:PipeOk p) (i:Nat) (hi:i < 5):PipeOk (pstep p i).1:=by
 obtain ⟨g1,g2,g3,g4⟩:=stepS_ok (h.s i hi).1 (h.c i (by omega)) (h.c (i + 1) (by omega))
 refine mkF_ok (fun j hj=>?_) (fun j hj=>?_)
 ·by_cases e:j = i
  ·subst e
   rw [w50]
   exact ⟨g1,g4.trans (h.s j hj).2⟩
  ·rw [w33 _ _ e]
   exact h.s j hj
 ·by_cases e:j = i + 1
  ·subst e
   rw [w50]
   exact g3
  ·rw [w33 _ _ e]
   by_cases e2:j = i
   ·subst e2
    rw [w50]
    exact g2
   ·rw [w33 _ _ e2]
    exact h.c j hj
theorem D3.ev (m:Nat) (p:PipeS) (h:p.1 = true):D3.raw m p = some (p,()):=by
 unfold D3.raw
 rw [h]
 rfl
theorem D3.d (p:PipeS) (h:p.1 = true):D3.dom p = true:=C8 (D3.ev fuel p h)
theorem D3.v (p:PipeS) (h:p.1 = true):D3.val p = (p,()):=D5 (D3.ev fuel p h)
theorem E0.d {s:StageS} {i o:Chan} (h:StageOk s) (hi:ChanOk i) (ho:ChanOk o):E0.dom s i o = true:=C8 (E0.ev s i o h hi ho)
theorem E0.v {s:StageS} {i o:Chan} (h:StageOk s) (hi:ChanOk i) (ho:ChanOk o):E0.val s i o = ((stepS s i o).1,(stepS s i o).2.1,(stepS s i o).2.2.1,(stepS s i o).2.2.2,()):=D5 (E0.ev s i o h hi ho)
theorem D2.ev (p:PipeS) (i:Nat) (hi:i < 5) (h:PipeOk p):D2.raw fuel p (i:Int) = some ((pstep p i).1,(pstep p i).2,()):=by
 have hk:=D3.v p h.on
 have hd:=D3.d p h.on
 have e:p = (true,p.2):=by
  have:p = (p.1,p.2):=rfl
  rw [this,h.on]
 match i,hi with
 | 0,_ =>
  unfold D2.raw D2.r0
  refine eT rfl ?_
  dsimp only
  rw [hk]
  dsimp only
  have hv:=E0.v (h.s 0 (by omega)).1 (h.c 0 (by omega)) (h.c 1 (by omega))
  simp only [stg,lnk] at hv
  rw [hv]
  refine eT hd (eT (E0.d (h.s 0 (by omega)).1 (h.c 0 (by omega)) (h.c 1 (by omega))) ?_)
  rw [h.on]
  rfl
 | 1,_ =>
  unfold D2.raw D2.r1
  refine eF rfl (eT rfl ?_)
  dsimp only
  rw [hk]
  dsimp only
  have hv:=E0.v (h.s 1 (by omega)).1 (h.c 1 (by omega)) (h.c 2 (by omega))
  simp only [stg,lnk] at hv
  rw [hv]
  refine eT hd (eT (E0.d (h.s 1 (by omega)).1 (h.c 1 (by omega)) (h.c 2 (by omega))) ?_)
  rw [h.on]
  rfl
 | 2,_ =>
  unfold D2.raw D2.r2
  refine eF rfl (eF rfl (eT rfl ?_))
  dsimp only
  rw [hk]
  dsimp only
  have hv:=E0.v (h.s 2 (by omega)).1 (h.c 2 (by omega)) (h.c 3 (by omega))
  simp only [stg,lnk] at hv
  rw [hv]
  refine eT hd (eT (E0.d (h.s 2 (by omega)).1 (h.c 2 (by omega)) (h.c 3 (by omega))) ?_)
  rw [h.on]
  rfl
 | 3,_ =>
  unfold D2.raw D2.r3
  refine eF rfl (eF rfl (eF rfl (eT rfl ?_)))
  dsimp only
  rw [hk]
  dsimp only
  have hv:=E0.v (h.s 3 (by omega)).1 (h.c 3 (by omega)) (h.c 4 (by omega))
  simp only [stg,lnk] at hv
  rw [hv]
  refine eT hd (eT (E0.d (h.s 3 (by omega)).1 (h.c 3 (by omega)) (h.c 4 (by omega))) ?_)
  rw [h.on]
  rfl
 | 4,_ =>
  unfold D2.raw D2.r4
  refine eF rfl (eF rfl (eF rfl (eF rfl (eT rfl ?_))))
  dsimp only
  rw [hk]
  dsimp only
  have hv:=E0.v (h.s 4 (by omega)).1 (h.c 4 (by omega)) (h.c 5 (by omega))
  simp only [stg,lnk] at hv
  rw [hv]
  refine eT hd (eT (E0.d (h.s 4 (by omega)).1 (h.c 4 (by omega)) (h.c 5 (by omega))) ?_)
  rw [h.on]
  rfl
theorem D2.d (p:PipeS) (i:Nat) (hi:i < 5) (h:PipeOk p):D2.dom p (i:Int) = true:=C8 (D2.ev p i hi h)
theorem D2.v (p:PipeS) (i:Nat) (hi:i < 5) (h:PipeOk p):D2.val p (i:Int) = ((pstep p i).1,(pstep p i).2,()):=D5 (D2.ev p i hi h)
end Pt
end
section
open Go Go.Am
open IntKind (i64 u64 u8 i32 u32)
namespace Pt
def setL (p:PipeS) (i:Nat) (c:Chan):PipeS:=mkF (stg p) (upd (lnk p) i c)
theorem setL_ok {p:PipeS} (h:PipeOk p) (i:Nat) (c:Chan) (hc:ChanOk c):PipeOk (setL p i c):=by
 refine mkF_ok h.s (fun j hj=>?_)
 by_cases e:j = i
 ·subst e; rw [w50]; exact hc
 ·rw [w33 _ _ e]; exact h.c j hj
theorem Z8.ev (m:Nat) (p:PipeS) (b:List Int) (h:PipeOk p):Z8.raw m p b = some (setL p 0 (Chan.put (lnk p 0) b).1,(Chan.put (lnk p 0) b).2,()):=by
 unfold Z8.raw
 dsimp only
 rw [D3.v p h.on,X6.v]
 refine eT (D3.d p h.on) (eT (X6.d _ _) ?_)
 dsimp only
 rw [h.on]
 rfl
theorem Z8.d (p:PipeS) (b:List Int) (h:PipeOk p):Z8.dom p b = true:=C8 (Z8.ev fuel p b h)
theorem Z8.v (p:PipeS) (b:List Int) (h:PipeOk p):Z8.val p b = (setL p 0 (Chan.put (lnk p 0) b).1,(Chan.put (lnk p 0) b).2,()):=D5 (Z8.ev fuel p b h)
theorem a05.ev (m:Nat) (p:PipeS) (h:PipeOk p):a05.raw m p = some (setL p 5 (Chan.take (lnk p 5)).1,(Chan.take (lnk p 5)).2.1,(Chan.take (lnk p 5)).2.2,()):=by
 unfold a05.raw
 dsimp only
 rw [D3.v p h.on,U5.v]
 refine eT (D3.d p h.on) (eT (U5.d _) ?_)
 dsimp only
 rw [h.on]
 rfl
theorem a05.d (p:PipeS) (h:PipeOk p):a05.dom p = true:=C8 (a05.ev fuel p h)
theorem a05.v (p:PipeS) (h:PipeOk p):a05.val p = (setL p 5 (Chan.take (lnk p 5)).1,(Chan.take (lnk p 5)).2.1,(Chan.take (lnk p 5)).2.2,()):=D5 (a05.ev fuel p h)
theorem V5.ev (m:Nat) (p:PipeS) (h:PipeOk p):V5.raw m p = some (setL p 0 (Chan.close (lnk p 0)),()):=by
 unfold V5.raw
 dsimp only
 rw [D3.v p h.on,E9.v]
 refine eT (D3.d p h.on) (eT (E9.d _) ?_)
 dsimp only
 rw [h.on]
 rfl
theorem V5.d (p:PipeS) (h:PipeOk p):V5.dom p = true:=C8 (V5.ev fuel p h)
theorem V5.v (p:PipeS) (h:PipeOk p):V5.val p = (setL p 0 (Chan.close (lnk p 0)),()):=D5 (V5.ev fuel p h)
theorem Y9.ev (m:Nat) (p:PipeS) (h:PipeOk p):Y9.raw m p = some (setL p 5 ([],(lnk p 5).2),()):=by
 unfold Y9.raw
 dsimp only
 rw [D3.v p h.on]
 refine eT (D3.d p h.on) ?_
 dsimp only
 rw [h.on]
 rfl
theorem Y9.d (p:PipeS) (h:PipeOk p):Y9.dom p = true:=C8 (Y9.ev fuel p h)
theorem Y9.v (p:PipeS) (h:PipeOk p):Y9.val p = (setL p 5 ([],(lnk p 5).2),()):=D5 (Y9.ev fuel p h)
theorem empty_ok (b:Bool):ChanOk ([],b,()):=by unfold ChanOk Chan.ok; rfl
theorem a15.ev (m:Nat) (p:PipeS):a15.raw m p = some ((stg p 4).2.2.2.1 && (List.length (lnk p 5).1 == 0),()):=by
 unfold a15.raw
 have e:((↑(List.length p.2.2.1.2.2.2.2.2.1.1):Int) == (0:Int)) = (List.length (lnk p 5).1 == 0):=by
  show ((↑(List.length (lnk p 5).1):Int) == (0:Int)) = _
  by_cases h:List.length (lnk p 5).1 = 0
  ·rw [h]; rfl
  ·rw [beq_eq_false_iff_ne.2 h,beq_eq_false_iff_ne.2 (by omega)]
 rw [e]
 show (bif (stg p 4).2.2.2.1 then _ else _) = _
 cases (stg p 4).2.2.2.1 <;> rfl
theorem a15.d (p:PipeS):a15.dom p = true:=C8 (a15.ev fuel p)
theorem a15.v (p:PipeS):a15.val p = ((stg p 4).2.2.2.1 && (List.length (lnk p 5).1 == 0),()):=D5 (a15.ev fuel p)
theorem a08.ev (m:Nat) (p:PipeS) (i:Nat) (hi:i < 5):a08.raw m p (i:Int) = some ((stg p i).2.2.2.1,()):=by
 match i,hi with
 | 0,_ | 1,_ | 2,_ | 3,_ | 4,_=>rfl
theorem a08.d (p:PipeS) (i:Nat) (hi:i < 5):a08.dom p (i:Int) = true:=C8 (a08.ev fuel p i hi)
theorem a08.v (p:PipeS) (i:Nat) (hi:i < 5):a08.val p (i:Int) = ((stg p i).2.2.2.1,()):=D5 (a08.ev fuel p i hi)
def gone (i:Nat):StageS:=(mach0 (i:Int),nl Int,true,true,())
def pleave (p:PipeS) (i:Nat):PipeS:=mkF (upd (stg p) i (gone i)) (upd (upd (lnk p) i ([],true,())) (i + 1) (Chan.close (lnk p (i + 1))))
theorem gone_ok (i:Nat) (hi:i < 5):StageOk (gone i):=⟨mach0_ok (by omega) (by omega),Nat.zero_le _,fun _=>⟨rfl,rfl⟩,fun _=>rfl⟩
theorem pleave_ok {p:PipeS} (h:PipeOk p) (i:Nat) (hi:i < 5):PipeOk (pleave p i):=by
 refine mkF_ok (fun j hj=>?_) (fun j hj=>?_)
 ·by_cases e:j = i
  ·subst e; rw [w50]; exact ⟨gone_ok j hj,rfl⟩
  ·rw [w33 _ _ e]; exact h.s j hj
 ·by_cases e:j = i + 1
  ·subst e; rw [w50]; exact close_ok (h.c _ hj)
  ·rw [w33 _ _ e]
   by_cases e2:j = i
   ·subst e2; rw [w50]; exact empty_ok true
   ·rw [w33 _ _ e2]; exact h.c j hj
theorem C7.ev (m:Nat) (p:PipeS) (i:Nat) (hi:i < 5) (h:PipeOk p):C7.raw m p (i:Int) = some (pleave p i,()):=by
 have hk:=D3.v p h.on
 have hd:=D3.d p h.on
 match i,hi with
 | 0,_ =>
  unfold C7.raw C7.r0
  refine eT rfl ?_
  dsimp only
  rw [hk,E9.v]
  refine eT hd (eT (E9.d _) ?_)
  dsimp only
  rw [h.on]
  rfl
 | 1,_ =>
  unfold C7.raw C7.r1
  refine eF rfl (eT rfl ?_)
  dsimp only
  rw [hk,E9.v]
  refine eT hd (eT (E9.d _) ?_)
  dsimp only
  rw [h.on]
  rfl
 | 2,_ =>
  unfold C7.raw C7.r2
  refine eF rfl (eF rfl (eT rfl ?_))
  dsimp only
  rw [hk,E9.v]
  refine eT hd (eT (E9.d _) ?_)
  dsimp only
  rw [h.on]
  rfl
 | 3,_ =>
  unfold C7.raw C7.r3
  refine eF rfl (eF rfl (eF rfl (eT rfl ?_)))
  dsimp only
  rw [hk,E9.v]
  refine eT hd (eT (E9.d _) ?_)
  dsimp only
  rw [h.on]
  rfl
 | 4,_ =>
  unfold C7.raw C7.r4
  refine eF rfl (eF rfl (eF rfl (eF rfl (eT rfl ?_))))
  dsimp only
  rw [hk,E9.v]
  refine eT hd (eT (E9.d _) ?_)
  dsimp only
  rw [h.on]
  rfl
theorem C7.d (p:PipeS) (i:Nat) (hi:i < 5) (h:PipeOk p):C7.dom p (i:Int) = true:=C8 (C7.ev fuel p i hi h)
theorem C7.v (p:PipeS) (i:Nat) (hi:i < 5) (h:PipeOk p):C7.val p (i:Int) = (pleave p i,()):=D5 (C7.ev fuel p i hi h)
def stage0 (i:Nat):StageS:=(mach0 (i:Int),nl Int,false,false,())
theorem stage0_ok (i:Nat) (hi:i < 5):StageOk (stage0 i):=⟨mach0_ok (by omega) (by omega),Nat.zero_le _,fun h=>Bool.noConfusion (h:false = true),fun h=>Bool.noConfusion (h:false = true)⟩
theorem a34.ev (m:Nat) (i:Nat) (hi:i < 5):a34.raw m (i:Int) = some (stage0 i,()):=by
 unfold a34.raw
 dsimp only
 rw [R8.v _ (by omega) (by omega),R8.d]
 rfl
def pipe0:PipeS:=mkF stage0 (fun _=>([],false,()))
theorem pipe0_ok:PipeOk pipe0:=mkF_ok (fun i hi=>⟨stage0_ok i hi,rfl⟩) (fun _ _=>empty_ok false)
theorem O7.ev:O7.raw fuel = some (pipe0,()):=by
 have hn:∀ i:Nat,i < 5 → a35.val (i:Int) = (stage0 i,()) ∧ a35.dom (i:Int) = true:=by
  intro i hi
  have e:=a34.ev fuel i hi
  unfold a35.val a35.dom a35.sg hsg
  dsimp only
  rw [a85,a85]
  exact ⟨D5 e,C8 e⟩
 obtain ⟨F,hF⟩:∃ F,fuel = F + 6:=⟨999999999994,rfl⟩
 rw [hF]
 have h0:=hn 0 (by omega)
 have h1:=hn 1 (by omega)
 have h2:=hn 2 (by omega)
 have h3:=hn 3 (by omega)
 have h4:=hn 4 (by omega)
 clear hn hF
 have w0:i64.wrap ((0:Int) + 1) = 1:=by decide
 have w1:i64.wrap ((1:Int) + 1) = 2:=by decide
 have w2:i64.wrap ((2:Int) + 1) = 3:=by decide
 have w3:i64.wrap ((3:Int) + 1) = 4:=by decide
 have w4:i64.wrap ((4:Int) + 1) = 5:=by decide
 have z0:((0:Nat):Int) = 0:=rfl
 have z1:((1:Nat):Int) = 1:=rfl
 have z2:((2:Nat):Int) = 2:=rfl
 have z3:((3:Nat):Int) = 3:=rfl
 have z4:((4:Nat):Int) = 4:=rfl
 rw [z0] at h0
 rw [z1] at h1
 rw [z2] at h2
 rw [z3] at h3
 rw [z4] at h4
 unfold O7.raw
 dsimp only
 unfold O7.l0
 dsimp only
 rw [h0.1,h0.2,w0]
 refine eT rfl (eT rfl (eT rfl (eT rfl ?_)))
 unfold O7.l0
 dsimp only
 rw [h1.1,h1.2,w1]
 refine eT rfl (eT rfl (eT rfl (eF rfl (eT rfl ?_))))
 unfold O7.l0
 dsimp only
 rw [h2.1,h2.2,w2]
 refine eT rfl (eT rfl (eT rfl (eF rfl (eF rfl (eT rfl ?_)))))
 unfold O7.l0
 dsimp only
 rw [h3.1,h3.2,w3]
 refine eT rfl (eT rfl (eT rfl (eF rfl (eF rfl (eF rfl (eT rfl ?_))))))
 unfold O7.l0
 dsimp only
 rw [h4.1,h4.2,w4]
 refine eT rfl (eT rfl (eT rfl (eF rfl (eF rfl (eF rfl (eF rfl (eT rfl ?_)))))))
 unfold O7.l0
 dsimp only
 exact eF rfl rfl
abbrev ConnS:=Ty.den a7
structure ConnOk (c:ConnS):Prop where
 on:c.1 = true
 w:Wire.ok c.2.2.1 = true
 p:PipeOk c.2.2.2.1
 hold:List.length c.2.2.2.2.1 ≤ 8
def outN (c:ConnS):Nat:=List.length c.2.2.1.2.2.2.1 + Int.toNat c.2.2.1.2.2.1
theorem M8.ev (m:Nat) (c:ConnS) (h:c.1 = true):M8.raw m c = some (c,()):=by
 unfold M8.raw
 rw [h]
 rfl
theorem M8.d (c:ConnS) (h:c.1 = true):M8.dom c = true:=C8 (M8.ev fuel c h)
theorem M8.v (c:ConnS) (h:c.1 = true):M8.val c = (c,()):=D5 (M8.ev fuel c h)
def setW (c:ConnS) (w:Wire):ConnS:=(c.1,c.2.1,w,c.2.2.2)
def setP (c:ConnS) (p:PipeS):ConnS:=(c.1,c.2.1,c.2.2.1,p,c.2.2.2.2)
def close1S (c:ConnS):ConnS:=(c.1,c.2.1,c.2.2.1,setL c.2.2.2.1 0 (Chan.close (lnk c.2.2.2.1 0)),c.2.2.2.2.1,(true,c.2.2.2.2.2.1.2),c.2.2.2.2.2.2)
def dropS (c:ConnS):ConnS:=(c.1,c.2.1,c.2.2.1,setL c.2.2.2.1 5 ([],(lnk c.2.2.2.1 5).2),nl Int,(c.2.2.2.2.2.1.1,true,()),c.2.2.2.2.2.2)
def leaveS (c:ConnS) (i:Nat):ConnS:=setP c (pleave c.2.2.2.1 i)
theorem M6.ev (m:Nat) (c:ConnS) (i:Int) (h:ConnOk c):M6.raw m c i = some (close1S c,()):=by
 unfold M6.raw
 dsimp only
 rw [V5.v _ h.p]
 exact eT (V5.d _ h.p) rfl
theorem M6.d (c:ConnS) (i:Int) (h:ConnOk c):M6.dom c i = true:=C8 (M6.ev fuel c i h)
theorem M6.v (c:ConnS) (i:Int) (h:ConnOk c):M6.val c i = (close1S c,()):=D5 (M6.ev fuel c i h)
theorem S7.ev (m:Nat) (c:ConnS) (i:Int) (h:ConnOk c):S7.raw m c i = some (dropS c,()):=by
 unfold S7.raw
 dsimp only
 rw [Y9.v _ h.p]
 exact eT (Y9.d _ h.p) rfl
theorem S7.d (c:ConnS) (i:Int) (h:ConnOk c):S7.dom c i = true:=C8 (S7.ev fuel c i h)
theorem S7.v (c:ConnS) (i:Int) (h:ConnOk c):S7.val c i = (dropS c,()):=D5 (S7.ev fuel c i h)
theorem sub1 (i:Nat) (hi:i < 5):i64.wrap (((i + 1:Nat):Int) - 1) = (i:Int):=by rw [wr (by omega) (by omega)]; omega
theorem M1.ev (m:Nat) (c:ConnS) (i:Nat) (hi:i < 5) (h:ConnOk c):M1.raw m c ((i + 1:Nat):Int) = some (leaveS c i,()):=by
 unfold M1.raw
 dsimp only
 rw [sub1 i hi,C7.v _ i hi h.p]
 exact eT (C7.d _ i hi h.p) rfl
theorem M1.d (c:ConnS) (i:Nat) (hi:i < 5) (h:ConnOk c):M1.dom c ((i + 1:Nat):Int) = true:=C8 (M1.ev fuel c i hi h)
theorem M1.v (c:ConnS) (i:Nat) (hi:i < 5) (h:ConnOk c):M1.val c ((i + 1:Nat):Int) = (leaveS c i,()):=D5 (M1.ev fuel c i hi h)
theorem L1.ev (m:Nat) (c:ConnS) (i:Nat) (hi:i < 5) (h:ConnOk c):L1.raw m c ((i + 1:Nat):Int) = some (setP c (pstep c.2.2.2.1 i).1,(pstep c.2.2.2.1 i).2,()):=by
 unfold L1.raw
 dsimp only
 rw [sub1 i hi,D2.v _ i hi h.p]
 exact eT (D2.d _ i hi h.p) rfl
theorem L1.d (c:ConnS) (i:Nat) (hi:i < 5) (h:ConnOk c):L1.dom c ((i + 1:Nat):Int) = true:=C8 (L1.ev fuel c i hi h)
theorem L1.v (c:ConnS) (i:Nat) (hi:i < 5) (h:ConnOk c):L1.val c ((i + 1:Nat):Int) = (setP c (pstep c.2.2.2.1 i).1,(pstep c.2.2.2.1 i).2,()):=D5 (L1.ev fuel c i hi h)
theorem D4.ev (m:Nat) (c:ConnS) (i:Nat) (hi:i < 5):D4.raw m c ((i + 1:Nat):Int) = some ((stg c.2.2.2.1 i).2.2.2.1,()):=by
 unfold D4.raw
 dsimp only
 rw [sub1 i hi,a08.v _ i hi]
 exact eT (a08.d _ i hi) rfl
theorem D4.d (c:ConnS) (i:Nat) (hi:i < 5):D4.dom c ((i + 1:Nat):Int) = true:=C8 (D4.ev fuel c i hi)
theorem D4.v (c:ConnS) (i:Nat) (hi:i < 5):D4.val c ((i + 1:Nat):Int) = ((stg c.2.2.2.1 i).2.2.2.1,()):=D5 (D4.ev fuel c i hi)
abbrev CR:=Option (Args [a7,.bool])
theorem read_l (K0:List Int → ConnS → ConnS → Wire → List Int → CR) (v3 v4:List Int) (hv:v4.length ≤ 1000) (a b:ConnS) (w:Wire) :
  ∀ (r:List Int) (i m:Nat) (v:List Int),v4.drop i = r → i ≤ v4.length → v.length + r.length ≤ 1000000 → r.length < m →
   L8.l0 K0 m v3 v4 (v4.length:Int) i a b w v = K0 v3 a b w (v ++ r.map i64.wrap):=by
 intro r
 induction r with
 | nil =>
  intro i m v hd hi hB hm
  obtain ⟨m,rfl⟩:∃ k,m = k + 1:=⟨m - 1,by omega⟩
  have:=a69 hd hi
  have e1:decide ((i:Int) < (v4.length:Int)) = false:=decide_eq_false (by omega)
  simp only [L8.l0,e1,cond_false,List.map_nil,List.append_nil]
 | cons d r ih =>
  intro i m v hd hi hB hm
  obtain ⟨m,rfl⟩:∃ k,m = k + 1:=⟨m - 1,by omega⟩
  obtain ⟨hlt,hg,hr⟩:=a60 hd (0:Int)
  have hto:Int.toNat (i:Int) = i:=Int.toNat_natCast i
  have e1:decide ((i:Int) < (v4.length:Int)) = true:=decide_eq_true (by omega)
  have e2:decide ((0:Int) ≤ (i:Int)) = true:=decide_eq_true (by omega)
  have e6:i64.wrap ((i:Int) + 1) = ((i + 1:Nat):Int):=by rw [wr (by omega) (by omega)]; omega
  simp only [List.length_cons] at hB hm
  have e3:decide ((v.length + [i64.wrap d].length) * 8 ≤ 140737488355328) = true:=decide_eq_true (by simp; omega)
  have e4:decide (v.length + [i64.wrap d].length ≤ lim) = true:=decide_eq_true (by unfold lim; simp; omega)
  simp only [L8.l0,hto,hg,e1,e2,e3,e4,e6,cond_true,Bool.and_self]
  rw [ih (i + 1) m _ hr (by omega) (by simp; omega) (by omega)]
  simp
theorem write_l (K0:Bool → Bool → Wire → PipeS → Bool → Bool → Int → ConnS → List Int → CR) (v4:List Int) (hv:v4.length ≤ 1000) (a b:Bool) (w:Wire) (p:PipeS) (e0 e1':Bool) (t:Int) (z:ConnS) :
  ∀ (r:List Int) (i m:Nat) (v:List Int),v4.drop i = r → i ≤ v4.length → v.length + r.length ≤ 1000000 → r.length < m →
   L0.l0 K0 m v4 (v4.length:Int) i a b w p e0 e1' t z v = K0 a b w p e0 e1' t z (v ++ r.map u8.wrap):=by
 intro r
 induction r with
 | nil =>
  intro i m v hd hi hB hm
  obtain ⟨m,rfl⟩:∃ k,m = k + 1:=⟨m - 1,by omega⟩
  have:=a69 hd hi
  have e1:decide ((i:Int) < (v4.length:Int)) = false:=decide_eq_false (by omega)
  simp only [L0.l0,e1,cond_false,List.map_nil,List.append_nil]
 | cons d r ih =>
  intro i m v hd hi hB hm
  obtain ⟨m,rfl⟩:∃ k,m = k + 1:=⟨m - 1,by omega⟩
  obtain ⟨hlt,hg,hr⟩:=a60 hd (0:Int)
  have hto:Int.toNat (i:Int) = i:=Int.toNat_natCast i
  have e1:decide ((i:Int) < (v4.length:Int)) = true:=decide_eq_true (by omega)
  have e2:decide ((0:Int) ≤ (i:Int)) = true:=decide_eq_true (by omega)
  have e6:i64.wrap ((i:Int) + 1) = ((i + 1:Nat):Int):=by rw [wr (by omega) (by omega)]; omega
  simp only [List.length_cons] at hB hm
  have e3:decide ((v.length + [u8.wrap d].length) * 1 ≤ 140737488355328) = true:=decide_eq_true (by simp; omega)
  have e4:decide (v.length + [u8.wrap d].length ≤ lim) = true:=decide_eq_true (by unfold lim; simp; omega)
  simp only [L0.l0,hto,hg,e1,e2,e3,e4,e6,cond_true,Bool.and_self]
  rw [ih (i + 1) m _ hr (by omega) (by simp; omega) (by omega)]
  simp
def readS (c:ConnS):ConnS × Bool :=
 bif List.length c.2.2.1.1 == 0 then (bif c.2.2.1.2.1 then (close1S c,true) else (c,false)) else
 bif decide (2 ≤ List.length (lnk c.2.2.2.1 0).1) then (c,false) else
  ((c.1,c.2.1,(Wire.read c.2.2.1 8).1,setL c.2.2.2.1 0 (Chan.put (lnk c.2.2.2.1 0) ((Wire.read c.2.2.1 8).2.map i64.wrap)).1,c.2.2.2.2.1,c.2.2.2.2.2.1,i64.wrap (c.2.2.2.2.2.2.1 + (List.length (Wire.read c.2.2.1 8).2:Int)),()),true)
def writeS (c:ConnS):ConnS × Bool :=
 bif decide (0 < List.length c.2.2.2.2.1) then
  ((c.1,c.2.1,(Wire.write c.2.2.1 c.2.2.2.2.1).1,c.2.2.2.1,List.drop (Int.toNat (Wire.write c.2.2.1 c.2.2.2.2.1).2) c.2.2.2.2.1,c.2.2.2.2.2),decide (@LT.lt Int _ 0 (Wire.write c.2.2.1 c.2.2.2.2.1).2)) else
 bif (Chan.take (lnk c.2.2.2.1 5)).2.2 then
  ((c.1,c.2.1,c.2.2.1,setL c.2.2.2.1 5 (Chan.take (lnk c.2.2.2.1 5)).1,(Chan.take (lnk c.2.2.2.1 5)).2.1.map u8.wrap,c.2.2.2.2.2),true) else
  ((c.1,c.2.1,c.2.2.1,c.2.2.2.1,c.2.2.2.2.1,(c.2.2.2.2.2.1.1,(stg c.2.2.2.1 4).2.2.2.1 && (List.length (lnk c.2.2.2.1 5).1 == 0),()),c.2.2.2.2.2.2),(stg c.2.2.2.1 4).2.2.2.1 && (List.length (lnk c.2.2.2.1 5).1 == 0))
end Pt
end
section
open Go Go.Am
namespace Pt
theorem natb (n:Nat):((n:Int) == (0:Int)) = (n == 0):=by
 by_cases h:n = 0
 ·rw [h]; rfl
 ·rw [beq_eq_false_iff_ne.2 h,beq_eq_false_iff_ne.2 (by omega)]
theorem nat_eq0 {n:Nat} (h:(n == 0) = true):n = 0:=beq_iff_eq.1 h
theorem L8.ev (c:ConnS) (i:Int) (h:ConnOk c):L8.raw fuel c i = some ((readS c).1,(readS c).2,()):=by
 have hw:=(Wire.ok_iff _).1 h.w
 have hF:2000 < fuel:=a26 (by omega)
 generalize fuel = F at *
 unfold L8.raw readS
 rw [natb]
 have hlk:List.length c.2.2.2.1.2.2.1.1.1 = List.length (lnk c.2.2.2.1 0).1:=rfl
 cases h0:List.length c.2.2.1.1 == 0 with
 | true =>
  refine eT rfl ?_
  cases he:c.2.2.1.2.1 with
  | true =>
   refine eT rfl ?_
   dsimp only
   rw [M6.v c i h]
   exact eT (M6.d c i h) rfl
  | false=>exact eF rfl (eT rfl rfl)
 | false =>
  refine eF rfl (eF rfl ?_)
  have h0':=beq_eq_false_iff_ne.1 h0
  by_cases h2:2 ≤ List.length (lnk c.2.2.2.1 0).1
  ·rw [decide_eq_true h2]
   exact eT (decide_eq_true (by rw [hlk]; omega)) rfl
  ·rw [decide_eq_false h2]
   refine eF (decide_eq_false (by rw [hlk]; omega)) ?_
   have hb:(Wire.read c.2.2.1 8).2.length ≤ 8:=by
    show (List.take _ _).length ≤ 8
    rw [List.length_take]
    exact Nat.min_le_left _ _
   rw [Z9.v]
   refine eT (Z9.d _ _) ?_
   dsimp only
   refine eT ?_ ?_
   ·simp only [Bool.and_eq_true,decide_eq_true_eq]
    omega
   ·refine (read_l _ (Wire.read c.2.2.1 8).2 (Wire.read c.2.2.1 8).2 (by omega) c _ _ (Wire.read c.2.2.1 8).2 0 F (List.replicate (0:Nat) (0:Int)) rfl (by omega) (by simp; omega) (by omega)).trans ?_
    rw [Z8.v _ _ h.p]
    exact eT (Z8.d _ _ h.p) rfl
theorem L8.d (c:ConnS) (i:Int) (h:ConnOk c):L8.dom c i = true:=C8 (L8.ev c i h)
theorem L8.v (c:ConnS) (i:Int) (h:ConnOk c):L8.val c i = ((readS c).1,(readS c).2,()):=D5 (L8.ev c i h)
theorem write_n (w:Wire) (b:List Int):0 ≤ (Wire.write w b).2 ∧ (Wire.write w b).2 ≤ (b.length:Int):=by
 unfold Wire.write
 constructor
 ·show (0:Int) ≤ (((b.take _).length:Nat):Int); omega
 ·show (((b.take _).length:Nat):Int) ≤ _
  rw [List.length_take]; omega
theorem L0.ev (c:ConnS) (i:Int) (h:ConnOk c) (ho:outN c ≤ 1000000000):L0.raw fuel c i = some ((writeS c).1,(writeS c).2,()):=by
 have hF:2000 < fuel:=a26 (by omega)
 have hsw:Wire.sane c.2.2.1 = c.2.2.1:=Wire.sane_of h.w
 have hol:List.length (Wire.sane c.2.2.1).2.2.2.1 ≤ 1000000000:=by rw [hsw]; unfold outN at ho; omega
 have hh:=h.hold
 generalize fuel = F at *
 unfold L0.raw writeS
 by_cases h0:0 < List.length c.2.2.2.2.1
 ·rw [decide_eq_true h0]
  refine eT (decide_eq_true (by omega)) ?_
  dsimp only
  rw [Y5.v _ _ hol]
  refine eT (Y5.d _ _ hol) ?_
  have hn:=write_n c.2.2.1 c.2.2.2.2.1
  refine eT ?_ ?_
  ·simp only [Bool.and_eq_true,decide_eq_true_eq]
   exact ⟨⟨hn.1,hn.2⟩,Int.le_refl _⟩
  ·dsimp only
   rw [Int.toNat_natCast,List.take_length]
   rfl
 ·rw [decide_eq_false h0]
  refine eF (decide_eq_false (by omega)) ?_
  dsimp only
  rw [a05.v _ h.p]
  refine eT (a05.d _ h.p) ?_
  dsimp only
  cases ht:(Chan.take (lnk c.2.2.2.1 5)).2.2 with
  | true =>
   have hb:=B61 (h.p.c 5 (by omega))
   refine eT rfl (eT ?_ ?_)
   ·simp only [Bool.and_eq_true,decide_eq_true_eq]
    omega
   ·refine (write_l _ (Chan.take (lnk c.2.2.2.1 5)).2.1 (by omega) _ _ _ _ _ _ _ _ (Chan.take (lnk c.2.2.2.1 5)).2.1 0 F (List.replicate (0:Nat) (0:Int)) rfl (by omega) (by simp; omega) (by omega)).trans ?_
    rfl
  | false =>
   refine eF rfl ?_
   rw [a15.v]
   exact eT (a15.d _) rfl
theorem L0.d (c:ConnS) (i:Int) (h:ConnOk c) (ho:outN c ≤ 1000000000):L0.dom c i = true:=C8 (L0.ev c i h ho)
theorem L0.v (c:ConnS) (i:Int) (h:ConnOk c) (ho:outN c ≤ 1000000000):L0.val c i = ((writeS c).1,(writeS c).2,()):=D5 (L0.ev c i h ho)
def goneS (c:ConnS) (i:Nat):Bool:=match i with
 | 0=>c.2.2.2.2.2.1.1
 | 6=>c.2.2.2.2.2.1.2.1
 | i + 1=>(stg c.2.2.2.1 i).2.2.2.1
def goesS (c:ConnS) (i:Nat):ConnS:=match i with
 | 0=>close1S c
 | 6=>dropS c
 | i + 1=>leaveS c i
def doesS (c:ConnS) (i:Nat):ConnS × Bool:=match i with
 | 0=>readS c
 | 6=>writeS c
 | i + 1=>(setP c (pstep c.2.2.2.1 i).1,(pstep c.2.2.2.1 i).2)
def cstep (c:ConnS) (i:Nat):ConnS × Bool:=bif goneS c i then (c,false) else bif c.2.1 then (goesS c i,true) else doesS c i
def outC (q:ConnS × Bool):CR:=some (q.1,q.2,())
theorem bif_eq {α:Type} {c:Bool} {a b a' b':α} (ha:a = a') (hb:b = b'):(bif c then a else b) = (bif c then a' else b'):=by subst ha hb; rfl
theorem R7.ev (c:ConnS) (i:Nat) (hi:i < 7) (h:ConnOk c) (ho:outN c ≤ 1000000000):R7.raw fuel c (i:Int) = outC (cstep c i):=by
 have key:∀ (x y z:CR),x = some (c,false,()) → y = some (goesS c i,true,()) → z = outC (doesS c i) → (bif goneS c i then x else bif c.2.1 then y else z) = outC (cstep c i):=by
  intro x y z hx hy hz
  subst hx hy hz
  unfold cstep outC
  cases goneS c i
  ·cases c.2.1 <;> rfl
  ·rfl
 have hk:=M8.v c h.on
 unfold R7.raw
 dsimp only
 rw [hk]
 refine eT (M8.d c h.on) ?_
 match i,hi with
 | 0,_ =>
  refine eT rfl (eF rfl (eF rfl (eF rfl (eT rfl ?_))))
  refine key _ _ _ rfl ?_ ?_
  ·refine eF rfl (eT rfl ?_)
   dsimp only
   rw [M6.v c _ h]
   exact eT (M6.d c _ h) rfl
  ·refine eT rfl ?_
   dsimp only
   rw [L8.v c _ h]
   exact eT (L8.d c _ h) rfl
 | 6,_ =>
  refine eT rfl (eF rfl (eF rfl (eF rfl (eF rfl (eF rfl (eF rfl (eF rfl (eF rfl (eF rfl (eT rfl ?_))))))))))
  refine key _ _ _ rfl ?_ ?_
  ·refine eF rfl (eF rfl (eF rfl (eF rfl (eF rfl (eF rfl (eF rfl (eT rfl ?_)))))))
   dsimp only
   rw [S7.v c _ h]
   exact eT (S7.d c _ h) rfl
  ·refine eF rfl (eF rfl (eF rfl (eF rfl (eF rfl (eF rfl (eT rfl ?_))))))
   dsimp only
   rw [L0.v c _ h ho]
   exact eT (L0.d c _ h ho) rfl
 | 1,_ =>
  have h2v:D4.val c ((1:Nat):Int) = ((stg c.2.2.2.1 0).2.2.2.1,()):=D4.v c 0 (by omega)
  have h2d:D4.dom c ((1:Nat):Int) = true:=D4.d c 0 (by omega)
  have hlv:M1.val c ((1:Nat):Int) = (leaveS c 0,()):=M1.v c 0 (by omega) h
  have hld:M1.dom c ((1:Nat):Int) = true:=M1.d c 0 (by omega) h
  have hsv:L1.val c ((1:Nat):Int) = (setP c (pstep c.2.2.2.1 0).1,(pstep c.2.2.2.1 0).2,()):=L1.v c 0 (by omega) h
  have hsd:L1.dom c ((1:Nat):Int) = true:=L1.d c 0 (by omega) h
  refine eT rfl (eF rfl (eF rfl (eF rfl (eF rfl (eF rfl (eF rfl (eT rfl ?_)))))))
  refine eT h2d ?_
  rw [h2v]
  refine key _ _ _ rfl ?_ ?_
  ·refine eF rfl (eF rfl (eF rfl (eF rfl (eT rfl ?_))))
   dsimp only
   rw [hlv]
   exact eT hld rfl
  ·refine eF rfl (eF rfl (eF rfl (eT rfl ?_)))
   dsimp only
   rw [hsv]
   exact eT hsd rfl
 | 2,_ =>
  have h2v:D4.val c ((2:Nat):Int) = ((stg c.2.2.2.1 1).2.2.2.1,()):=D4.v c 1 (by omega)
  have h2d:D4.dom c ((2:Nat):Int) = true:=D4.d c 1 (by omega)
  have hlv:M1.val c ((2:Nat):Int) = (leaveS c 1,()):=M1.v c 1 (by omega) h
  have hld:M1.dom c ((2:Nat):Int) = true:=M1.d c 1 (by omega) h
  have hsv:L1.val c ((2:Nat):Int) = (setP c (pstep c.2.2.2.1 1).1,(pstep c.2.2.2.1 1).2,()):=L1.v c 1 (by omega) h
  have hsd:L1.dom c ((2:Nat):Int) = true:=L1.d c 1 (by omega) h
  refine eT rfl (eF rfl (eF rfl (eF rfl (eF rfl (eF rfl (eF rfl (eT rfl ?_)))))))
  refine eT h2d ?_
  rw [h2v]
  refine key _ _ _ rfl ?_ ?_
  ·refine eF rfl (eF rfl (eF rfl (eF rfl (eT rfl ?_))))
   dsimp only
   rw [hlv]
   exact eT hld rfl
  ·refine eF rfl (eF rfl (eF rfl (eT rfl ?_)))
   dsimp only
   rw [hsv]
   exact eT hsd rfl
 | 3,_ =>
  have h2v:D4.val c ((3:Nat):Int) = ((stg c.2.2.2.1 2).2.2.2.1,()):=D4.v c 2 (by omega)
  have h2d:D4.dom c ((3:Nat):Int) = true:=D4.d c 2 (by omega)
  have hlv:M1.val c ((3:Nat):Int) = (leaveS c 2,()):=M1.v c 2 (by omega) h
  have hld:M1.dom c ((3:Nat):Int) = true:=M1.d c 2 (by omega) h
  have hsv:L1.val c ((3:Nat):Int) = (setP c (pstep c.2.2.2.1 2).1,(pstep c.2.2.2.1 2).2,()):=L1.v c 2 (by omega) h
  have hsd:L1.dom c ((3:Nat):Int) = true:=L1.d c 2 (by omega) h
  refine eT rfl (eF rfl (eF rfl (eF rfl (eF rfl (eF rfl (eF rfl (eT rfl ?_)))))))
  refine eT h2d ?_
  rw [h2v]
  refine key _ _ _ rfl ?_ ?_
  ·refine eF rfl (eF rfl (eF rfl (eF rfl (eT rfl ?_))))
   dsimp only
   rw [hlv]
   exact eT hld rfl
  ·refine eF rfl (eF rfl (eF rfl (eT rfl ?_)))
   dsimp only
   rw [hsv]
   exact eT hsd rfl
 | 4,_ =>
  have h2v:D4.val c ((4:Nat):Int) = ((stg c.2.2.2.1 3).2.2.2.1,()):=D4.v c 3 (by omega)
  have h2d:D4.dom c ((4:Nat):Int) = true:=D4.d c 3 (by omega)
  have hlv:M1.val c ((4:Nat):Int) = (leaveS c 3,()):=M1.v c 3 (by omega) h
  have hld:M1.dom c ((4:Nat):Int) = true:=M1.d c 3 (by omega) h
  have hsv:L1.val c ((4:Nat):Int) = (setP c (pstep c.2.2.2.1 3).1,(pstep c.2.2.2.1 3).2,()):=L1.v c 3 (by omega) h
  have hsd:L1.dom c ((4:Nat):Int) = true:=L1.d c 3 (by omega) h
  refine eT rfl (eF rfl (eF rfl (eF rfl (eF rfl (eF rfl (eF rfl (eT rfl ?_)))))))
  refine eT h2d ?_
  rw [h2v]
  refine key _ _ _ rfl ?_ ?_
  ·refine eF rfl (eF rfl (eF rfl (eF rfl (eT rfl ?_))))
   dsimp only
   rw [hlv]
   exact eT hld rfl
  ·refine eF rfl (eF rfl (eF rfl (eT rfl ?_)))
   dsimp only
   rw [hsv]
   exact eT hsd rfl
 | 5,_ =>
  have h2v:D4.val c ((5:Nat):Int) = ((stg c.2.2.2.1 4).2.2.2.1,()):=D4.v c 4 (by omega)
  have h2d:D4.dom c ((5:Nat):Int) = true:=D4.d c 4 (by omega)
  have hlv:M1.val c ((5:Nat):Int) = (leaveS c 4,()):=M1.v c 4 (by omega) h
  have hld:M1.dom c ((5:Nat):Int) = true:=M1.d c 4 (by omega) h
  have hsv:L1.val c ((5:Nat):Int) = (setP c (pstep c.2.2.2.1 4).1,(pstep c.2.2.2.1 4).2,()):=L1.v c 4 (by omega) h
  have hsd:L1.dom c ((5:Nat):Int) = true:=L1.d c 4 (by omega) h
  refine eT rfl (eF rfl (eF rfl (eF rfl (eF rfl (eF rfl (eF rfl (eT rfl ?_)))))))
  refine eT h2d ?_
  rw [h2v]
  refine key _ _ _ rfl ?_ ?_
  ·refine eF rfl (eF rfl (eF rfl (eF rfl (eT rfl ?_))))
   dsimp only
   rw [hlv]
   exact eT hld rfl
  ·refine eF rfl (eF rfl (eF rfl (eT rfl ?_)))
   dsimp only
   rw [hsv]
   exact eT hsd rfl
end Pt
end
section
open Go Go.Am
open IntKind (i64 u64 u8 i32 u32)
namespace Pt
theorem read_ok8 (w:Wire) (h:Wire.ok w = true):Wire.ok (Wire.read w 8).1 = true:=by
 have hw:=(Wire.ok_iff _).1 h
 unfold Wire.read
 rw [Wire.sane_of h]
 refine (Wire.ok_iff _).2 ⟨?_,hw.2.1,hw.2.2⟩
 show (List.drop _ w.1).length ≤ 4096
 rw [List.length_drop]
 omega
theorem write_facts (w:Wire) (b:List Int) (h:Wire.ok w = true):Wire.ok (Wire.write w b).1 = true ∧ List.length (Wire.write w b).1.2.2.2.1 + Int.toNat (Wire.write w b).1.2.2.1 = List.length w.2.2.2.1 + Int.toNat w.2.2.1 ∧ (Wire.write w b).1.1 = w.1:=by
 have hw:=(Wire.ok_iff _).1 h
 obtain ⟨a,ha⟩:∃ a:Int,a = w.2.2.1:=⟨_,rfl⟩
 have h1:(0:Int) ≤ a:=by rw [ha]; exact hw.2.1
 have h2:a ≤ 4096:=by rw [ha]; exact hw.2.2
 obtain ⟨n,hn⟩:∃ n,n = (b.take a.toNat).length:=⟨_,rfl⟩
 have hn2:n ≤ a.toNat:=by rw [hn,List.length_take]; exact Nat.min_le_left _ _
 unfold Wire.write
 rw [Wire.sane_of h,← ha]
 refine ⟨(Wire.ok_iff _).2 ⟨hw.1,?_,?_⟩,?_,rfl⟩
 ·show (0:Int) ≤ a - (((b.take a.toNat).length:Nat):Int)
  rw [← hn]; omega
 ·show a - (((b.take a.toNat).length:Nat):Int) ≤ (4096:Int)
  rw [← hn]; omega
 ·show (w.2.2.2.1 ++ b.take a.toNat).length + Int.toNat (a - (((b.take a.toNat).length:Nat):Int)) = _
  rw [List.length_append,← hn]
  show List.length w.2.2.2.1 + n + Int.toNat (a - (n:Int)) = List.length w.2.2.2.1 + Int.toNat a
  omega
theorem close1_ok {c:ConnS} (h:ConnOk c):ConnOk (close1S c):=⟨h.on,h.w,setL_ok h.p 0 _ (close_ok (h.p.c 0 (by omega))),h.hold⟩
theorem lnk_empty {p:PipeS} (h:PipeOk p) (i:Nat):ChanOk ([],(lnk p i).2):=by
 unfold ChanOk Chan.ok
 rfl
theorem drop_ok {c:ConnS} (h:ConnOk c):ConnOk (dropS c):=⟨h.on,h.w,setL_ok h.p 5 _ (lnk_empty h.p 5),Nat.zero_le _⟩
theorem B17 {c:ConnS} (h:ConnOk c) (i:Nat) (hi:i < 5):ConnOk (leaveS c i):=⟨h.on,h.w,pleave_ok h.p i hi,h.hold⟩
theorem readS_ok {c:ConnS} (h:ConnOk c):ConnOk (readS c).1 ∧ outN (readS c).1 = outN c:=by
 unfold readS
 cases List.length c.2.2.1.1 == 0 with
 | true =>
  cases c.2.2.1.2.1 with
  | true=>exact ⟨close1_ok h,rfl⟩
  | false=>exact ⟨h,rfl⟩
 | false =>
  cases decide (2 ≤ List.length (lnk c.2.2.2.1 0).1) with
  | true=>exact ⟨h,rfl⟩
  | false =>
   refine ⟨⟨h.on,read_ok8 _ h.w,setL_ok h.p 0 _ (put_ok (h.p.c 0 (by omega)) _),h.hold⟩,?_⟩
   show List.length (Wire.read c.2.2.1 8).1.2.2.2.1 + Int.toNat (Wire.read c.2.2.1 8).1.2.2.1 = outN c
   unfold Wire.read
   rw [Wire.sane_of h.w]
   rfl
theorem writeS_ok {c:ConnS} (h:ConnOk c):ConnOk (writeS c).1 ∧ outN (writeS c).1 = outN c:=by
 unfold writeS
 cases decide (0 < List.length c.2.2.2.2.1) with
 | true =>
  have hf:=write_facts c.2.2.1 c.2.2.2.2.1 h.w
  refine ⟨⟨h.on,hf.1,h.p,?_⟩,hf.2.1⟩
  show (List.drop _ c.2.2.2.2.1).length ≤ 8
  rw [List.length_drop]
  have:=h.hold
  omega
 | false =>
  cases (Chan.take (lnk c.2.2.2.1 5)).2.2 with
  | true =>
   refine ⟨⟨h.on,h.w,setL_ok h.p 5 _ (take_ok (h.p.c 5 (by omega))),?_⟩,rfl⟩
   show (List.map _ (Chan.take (lnk c.2.2.2.1 5)).2.1).length ≤ 8
   rw [List.length_map]
   exact B61 (h.p.c 5 (by omega))
  | false=>exact ⟨⟨h.on,h.w,h.p,h.hold⟩,rfl⟩
theorem cstep_ok {c:ConnS} (h:ConnOk c) (i:Nat) (hi:i < 7):ConnOk (cstep c i).1 ∧ outN (cstep c i).1 = outN c:=by
 unfold cstep
 cases goneS c i with
 | true=>exact ⟨h,rfl⟩
 | false =>
  cases c.2.1 with
  | true =>
   match i,hi with
   | 0,_=>exact ⟨close1_ok h,rfl⟩
   | 6,_=>exact ⟨drop_ok h,rfl⟩
   | 1,_=>exact ⟨B17 h 0 (by omega),rfl⟩
   | 2,_=>exact ⟨B17 h 1 (by omega),rfl⟩
   | 3,_=>exact ⟨B17 h 2 (by omega),rfl⟩
   | 4,_=>exact ⟨B17 h 3 (by omega),rfl⟩
   | 5,_=>exact ⟨B17 h 4 (by omega),rfl⟩
  | false =>
   match i,hi with
   | 0,_=>exact readS_ok h
   | 6,_=>exact writeS_ok h
   | 1,_=>exact ⟨⟨h.on,h.w,B13 h.p 0 (by omega),h.hold⟩,rfl⟩
   | 2,_=>exact ⟨⟨h.on,h.w,B13 h.p 1 (by omega),h.hold⟩,rfl⟩
   | 3,_=>exact ⟨⟨h.on,h.w,B13 h.p 2 (by omega),h.hold⟩,rfl⟩
   | 4,_=>exact ⟨⟨h.on,h.w,B13 h.p 3 (by omega),h.hold⟩,rfl⟩
   | 5,_=>exact ⟨⟨h.on,h.w,B13 h.p 4 (by omega),h.hold⟩,rfl⟩
def cstepI (c:ConnS) (i:Int):ConnS × Bool:=bif decide (0 ≤ i) && decide (i < 7) then cstep c i.toNat else (c,false)
theorem cstepI_in (c:ConnS) {i:Int} (h0:0 ≤ i) (h7:i < 7):cstepI c i = cstep c i.toNat:=by unfold cstepI; rw [decide_eq_true h0,decide_eq_true h7]; rfl
theorem D04 (c:ConnS) {i:Int} (h:¬ (0 ≤ i ∧ i < 7)):cstepI c i = (c,false):=by
 unfold cstepI
 have:(decide (0 ≤ i) && decide (i < 7)) = false:=by
  rw [Bool.and_eq_false_iff,decide_eq_false_iff_not,decide_eq_false_iff_not]
  omega
 rw [this]
 rfl
theorem a50.out (m:Nat) (i:Int) (h:¬ (0 ≤ i ∧ i < 7)):a50.raw m i = some ((none,none,none,()),false,()):=by
 unfold a50.raw
 by_cases h0:i < 0
 ·exact eT (decide_eq_true h0) rfl
 ·exact eF (decide_eq_false h0) (eT (decide_eq_true (by omega)) rfl)
theorem R7.evI (c:ConnS) (i:Int) (h:ConnOk c) (ho:outN c ≤ 1000000000):R7.raw fuel c i = outC (cstepI c i):=by
 by_cases hi:0 ≤ i ∧ i < 7
 ·obtain ⟨n,rfl⟩:∃ n:Nat,i = n:=⟨i.toNat,by omega⟩
  rw [cstepI_in c hi.1 hi.2,Int.toNat_natCast]
  exact R7.ev c n (by omega) h ho
 ·have e:=a50.out fuel i hi
  rw [D04 c hi]
  unfold R7.raw
  dsimp only
  rw [M8.v c h.on,show a50.val i = _ from D5 e]
  exact eT (M8.d c h.on) (eT (C8 e) (eT rfl rfl))
theorem R7.d (c:ConnS) (i:Int) (h:ConnOk c) (ho:outN c ≤ 1000000000):R7.dom c i = true:=C8 (R7.evI c i h ho)
theorem R7.v (c:ConnS) (i:Int) (h:ConnOk c) (ho:outN c ≤ 1000000000):R7.val c i = ((cstepI c i).1,(cstepI c i).2,()):=D5 (R7.evI c i h ho)
theorem w55 {c:ConnS} (h:ConnOk c) (i:Int):ConnOk (cstepI c i).1 ∧ outN (cstepI c i).1 = outN c:=by
 by_cases hi:0 ≤ i ∧ i < 7
 ·rw [cstepI_in c hi.1 hi.2]
  exact cstep_ok h i.toNat (by omega)
 ·rw [D04 c hi]
  exact ⟨h,rfl⟩
theorem S0.ev (m:Nat) (c:ConnS) (i:Nat) (hi:i < 7):S0.raw m c (i:Int) = some (goneS c i,()):=by
 unfold S0.raw
 match i,hi with
 | 0,_=>rfl
 | 6,_=>rfl
 | 1,_=>exact eT rfl (eT rfl (eF rfl (eT rfl (eT (D4.d c 0 (by omega)) (congrArg some (D4.v c 0 (by omega)))))))
 | 2,_=>exact eT rfl (eT rfl (eF rfl (eT rfl (eT (D4.d c 1 (by omega)) (congrArg some (D4.v c 1 (by omega)))))))
 | 3,_=>exact eT rfl (eT rfl (eF rfl (eT rfl (eT (D4.d c 2 (by omega)) (congrArg some (D4.v c 2 (by omega)))))))
 | 4,_=>exact eT rfl (eT rfl (eF rfl (eT rfl (eT (D4.d c 3 (by omega)) (congrArg some (D4.v c 3 (by omega)))))))
 | 5,_=>exact eT rfl (eT rfl (eF rfl (eT rfl (eT (D4.d c 4 (by omega)) (congrArg some (D4.v c 4 (by omega)))))))
theorem S0.d (c:ConnS) (i:Nat) (hi:i < 7):S0.dom c (i:Int) = true:=C8 (S0.ev fuel c i hi)
theorem S0.v (c:ConnS) (i:Nat) (hi:i < 7):S0.val c (i:Int) = (goneS c i,()):=D5 (S0.ev fuel c i hi)
def overS (c:ConnS):Bool:=(List.range 7).all (goneS c)
theorem over_l (K0:Bool → Option (Args [.bool])) (K1:Option (Args [.bool])) (c:ConnS):∀ (k i m:Nat),i + k = 7 → k < m →
  L5.l0 K0 K1 m (i:Int) c = bif (List.range' i k).all (goneS c) then K1 else K0 false:=by
 intro k
 induction k with
 | zero =>
  intro i m hi hm
  obtain ⟨m,rfl⟩:∃ k,m = k + 1:=⟨m - 1,by omega⟩
  have e1:decide ((i:Int) < 7) = false:=decide_eq_false (by omega)
  simp only [L5.l0,e1,cond_false,List.range'_zero,List.all_nil,cond_true]
 | succ k ih =>
  intro i m hi hm
  obtain ⟨m,rfl⟩:∃ k,m = k + 1:=⟨m - 1,by omega⟩
  have e1:decide ((i:Int) < 7) = true:=decide_eq_true (by omega)
  have e6:i64.wrap ((i:Int) + 1) = ((i + 1:Nat):Int):=by rw [wr (by omega) (by omega)]; omega
  simp only [L5.l0,e1,cond_true,e6]
  rw [S0.d c i (by omega),S0.v c i (by omega),List.range'_succ,List.all_cons,ih (i + 1) m (by omega) (by omega)]
  cases goneS c i <;> rfl
theorem L5.ev (c:ConnS):L5.raw fuel c = some (overS c,()):=by
 have hF:2000 < fuel:=a26 (by omega)
 generalize fuel = F at *
 have:=over_l (fun o4=>some ((o4,()))) (some ((true,()))) c 7 0 F rfl (by omega)
 refine Eq.trans this ?_
 unfold overS
 rw [List.range_eq_range']
 cases (List.range' 0 7).all (goneS c) <;> rfl
theorem L5.d (c:ConnS):L5.dom c = true:=C8 (L5.ev c)
theorem L5.v (c:ConnS):L5.val c = (overS c,()):=D5 (L5.ev c)
def conn0:ConnS:=(true,false,((nl (Ty.int u8).den,false,(0:Int),nl (Ty.int u8).den,()):Wire),pipe0,nl (Ty.int u8).den,(false,false,()),(0:Int),())
theorem w34:ConnOk conn0:=⟨rfl,by kernel_rfl,pipe0_ok,Nat.zero_le _⟩
theorem X9.ev:X9.raw fuel = some (conn0,()):=by
 have e:=O7.ev
 have h1:a42.val = (pipe0,()) ∧ a42.dom = true:=by
  unfold a42.val a42.dom a42.sg hsg
  dsimp only
  rw [a85,a85]
  exact ⟨D5 e,C8 e⟩
 unfold X9.raw
 dsimp only
 rw [h1.1]
 exact eT h1.2 rfl
theorem X9.d:X9.dom = true:=C8 X9.ev
theorem X9.v:X9.val = (conn0,()):=D5 X9.ev
theorem S2.ev (m:Nat) (c:ConnS) (b:List Int) (h:ConnOk c):S2.raw m c b = some (setW c (Wire.arrive c.2.2.1 b).1,(Wire.arrive c.2.2.1 b).2,()):=by
 unfold S2.raw
 dsimp only
 rw [M8.v c h.on,V3.v]
 exact eT (M8.d c h.on) (eT (V3.d _ _) rfl)
theorem S2.d (c:ConnS) (b:List Int) (h:ConnOk c):S2.dom c b = true:=C8 (S2.ev fuel c b h)
theorem S2.v (c:ConnS) (b:List Int) (h:ConnOk c):S2.val c b = (setW c (Wire.arrive c.2.2.1 b).1,(Wire.arrive c.2.2.1 b).2,()):=D5 (S2.ev fuel c b h)
theorem V0.ev (m:Nat) (c:ConnS) (h:ConnOk c):V0.raw m c = some (setW c (Wire.finish c.2.2.1),()):=by
 unfold V0.raw
 dsimp only
 rw [M8.v c h.on,V1.v]
 exact eT (M8.d c h.on) (eT (V1.d _) rfl)
theorem V0.d (c:ConnS) (h:ConnOk c):V0.dom c = true:=C8 (V0.ev fuel c h)
theorem V0.v (c:ConnS) (h:ConnOk c):V0.val c = (setW c (Wire.finish c.2.2.1),()):=D5 (V0.ev fuel c h)
theorem Z0.ev (m:Nat) (c:ConnS) (n:Int) (h:ConnOk c):Z0.raw m c n = some (setW c (Wire.grant c.2.2.1 n).1,(Wire.grant c.2.2.1 n).2,()):=by
 unfold Z0.raw
 dsimp only
 rw [M8.v c h.on,Y8.v]
 exact eT (M8.d c h.on) (eT (Y8.d _ _) rfl)
theorem Z0.d (c:ConnS) (n:Int) (h:ConnOk c):Z0.dom c n = true:=C8 (Z0.ev fuel c n h)
theorem Z0.v (c:ConnS) (n:Int) (h:ConnOk c):Z0.val c n = (setW c (Wire.grant c.2.2.1 n).1,(Wire.grant c.2.2.1 n).2,()):=D5 (Z0.ev fuel c n h)
def cancelS (c:ConnS):ConnS:=bif overS c then c else (c.1,true,(nl Int,true,c.2.2.1.2.2),c.2.2.2)
theorem V2.ev (m:Nat) (c:ConnS) (h:ConnOk c):V2.raw m c = some (cancelS c,()):=by
 unfold V2.raw cancelS
 dsimp only
 rw [M8.v c h.on]
 refine eT (M8.d c h.on) ?_
 dsimp only
 rw [L5.v]
 refine eT (L5.d c) ?_
 cases overS c <;> rfl
theorem V2.d (c:ConnS) (h:ConnOk c):V2.dom c = true:=C8 (V2.ev fuel c h)
theorem V2.v (c:ConnS) (h:ConnOk c):V2.val c = (cancelS c,()):=D5 (V2.ev fuel c h)
theorem setW_ok {c:ConnS} (h:ConnOk c) {w:Wire} (hw:Wire.ok w = true):ConnOk (setW c w):=⟨h.on,hw,h.p,h.hold⟩
theorem arrive_facts (w:Wire) (b:List Int) (h:Wire.ok w = true):Wire.ok (Wire.arrive w b).1 = true ∧ (Wire.arrive w b).1.2.2 = w.2.2 ∧ (Wire.arrive w b).1.2.1 = w.2.1:=by
 have hw:=(Wire.ok_iff _).1 h
 unfold Wire.arrive
 rw [Wire.sane_of h]
 cases he:w.2.1 with
 | true=>exact ⟨h,rfl,he⟩
 | false =>
  by_cases hl:List.length w.1 + b.length ≤ 4096
  ·rw [decide_eq_true hl]
   exact ⟨(Wire.ok_iff _).2 ⟨by show (w.1 ++ b).length ≤ 4096; rw [List.length_append]; exact hl,hw.2.1,hw.2.2⟩,rfl,he⟩
  ·rw [decide_eq_false hl]
   exact ⟨h,rfl,he⟩
theorem B85 {c:ConnS} (h:ConnOk c) (b:List Int):ConnOk (setW c (Wire.arrive c.2.2.1 b).1) ∧ outN (setW c (Wire.arrive c.2.2.1 b).1) = outN c:=by
 obtain ⟨h1,h2,_⟩:=arrive_facts c.2.2.1 b h.w
 refine ⟨setW_ok h h1,?_⟩
 unfold outN setW
 dsimp only
 rw [h2]
theorem finish_facts (w:Wire) (h:Wire.ok w = true):Wire.ok (Wire.finish w) = true ∧ (Wire.finish w) = (w.1,true,w.2.2):=by
 have hw:=(Wire.ok_iff _).1 h
 have e:Wire.finish w = (w.1,true,w.2.2):=by
  unfold Wire.finish
  rw [Wire.sane_of h]
 exact ⟨by rw [e]; exact (Wire.ok_iff _).2 hw,e⟩
theorem C94 {c:ConnS} (h:ConnOk c):ConnOk (setW c (Wire.finish c.2.2.1)) ∧ outN (setW c (Wire.finish c.2.2.1)) = outN c:=by
 obtain ⟨h1,h2⟩:=finish_facts c.2.2.1 h.w
 refine ⟨setW_ok h h1,?_⟩
 unfold outN setW
 dsimp only
 rw [h2]
theorem C72 {c:ConnS} (h:ConnOk c):ConnOk (cancelS c) ∧ outN (cancelS c) = outN c:=by
 have hw:=(Wire.ok_iff _).1 h.w
 unfold cancelS
 cases overS c with
 | true=>exact ⟨h,rfl⟩
 | false=>exact ⟨⟨h.on,(Wire.ok_iff _).2 ⟨Nat.zero_le _,hw.2.1,hw.2.2⟩,h.p,h.hold⟩,rfl⟩
theorem grant_facts (w:Wire) (n:Int) (h:Wire.ok w = true):Wire.ok (Wire.grant w n).1 = true ∧ (Wire.grant w n).1.2.2.2.1 = w.2.2.2.1 ∧ (Wire.grant w n).1.1 = w.1 ∧ (Wire.grant w n).1.2.1 = w.2.1:=by
 have hw:=(Wire.ok_iff _).1 h
 obtain ⟨a,ha⟩:∃ a:Int,a = w.2.2.1:=⟨_,rfl⟩
 have h1:(0:Int) ≤ a:=by rw [ha]; exact hw.2.1
 have h2:a ≤ 4096:=by rw [ha]; exact hw.2.2
 unfold Wire.grant
 rw [Wire.sane_of h]
 by_cases hn:n < 0
 ·rw [decide_eq_true hn]; exact ⟨h,rfl,rfl,rfl⟩
 ·rw [decide_eq_false hn,← ha]
  by_cases hk:n > 4096 - a
  ·rw [decide_eq_true hk]; exact ⟨h,rfl,rfl,rfl⟩
  ·rw [decide_eq_false hk]
   refine ⟨(Wire.ok_iff _).2 ⟨hw.1,?_,?_⟩,rfl,rfl,rfl⟩
   ·show (0:Int) ≤ a + n; omega
   ·show a + n ≤ (4096:Int); omega
theorem grantS_ok {c:ConnS} (h:ConnOk c) (n:Int):ConnOk (setW c (Wire.grant c.2.2.1 n).1) ∧ outN (setW c (Wire.grant c.2.2.1 n).1) ≤ outN c + 4096:=by
 obtain ⟨h1,h2,_⟩:=grant_facts c.2.2.1 n h.w
 have hw:=(Wire.ok_iff _).1 h1
 refine ⟨setW_ok h h1,?_⟩
 unfold outN setW
 dsimp only
 rw [h2]
 obtain ⟨a,ha⟩:∃ a:Int,a = (Wire.grant c.2.2.1 n).1.2.2.1:=⟨_,rfl⟩
 have h4:a ≤ 4096:=by rw [ha]; exact hw.2.2
 rw [← ha]
 omega
def sumL:List (List Int) → Nat
 | []=>0
 | b :: l=>b.length + sumL l
theorem count_l (K0:Int → Option (Args [.int .i64])) (xs:List (List Int)) (hx:xs.length ≤ 2) (hb:∀ b ∈ xs,b.length ≤ 8) :
  ∀ (r:List (List Int)) (i m n:Nat),xs.drop i = r → i ≤ xs.length → n + 8 * r.length ≤ 1000000 → r.length < m →
   D1.l0 K0 m (n:Int) xs (xs.length:Int) (i:Int) = K0 ((n + sumL r:Nat):Int):=by
 intro r
 induction r with
 | nil =>
  intro i m n hd hi hn hm
  obtain ⟨m,rfl⟩:∃ k,m = k + 1:=⟨m - 1,by omega⟩
  have:=a69 hd hi
  have e1:decide ((i:Int) < (xs.length:Int)) = false:=decide_eq_false (by omega)
  simp only [D1.l0,e1,cond_false,sumL,Nat.add_zero]
 | cons d r ih =>
  intro i m n hd hi hn hm
  obtain ⟨m,rfl⟩:∃ k,m = k + 1:=⟨m - 1,by omega⟩
  obtain ⟨hlt,hg,hr⟩:=a60 hd ((Ty.int i64).slice.dflt)
  have hto:Int.toNat (i:Int) = i:=Int.toNat_natCast i
  have e1:decide ((i:Int) < (xs.length:Int)) = true:=decide_eq_true (by omega)
  have e2:decide ((0:Int) ≤ (i:Int)) = true:=decide_eq_true (by omega)
  have e6:i64.wrap ((i:Int) + 1) = ((i + 1:Nat):Int):=by rw [wr (by omega) (by omega)]; omega
  have hbd:d.length ≤ 8:=hb d (by rw [← List.take_append_drop i xs,hd]; simp)
  have hn':=hn
  simp only [List.length_cons] at hn'
  have e3:i64.wrap ((n:Int) + ((List.length d:Nat):Int)) = ((n + d.length:Nat):Int):=by rw [wr (by omega) (by omega)]; omega
  simp only [List.length_cons] at hm
  have hl2:xs.length ≤ 2:=hx
  simp only [D1.l0,hto,hg,e1,e2,e3,e6,cond_true,Bool.and_self]
  rw [ih (i + 1) m (n + d.length) hr (by omega) (by omega) (by omega)]
  simp only [sumL,Nat.add_assoc]
theorem sumL_le:∀ l:List (List Int),(∀ b ∈ l,b.length ≤ 8) → sumL l ≤ 8 * l.length
 | [],_=>Nat.zero_le _
 | b :: l,h=>by
  have h1:=h b List.mem_cons_self
  have h2:=sumL_le l fun x hx=>h x (List.mem_cons_of_mem _ hx)
  simp only [sumL,List.length_cons]
  omega
theorem D1.ev (c:Chan) (h:ChanOk c):D1.raw fuel c = some ((sumL c.1:Int),()):=by
 have hF:2000 < fuel:=a26 (by omega)
 have hl:=h.len
 generalize fuel = F at *
 unfold D1.raw
 dsimp only
 rw [O6.v,Chan.sane_of h]
 refine eT (O6.d c) ?_
 have:=count_l (fun o6=>some ((o6,()))) c.1 hl (fun b hb=>(h.fits b hb).2) c.1 0 F 0 rfl (by omega) (by omega) (by omega)
 rw [Nat.zero_add] at this
 exact this
theorem D1.d (c:Chan) (h:ChanOk c):D1.dom c = true:=C8 (D1.ev c h)
theorem D1.v (c:Chan) (h:ChanOk c):D1.val c = ((sumL c.1:Int),()):=D5 (D1.ev c h)
theorem w03 {c:Chan} (h:ChanOk c):sumL c.1 ≤ 16:=by
 have h1:=sumL_le c.1 fun b hb=>(h.fits b hb).2
 have h2:=h.len
 omega
def scost (s:StageS):Nat:=costN s.1 + List.length s.2.1
theorem w09 {s:StageS} (h:StageOk s):scost s ≤ 288:=by
 have h1:=cost_le s.1 h.m
 have h2:=h.p
 unfold scost
 omega
theorem M4.ev (m:Nat) (s:StageS) (h:StageOk s):M4.raw m s = some ((scost s:Int),()):=by
 have hc:=w09 h
 unfold scost at hc
 unfold M4.raw
 dsimp only
 rw [U6.v s h,V7.v _ h.m]
 refine eT (U6.d s h) (eT (V7.d _ h.m) ?_)
 dsimp only
 have e:i64.wrap ((costN s.1:Int) + ((List.length s.2.1:Nat):Int)) = ((scost s:Nat):Int):=by unfold scost; rw [wr (by omega) (by omega)]; omega
 rw [e]
theorem M4.d (s:StageS) (h:StageOk s):M4.dom s = true:=C8 (M4.ev fuel s h)
theorem M4.v (s:StageS) (h:StageOk s):M4.val s = ((scost s:Int),()):=D5 (M4.ev fuel s h)
def liveP (p:PipeS):Nat:=scost (stg p 0) + scost (stg p 1) + scost (stg p 2) + scost (stg p 3) + scost (stg p 4) + (sumL (lnk p 0).1 + sumL (lnk p 1).1 + sumL (lnk p 2).1 + sumL (lnk p 3).1 + sumL (lnk p 4).1 + sumL (lnk p 5).1)
theorem live_s0 (K0:Int → PipeS → Option (Args [.int .i64])) (m n:Nat) (p:PipeS) (h:PipeOk p) (hn:n ≤ 100000) :
  D0.l0 K0 (m + 1) (n:Int) p.2.1 (0:Int) p = D0.l0 K0 m ((n + scost (stg p 0):Nat):Int) p.2.1 (1:Int) p:=by
 have hc:=w09 (h.s 0 (by omega)).1
 have hd:M4.dom p.2.1.1 = true:=M4.d _ (h.s 0 (by omega)).1
 have hv:M4.val p.2.1.1 = ((scost (stg p 0):Int),()):=M4.v _ (h.s 0 (by omega)).1
 have e3:i64.wrap ((n:Int) + ((scost (stg p 0):Nat):Int)) = ((n + scost (stg p 0):Nat):Int):=by rw [wr (by omega) (by omega)]; omega
 have e6:i64.wrap ((0:Int) + 1) = (1:Int):=by decide
 conv=>lhs; unfold D0.l0
 dsimp only
 rw [e6,hv]
 refine eT rfl (eT rfl (eT rfl (eT hd ?_)))
 rw [e3]
theorem live_s1 (K0:Int → PipeS → Option (Args [.int .i64])) (m n:Nat) (p:PipeS) (h:PipeOk p) (hn:n ≤ 100000) :
  D0.l0 K0 (m + 1) (n:Int) p.2.1 (1:Int) p = D0.l0 K0 m ((n + scost (stg p 1):Nat):Int) p.2.1 (2:Int) p:=by
 have hc:=w09 (h.s 1 (by omega)).1
 have hd:M4.dom p.2.1.2.1 = true:=M4.d _ (h.s 1 (by omega)).1
 have hv:M4.val p.2.1.2.1 = ((scost (stg p 1):Int),()):=M4.v _ (h.s 1 (by omega)).1
 have e3:i64.wrap ((n:Int) + ((scost (stg p 1):Nat):Int)) = ((n + scost (stg p 1):Nat):Int):=by rw [wr (by omega) (by omega)]; omega
 have e6:i64.wrap ((1:Int) + 1) = (2:Int):=by decide
 conv=>lhs; unfold D0.l0
 dsimp only
 rw [e6,hv]
 refine eT rfl (eT rfl (eF rfl (eT rfl (eT hd ?_))))
 rw [e3]
theorem live_s2 (K0:Int → PipeS → Option (Args [.int .i64])) (m n:Nat) (p:PipeS) (h:PipeOk p) (hn:n ≤ 100000) :
  D0.l0 K0 (m + 1) (n:Int) p.2.1 (2:Int) p = D0.l0 K0 m ((n + scost (stg p 2):Nat):Int) p.2.1 (3:Int) p:=by
 have hc:=w09 (h.s 2 (by omega)).1
 have hd:M4.dom p.2.1.2.2.1 = true:=M4.d _ (h.s 2 (by omega)).1
 have hv:M4.val p.2.1.2.2.1 = ((scost (stg p 2):Int),()):=M4.v _ (h.s 2 (by omega)).1
 have e3:i64.wrap ((n:Int) + ((scost (stg p 2):Nat):Int)) = ((n + scost (stg p 2):Nat):Int):=by rw [wr (by omega) (by omega)]; omega
 have e6:i64.wrap ((2:Int) + 1) = (3:Int):=by decide
 conv=>lhs; unfold D0.l0
 dsimp only
 rw [e6,hv]
 refine eT rfl (eT rfl (eF rfl (eF rfl (eT rfl (eT hd ?_)))))
 rw [e3]
theorem live_s3 (K0:Int → PipeS → Option (Args [.int .i64])) (m n:Nat) (p:PipeS) (h:PipeOk p) (hn:n ≤ 100000) :
  D0.l0 K0 (m + 1) (n:Int) p.2.1 (3:Int) p = D0.l0 K0 m ((n + scost (stg p 3):Nat):Int) p.2.1 (4:Int) p:=by
 have hc:=w09 (h.s 3 (by omega)).1
 have hd:M4.dom p.2.1.2.2.2.1 = true:=M4.d _ (h.s 3 (by omega)).1
 have hv:M4.val p.2.1.2.2.2.1 = ((scost (stg p 3):Int),()):=M4.v _ (h.s 3 (by omega)).1
 have e3:i64.wrap ((n:Int) + ((scost (stg p 3):Nat):Int)) = ((n + scost (stg p 3):Nat):Int):=by rw [wr (by omega) (by omega)]; omega
 have e6:i64.wrap ((3:Int) + 1) = (4:Int):=by decide
 conv=>lhs; unfold D0.l0
 dsimp only
 rw [e6,hv]
 refine eT rfl (eT rfl (eF rfl (eF rfl (eF rfl (eT rfl (eT hd ?_))))))
 rw [e3]
theorem live_s4 (K0:Int → PipeS → Option (Args [.int .i64])) (m n:Nat) (p:PipeS) (h:PipeOk p) (hn:n ≤ 100000) :
  D0.l0 K0 (m + 1) (n:Int) p.2.1 (4:Int) p = D0.l0 K0 m ((n + scost (stg p 4):Nat):Int) p.2.1 (5:Int) p:=by
 have hc:=w09 (h.s 4 (by omega)).1
 have hd:M4.dom p.2.1.2.2.2.2.1 = true:=M4.d _ (h.s 4 (by omega)).1
 have hv:M4.val p.2.1.2.2.2.2.1 = ((scost (stg p 4):Int),()):=M4.v _ (h.s 4 (by omega)).1
 have e3:i64.wrap ((n:Int) + ((scost (stg p 4):Nat):Int)) = ((n + scost (stg p 4):Nat):Int):=by rw [wr (by omega) (by omega)]; omega
 have e6:i64.wrap ((4:Int) + 1) = (5:Int):=by decide
 conv=>lhs; unfold D0.l0
 dsimp only
 rw [e6,hv]
 refine eT rfl (eT rfl (eF rfl (eF rfl (eF rfl (eF rfl (eT rfl (eT hd ?_)))))))
 rw [e3]
theorem live_c0 (K0:Int → Option (Args [.int .i64])) (m n:Nat) (p:PipeS) (h:PipeOk p) (hn:n ≤ 100000) :
  D0.l1 K0 (m + 1) (n:Int) p.2.2.1 (0:Int) = D0.l1 K0 m ((n + sumL (lnk p 0).1:Nat):Int) p.2.2.1 (1:Int):=by
 have hc:=w03 (h.c 0 (by omega))
 have hd:D1.dom p.2.2.1.1 = true:=D1.d _ (h.c 0 (by omega))
 have hv:D1.val p.2.2.1.1 = ((sumL (lnk p 0).1:Int),()):=D1.v _ (h.c 0 (by omega))
 have e3:i64.wrap ((n:Int) + ((sumL (lnk p 0).1:Nat):Int)) = ((n + sumL (lnk p 0).1:Nat):Int):=by rw [wr (by omega) (by omega)]; omega
 have e6:i64.wrap ((0:Int) + 1) = (1:Int):=by decide
 conv=>lhs; unfold D0.l1
 dsimp only
 rw [e6,hv]
 refine eT rfl (eT rfl (eT rfl (eT hd ?_)))
 rw [e3]
theorem live_c1 (K0:Int → Option (Args [.int .i64])) (m n:Nat) (p:PipeS) (h:PipeOk p) (hn:n ≤ 100000) :
  D0.l1 K0 (m + 1) (n:Int) p.2.2.1 (1:Int) = D0.l1 K0 m ((n + sumL (lnk p 1).1:Nat):Int) p.2.2.1 (2:Int):=by
 have hc:=w03 (h.c 1 (by omega))
 have hd:D1.dom p.2.2.1.2.1 = true:=D1.d _ (h.c 1 (by omega))
 have hv:D1.val p.2.2.1.2.1 = ((sumL (lnk p 1).1:Int),()):=D1.v _ (h.c 1 (by omega))
 have e3:i64.wrap ((n:Int) + ((sumL (lnk p 1).1:Nat):Int)) = ((n + sumL (lnk p 1).1:Nat):Int):=by rw [wr (by omega) (by omega)]; omega
 have e6:i64.wrap ((1:Int) + 1) = (2:Int):=by decide
 conv=>lhs; unfold D0.l1
 dsimp only
 rw [e6,hv]
 refine eT rfl (eT rfl (eF rfl (eT rfl (eT hd ?_))))
 rw [e3]
theorem live_c2 (K0:Int → Option (Args [.int .i64])) (m n:Nat) (p:PipeS) (h:PipeOk p) (hn:n ≤ 100000) :
  D0.l1 K0 (m + 1) (n:Int) p.2.2.1 (2:Int) = D0.l1 K0 m ((n + sumL (lnk p 2).1:Nat):Int) p.2.2.1 (3:Int):=by
 have hc:=w03 (h.c 2 (by omega))
 have hd:D1.dom p.2.2.1.2.2.1 = true:=D1.d _ (h.c 2 (by omega))
 have hv:D1.val p.2.2.1.2.2.1 = ((sumL (lnk p 2).1:Int),()):=D1.v _ (h.c 2 (by omega))
 have e3:i64.wrap ((n:Int) + ((sumL (lnk p 2).1:Nat):Int)) = ((n + sumL (lnk p 2).1:Nat):Int):=by rw [wr (by omega) (by omega)]; omega
 have e6:i64.wrap ((2:Int) + 1) = (3:Int):=by decide
 conv=>lhs; unfold D0.l1
 dsimp only
 rw [e6,hv]
 refine eT rfl (eT rfl (eF rfl (eF rfl (eT rfl (eT hd ?_)))))
 rw [e3]
theorem live_c3 (K0:Int → Option (Args [.int .i64])) (m n:Nat) (p:PipeS) (h:PipeOk p) (hn:n ≤ 100000) :
  D0.l1 K0 (m + 1) (n:Int) p.2.2.1 (3:Int) = D0.l1 K0 m ((n + sumL (lnk p 3).1:Nat):Int) p.2.2.1 (4:Int):=by
 have hc:=w03 (h.c 3 (by omega))
 have hd:D1.dom p.2.2.1.2.2.2.1 = true:=D1.d _ (h.c 3 (by omega))
 have hv:D1.val p.2.2.1.2.2.2.1 = ((sumL (lnk p 3).1:Int),()):=D1.v _ (h.c 3 (by omega))
 have e3:i64.wrap ((n:Int) + ((sumL (lnk p 3).1:Nat):Int)) = ((n + sumL (lnk p 3).1:Nat):Int):=by rw [wr (by omega) (by omega)]; omega
 have e6:i64.wrap ((3:Int) + 1) = (4:Int):=by decide
 conv=>lhs; unfold D0.l1
 dsimp only
 rw [e6,hv]
 refine eT rfl (eT rfl (eF rfl (eF rfl (eF rfl (eT rfl (eT hd ?_))))))
 rw [e3]
theorem live_c4 (K0:Int → Option (Args [.int .i64])) (m n:Nat) (p:PipeS) (h:PipeOk p) (hn:n ≤ 100000) :
  D0.l1 K0 (m + 1) (n:Int) p.2.2.1 (4:Int) = D0.l1 K0 m ((n + sumL (lnk p 4).1:Nat):Int) p.2.2.1 (5:Int):=by
 have hc:=w03 (h.c 4 (by omega))
 have hd:D1.dom p.2.2.1.2.2.2.2.1 = true:=D1.d _ (h.c 4 (by omega))
 have hv:D1.val p.2.2.1.2.2.2.2.1 = ((sumL (lnk p 4).1:Int),()):=D1.v _ (h.c 4 (by omega))
 have e3:i64.wrap ((n:Int) + ((sumL (lnk p 4).1:Nat):Int)) = ((n + sumL (lnk p 4).1:Nat):Int):=by rw [wr (by omega) (by omega)]; omega
 have e6:i64.wrap ((4:Int) + 1) = (5:Int):=by decide
 conv=>lhs; unfold D0.l1
 dsimp only
 rw [e6,hv]
 refine eT rfl (eT rfl (eF rfl (eF rfl (eF rfl (eF rfl (eT rfl (eT hd ?_)))))))
 rw [e3]
theorem live_c5 (K0:Int → Option (Args [.int .i64])) (m n:Nat) (p:PipeS) (h:PipeOk p) (hn:n ≤ 100000) :
  D0.l1 K0 (m + 1) (n:Int) p.2.2.1 (5:Int) = D0.l1 K0 m ((n + sumL (lnk p 5).1:Nat):Int) p.2.2.1 (6:Int):=by
 have hc:=w03 (h.c 5 (by omega))
 have hd:D1.dom p.2.2.1.2.2.2.2.2.1 = true:=D1.d _ (h.c 5 (by omega))
 have hv:D1.val p.2.2.1.2.2.2.2.2.1 = ((sumL (lnk p 5).1:Int),()):=D1.v _ (h.c 5 (by omega))
 have e3:i64.wrap ((n:Int) + ((sumL (lnk p 5).1:Nat):Int)) = ((n + sumL (lnk p 5).1:Nat):Int):=by rw [wr (by omega) (by omega)]; omega
 have e6:i64.wrap ((5:Int) + 1) = (6:Int):=by decide
 conv=>lhs; unfold D0.l1
 dsimp only
 rw [e6,hv]
 refine eT rfl (eT rfl (eF rfl (eF rfl (eF rfl (eF rfl (eF rfl (eT rfl (eT hd ?_))))))))
 rw [e3]
theorem live_le {p:PipeS} (h:PipeOk p):liveP p ≤ 1536:=by
 have a0:=w09 (h.s 0 (by omega)).1
 have a1:=w09 (h.s 1 (by omega)).1
 have a2:=w09 (h.s 2 (by omega)).1
 have a3:=w09 (h.s 3 (by omega)).1
 have a4:=w09 (h.s 4 (by omega)).1
 have b0:=w03 (h.c 0 (by omega))
 have b1:=w03 (h.c 1 (by omega))
 have b2:=w03 (h.c 2 (by omega))
 have b3:=w03 (h.c 3 (by omega))
 have b4:=w03 (h.c 4 (by omega))
 have b5:=w03 (h.c 5 (by omega))
 unfold liveP
 omega
theorem D0.ev (p:PipeS) (h:PipeOk p):D0.raw fuel p = some ((liveP p:Int),()):=by
 obtain ⟨F,hF⟩:∃ F,fuel = F + 7:=⟨999999999993,rfl⟩
 rw [hF]
 clear hF
 have hle:=live_le h
 unfold liveP at hle
 have z0:((0:Nat):Int) = 0:=rfl
 unfold D0.raw
 refine (live_s0 _ (F + 6) 0 p h (by omega)).trans ?_
 refine (live_s1 _ (F + 5) _ p h (by omega)).trans ?_
 refine (live_s2 _ (F + 4) _ p h (by omega)).trans ?_
 refine (live_s3 _ (F + 3) _ p h (by omega)).trans ?_
 refine (live_s4 _ (F + 2) _ p h (by omega)).trans ?_
 conv=>lhs; unfold D0.l0
 dsimp only
 refine eF rfl ?_
 refine (live_c0 _ (F + 6) _ p h (by omega)).trans ?_
 refine (live_c1 _ (F + 5) _ p h (by omega)).trans ?_
 refine (live_c2 _ (F + 4) _ p h (by omega)).trans ?_
 refine (live_c3 _ (F + 3) _ p h (by omega)).trans ?_
 refine (live_c4 _ (F + 2) _ p h (by omega)).trans ?_
 refine (live_c5 _ (F + 1) _ p h (by omega)).trans ?_
 conv=>lhs; unfold D0.l1
 dsimp only
 refine eF rfl ?_
 unfold liveP
 congr 3
 omega
theorem D0.d (p:PipeS) (h:PipeOk p):D0.dom p = true:=C8 (D0.ev p h)
theorem D0.v (p:PipeS) (h:PipeOk p):D0.val p = ((liveP p:Int),()):=D5 (D0.ev p h)
def liveC (c:ConnS):Nat:=liveP c.2.2.2.1 + List.length c.2.2.2.2.1
theorem liveC_le {c:ConnS} (h:ConnOk c):liveC c ≤ 1544:=by
 have h1:=live_le h.p
 have h2:=h.hold
 unfold liveC
 omega
theorem Z7.ev (m:Nat) (c:ConnS) (h:ConnOk c):Z7.raw m c = some ((liveC c:Int),()):=by
 have hle:=liveC_le h
 unfold liveC at hle
 unfold Z7.raw
 dsimp only
 rw [D0.v _ h.p]
 refine eT (D0.d _ h.p) ?_
 dsimp only
 have e:i64.wrap ((liveP c.2.2.2.1:Int) + ((List.length c.2.2.2.2.1:Nat):Int)) = ((liveC c:Nat):Int):=by unfold liveC; rw [wr (by omega) (by omega)]; omega
 rw [e]
theorem Z7.d (c:ConnS) (h:ConnOk c):Z7.dom c = true:=C8 (Z7.ev fuel c h)
theorem Z7.v (c:ConnS) (h:ConnOk c):Z7.val c = ((liveC c:Int),()):=D5 (Z7.ev fuel c h)
theorem T2.ev (m:Nat) (c:ConnS) (i:Int) (h:ConnOk c) (ho:outN c ≤ 1000000000):T2.raw m c i = some ((cstepI c i).2,()):=by
 unfold T2.raw
 dsimp only
 rw [R7.v c i h ho]
 exact eT (R7.d c i h ho) rfl
theorem T2.d (c:ConnS) (i:Int) (h:ConnOk c) (ho:outN c ≤ 1000000000):T2.dom c i = true:=C8 (T2.ev fuel c i h ho)
theorem T2.v (c:ConnS) (i:Int) (h:ConnOk c) (ho:outN c ≤ 1000000000):T2.val c i = ((cstepI c i).2,()):=D5 (T2.ev fuel c i h ho)
def readyL (c:ConnS):List Int:=parts7.filter fun i=>(cstepI c i).2
theorem T1.v (c:ConnS) (h:ConnOk c) (ho:outN c ≤ 1000000000):T1.val c = (readyL c,()):=by
 unfold T1.val readyL
 congr 1
 refine List.filter_congr fun i _=>?_
 rw [T2.v c i h ho]
theorem T1.d (c:ConnS) (h:ConnOk c) (ho:outN c ≤ 1000000000):T1.dom c = true:=by
 unfold T1.dom
 rw [List.all_eq_true]
 exact fun i _=>T2.d c i h ho
def driveS:ConnS → List Int → ConnS × Nat
 | c,[]=>(c,0)
 | c,i :: l=>((driveS (cstepI c i).1 l).1,(driveS (cstepI c i).1 l).2 + (bif (cstepI c i).2 then 1 else 0))
theorem w56:∀ (l:List Int) (c:ConnS),ConnOk c → ConnOk (driveS c l).1 ∧ outN (driveS c l).1 = outN c ∧ (driveS c l).2 ≤ l.length
 | [],c,h=>⟨h,rfl,Nat.le_refl _⟩
 | i :: l,c,h=>by
  obtain ⟨h1,h2⟩:=w55 h i
  obtain ⟨g1,g2,g3⟩:=w56 l _ h1
  refine ⟨g1,g2.trans h2,?_⟩
  show (driveS (cstepI c i).1 l).2 + _ ≤ l.length + 1
  cases (cstepI c i).2
  ·show (driveS (cstepI c i).1 l).2 + 0 ≤ _; omega
  ·show (driveS (cstepI c i).1 l).2 + 1 ≤ _; omega
theorem D12:∀ (l l':List Int) (c:ConnS),driveS c (l ++ l') = ((driveS (driveS c l).1 l').1,(driveS c l).2 + (driveS (driveS c l).1 l').2)
 | [],l',c=>by
  show driveS c l' = ((driveS c l').1,0 + (driveS c l').2)
  rw [Nat.zero_add]
 | i :: l,l',c=>by
  have ih:=D12 l l' (cstepI c i).1
  show ((driveS (cstepI c i).1 (l ++ l')).1,(driveS (cstepI c i).1 (l ++ l')).2 + _) = _
  rw [ih]
  show (_,_) = ((driveS (driveS (cstepI c i).1 l).1 l').1,_)
  congr 1
  show (driveS (cstepI c i).1 l).2 + (driveS (driveS (cstepI c i).1 l).1 l').2 + _ = (driveS (cstepI c i).1 l).2 + _ + (driveS (driveS (cstepI c i).1 l).1 l').2
  omega
theorem drive_l (K0:Int → ConnS → ConnS → Option (Args [a7,.int .i64])) (xs:List Int) (hx:xs.length ≤ 1000000) (z:ConnS) :
  ∀ (r:List Int) (i m n:Nat) (c:ConnS),xs.drop i = r → i ≤ xs.length → ConnOk c → outN c ≤ 1000000000 → n + r.length ≤ 2000000 → r.length < m →
   D9.l0 K0 m (n:Int) xs (xs.length:Int) (i:Int) c z = K0 ((n + (driveS c r).2:Nat):Int) (driveS c r).1 z:=by
 intro r
 induction r with
 | nil =>
  intro i m n c hd hi hc ho hn hm
  obtain ⟨m,rfl⟩:∃ k,m = k + 1:=⟨m - 1,by omega⟩
  have:=a69 hd hi
  have e1:decide ((i:Int) < (xs.length:Int)) = false:=decide_eq_false (by omega)
  simp only [D9.l0,e1,cond_false,driveS,Nat.add_zero]
 | cons d r ih =>
  intro i m n c hd hi hc ho hn hm
  obtain ⟨m,rfl⟩:∃ k,m = k + 1:=⟨m - 1,by omega⟩
  obtain ⟨hlt,hg,hr⟩:=a60 hd (0:Int)
  have hto:Int.toNat (i:Int) = i:=Int.toNat_natCast i
  have e1:decide ((i:Int) < (xs.length:Int)) = true:=decide_eq_true (by omega)
  have e2:decide ((0:Int) ≤ (i:Int)) = true:=decide_eq_true (by omega)
  have e6:i64.wrap ((i:Int) + 1) = ((i + 1:Nat):Int):=by rw [wr (by omega) (by omega)]; omega
  simp only [List.length_cons] at hn hm
  have e3:i64.wrap ((n:Int) + 1) = ((n + 1:Nat):Int):=by rw [wr (by omega) (by omega)]; omega
  obtain ⟨h1,h2⟩:=w55 hc d
  simp only [D9.l0,hto,hg,e1,e2,e3,e6,cond_true,Bool.and_self,R7.d c d hc ho,R7.v c d hc ho]
  cases hq:(cstepI c d).2 with
  | true =>
   simp only [cond_true]
   rw [ih (i + 1) m (n + 1) _ hr (by omega) h1 (by omega) (by omega) (by omega)]
   have e:n + 1 + (driveS (cstepI c d).1 r).2 = n + (driveS c (d :: r)).2:=by
    show _ = n + ((driveS (cstepI c d).1 r).2 + (bif (cstepI c d).2 then 1 else 0))
    rw [hq]
    show _ = n + ((driveS (cstepI c d).1 r).2 + 1)
    omega
   rw [e]
   rfl
  | false =>
   simp only [cond_false]
   rw [ih (i + 1) m n _ hr (by omega) h1 (by omega) (by omega) (by omega)]
   have e:n + (driveS (cstepI c d).1 r).2 = n + (driveS c (d :: r)).2:=by
    show _ = n + ((driveS (cstepI c d).1 r).2 + (bif (cstepI c d).2 then 1 else 0))
    rw [hq]
    rfl
   rw [e]
   rfl
theorem D9.ev (c:ConnS) (xs:List Int) (hx:xs.length ≤ 1000000) (hc:ConnOk c) (ho:outN c ≤ 1000000000):D9.raw fuel c xs = some ((driveS c xs).1,((driveS c xs).2:Int),()):=by
 have hF:1000001 < fuel:=a26 (by omega)
 generalize fuel = F at *
 unfold D9.raw
 refine (drive_l _ xs hx _ xs 0 F 0 c rfl (by omega) hc ho (by omega) (by omega)).trans ?_
 rw [Nat.zero_add]
theorem D9.d (c:ConnS) (xs:List Int) (hx:xs.length ≤ 1000000) (hc:ConnOk c) (ho:outN c ≤ 1000000000):D9.dom c xs = true:=C8 (D9.ev c xs hx hc ho)
theorem D9.v (c:ConnS) (xs:List Int) (hx:xs.length ≤ 1000000) (hc:ConnOk c) (ho:outN c ≤ 1000000000):D9.val c xs = ((driveS c xs).1,((driveS c xs).2:Int),()):=D5 (D9.ev c xs hx hc ho)
def roundsS:Nat → ConnS → List Int → ConnS × Nat
 | 0,c,_=>(c,0)
 | n + 1,c,l=>bif (driveS c l).2 == 0 then (c,0) else ((roundsS n (driveS c l).1 l).1,(roundsS n (driveS c l).1 l).2 + 1)
theorem B77:∀ (n:Nat) (c:ConnS) (l:List Int),ConnOk c → ConnOk (roundsS n c l).1 ∧ outN (roundsS n c l).1 = outN c ∧ (roundsS n c l).2 ≤ n
 | 0,c,l,h=>⟨h,rfl,Nat.le_refl _⟩
 | n + 1,c,l,h=>by
  unfold roundsS
  cases (driveS c l).2 == 0
  ·obtain ⟨h1,h2,_⟩:=w56 l c h
   obtain ⟨g1,g2,g3⟩:=B77 n _ l h1
   exact ⟨g1,g2.trans h2,by show (roundsS n (driveS c l).1 l).2 + 1 ≤ n + 1; omega⟩
  ·exact ⟨h,rfl,Nat.zero_le _⟩
theorem C33:∀ (n k:Nat) (c:ConnS) (l:List Int),roundsS (n + k) c l = ((roundsS k (roundsS n c l).1 l).1,(roundsS n c l).2 + (roundsS k (roundsS n c l).1 l).2)
 | 0,k,c,l=>by
  rw [Nat.zero_add]
  show _ = ((roundsS k c l).1,0 + (roundsS k c l).2)
  rw [Nat.zero_add]
 | n + 1,k,c,l=>by
  have ih:=C33 n k (driveS c l).1 l
  rw [Nat.add_right_comm]
  cases hd:(driveS c l).2 == 0 with
  | true =>
   have e1:∀ q,roundsS (q + 1) c l = (c,0):=fun q=>by unfold roundsS; rw [hd]; rfl
   rw [e1,e1]
   cases k with
   | zero=>rfl
   | succ k=>rw [e1]; rfl
  | false =>
   have e1:∀ q,roundsS (q + 1) c l = ((roundsS q (driveS c l).1 l).1,(roundsS q (driveS c l).1 l).2 + 1):=fun q=>by
    have:roundsS (q + 1) c l = bif (driveS c l).2 == 0 then (c,0) else ((roundsS q (driveS c l).1 l).1,(roundsS q (driveS c l).1 l).2 + 1):=rfl
    rw [this,hd]
    rfl
   rw [e1,e1,ih]
   congr 1
   show (roundsS n (driveS c l).1 l).2 + (roundsS k (roundsS n (driveS c l).1 l).1 l).2 + 1 = (roundsS n (driveS c l).1 l).2 + 1 + (roundsS k (roundsS n (driveS c l).1 l).1 l).2
   omega
theorem rounds_l (K0:Int → ConnS → ConnS → Option (Args [a7,.int .i64])) (xs:List Int) (hx:xs.length ≤ 1000000) (z:ConnS) (N:Nat) (hN:N ≤ 1000000) :
  ∀ (k i m:Nat) (c:ConnS),i + k = N → ConnOk c → outN c ≤ 1000000000 → k < m → E2.l0 K0 m xs (N:Int) (i:Int) c z = K0 ((i + (roundsS k c xs).2:Nat):Int) (roundsS k c xs).1 z:=by
 intro k
 induction k with
 | zero =>
  intro i m c hi hc ho hm
  obtain ⟨m,rfl⟩:∃ k,m = k + 1:=⟨m - 1,by omega⟩
  have e1:decide ((i:Int) < (N:Int)) = false:=decide_eq_false (by omega)
  simp only [E2.l0,e1,cond_false,roundsS,Nat.add_zero]
 | succ k ih =>
  intro i m c hi hc ho hm
  obtain ⟨m,rfl⟩:∃ k,m = k + 1:=⟨m - 1,by omega⟩
  have e1:decide ((i:Int) < (N:Int)) = true:=decide_eq_true (by omega)
  have e6:i64.wrap ((i:Int) + 1) = ((i + 1:Nat):Int):=by rw [wr (by omega) (by omega)]; omega
  obtain ⟨h1,h2,_⟩:=w56 xs c hc
  simp only [E2.l0,e1,e6,cond_true,D9.d c xs hx hc ho,D9.v c xs hx hc ho,natb]
  unfold roundsS
  cases hd:(driveS c xs).2 == 0 with
  | true=>simp only [cond_true,Nat.add_zero]
  | false =>
   simp only [cond_false]
   rw [ih (i + 1) m _ (by omega) h1 (by omega) (by omega)]
   have e:i + 1 + (roundsS k (driveS c xs).1 xs).2 = i + ((roundsS k (driveS c xs).1 xs).2 + 1):=by omega
   rw [e]
theorem E2.ev (c:ConnS) (xs:List Int) (n:Nat) (hn:n ≤ 1000000) (hx:xs.length ≤ 1000000) (hc:ConnOk c) (ho:outN c ≤ 1000000000):E2.raw fuel c xs (n:Int) = some ((roundsS n c xs).1,((roundsS n c xs).2:Int),()):=by
 have hF:1000001 < fuel:=a26 (by omega)
 generalize fuel = F at *
 unfold E2.raw
 refine (rounds_l _ xs hx _ n hn n 0 F c (by omega) hc ho (by omega)).trans ?_
 rw [Nat.zero_add]
theorem E2.d (c:ConnS) (xs:List Int) (n:Nat) (hn:n ≤ 1000000) (hx:xs.length ≤ 1000000) (hc:ConnOk c) (ho:outN c ≤ 1000000000):E2.dom c xs (n:Int) = true:=C8 (E2.ev c xs n hn hx hc ho)
theorem E2.v (c:ConnS) (xs:List Int) (n:Nat) (hn:n ≤ 1000000) (hx:xs.length ≤ 1000000) (hc:ConnOk c) (ho:outN c ≤ 1000000000):E2.val c xs (n:Int) = ((roundsS n c xs).1,((roundsS n c xs).2:Int),()):=D5 (E2.ev c xs n hn hx hc ho)
abbrev Op20:=Ty.den O5
def sevenS:Nat → Nat → ConnS → ConnS
 | 0,_,c=>c
 | k + 1,i,c=>sevenS k (i + 1) (cstepI c ((i % 7:Nat):Int)).1
theorem B99:∀ (k i:Nat) (c:ConnS),ConnOk c → ConnOk (sevenS k i c) ∧ outN (sevenS k i c) = outN c
 | 0,_,_,h=>⟨h,rfl⟩
 | k + 1,i,c,h=>by
  obtain ⟨h1,h2⟩:=w55 h ((i % 7:Nat):Int)
  obtain ⟨g1,g2⟩:=B99 k (i + 1) _ h1
  exact ⟨g1,g2.trans h2⟩
theorem tmod7 (i:Nat):Int.tmod (i:Int) 7 = ((i % 7:Nat):Int):=by
 rw [Int.tmod_eq_emod_of_nonneg (by omega)]
 omega
theorem do_l (K0:ConnS → ConnS → Option (Args [a7])) (x:Op20) (z:ConnS) (N:Nat) (hN:N ≤ 1000) (hx:i64.wrap (i64.wrap (↑(BitVec.ofInt (64:Nat) x.2.1 &&& BitVec.ofInt (64:Nat) (7:Int)).toNat:Int) * (7:Int)) = (N:Int)) :
  ∀ (k i m:Nat) (c:ConnS),i + k = N → ConnOk c → outN c ≤ 1000000000 → k < m → S4.l0 K0 m (i:Int) c x z = K0 (sevenS k i c) z:=by
 intro k
 induction k with
 | zero =>
  intro i m c hi hc ho hm
  obtain ⟨m,rfl⟩:∃ k,m = k + 1:=⟨m - 1,by omega⟩
  have e1:decide ((i:Int) < (N:Int)) = false:=decide_eq_false (by omega)
  simp only [S4.l0,hx,e1,cond_false,sevenS]
 | succ k ih =>
  intro i m c hi hc ho hm
  obtain ⟨m,rfl⟩:∃ k,m = k + 1:=⟨m - 1,by omega⟩
  have e1:decide ((i:Int) < (N:Int)) = true:=decide_eq_true (by omega)
  have e6:i64.wrap ((i:Int) + 1) = ((i + 1:Nat):Int):=by rw [wr (by omega) (by omega)]; omega
  obtain ⟨h1,h2⟩:=w55 hc ((i % 7:Nat):Int)
  simp only [S4.l0,hx,e1,e6,tmod7,cond_true,R7.d c _ hc ho,R7.v c _ hc ho]
  exact ih (i + 1) m _ (by omega) h1 (by omega) (by omega)
theorem and7 (x:Int):∃ N:Nat,N ≤ 49 ∧ i64.wrap (i64.wrap (↑(BitVec.ofInt (64:Nat) x &&& BitVec.ofInt (64:Nat) (7:Int)).toNat:Int) * (7:Int)) = (N:Int):=by
 have hb:(BitVec.ofInt 64 x &&& BitVec.ofInt 64 (7:Int)).toNat ≤ 7:=by
  rw [BitVec.toNat_and]
  exact Nat.and_le_right
 refine ⟨(BitVec.ofInt 64 x &&& BitVec.ofInt 64 (7:Int)).toNat * 7,by omega,?_⟩
 generalize (BitVec.ofInt 64 x &&& BitVec.ofInt 64 (7:Int)).toNat = n at *
 have e1:i64.wrap (n:Int) = (n:Int):=wr (by omega) (by omega)
 rw [e1,wr (by omega) (by omega)]
 omega
theorem S4.ex (c:ConnS) (x:Op20) (hc:ConnOk c) (ho:outN c ≤ 1000000000):∃ c',S4.raw fuel c x = some (c',()) ∧ ConnOk c' ∧ outN c' ≤ outN c + 4096:=by
 obtain ⟨N,hN,hx⟩:=and7 x.2.1
 have hF:2000 < fuel:=a26 (by omega)
 generalize hfu:fuel = F at *
 unfold S4.raw
 dsimp only
 rw [S2.v c _ hc,V0.v c hc,Z0.v c _ hc,V2.v c hc,R7.v c _ hc ho,S2.d c _ hc,V0.d c hc,Z0.d c _ hc,V2.d c hc,R7.d c _ hc ho]
 cases @BEq.beq Int _ x.1 0 with
 | true=>exact ⟨_,rfl,(B85 hc _).1,by rw [(B85 hc _).2]; omega⟩
 | false =>
  cases @BEq.beq Int _ x.1 1 with
  | true=>exact ⟨_,rfl,(C94 hc).1,by rw [(C94 hc).2]; omega⟩
  | false =>
   cases @BEq.beq Int _ x.1 2 with
   | true=>exact ⟨_,rfl,(grantS_ok hc _).1,(grantS_ok hc _).2⟩
   | false =>
    cases @BEq.beq Int _ x.1 3 with
    | true=>exact ⟨_,rfl,(C72 hc).1,by rw [(C72 hc).2]; omega⟩
    | false =>
     cases @BEq.beq Int _ x.1 4 with
     | true=>exact ⟨_,rfl,(w55 hc _).1,by rw [(w55 hc _).2]; omega⟩
     | false =>
      cases @BEq.beq Int _ x.1 5 with
      | true =>
       refine ⟨sevenS N 0 c,?_,(B99 N 0 c hc).1,by rw [(B99 N 0 c hc).2]; omega⟩
       refine eF rfl (eF rfl (eF rfl (eF rfl (eF rfl (eT rfl ?_)))))
       exact do_l _ x _ N (by omega) hx N 0 F c (by omega) hc ho (by omega)
      | false=>exact ⟨_,rfl,hc,by omega⟩
theorem made_l (K0:ConnS → ConnS → Option (Args [a7])) (l:List Op20) (hl:l.length ≤ 1000) (z:ConnS) :
  ∀ (r:List Op20) (i m:Nat) (c:ConnS),l.drop i = r → i ≤ l.length → ConnOk c → outN c + 4096 * r.length ≤ 1000000000 → r.length < m →
   ∃ c',N2.l0 K0 m l (i:Int) z c = K0 z c' ∧ ConnOk c' ∧ outN c' ≤ outN c + 4096 * r.length:=by
 intro r
 induction r with
 | nil =>
  intro i m c hd hi hc ho hm
  obtain ⟨m,rfl⟩:∃ k,m = k + 1:=⟨m - 1,by omega⟩
  have:=a69 hd hi
  have e1:decide ((i:Int) < (l.length:Int)) = false:=decide_eq_false (by omega)
  exact ⟨c,by simp only [N2.l0,e1,cond_false],hc,by omega⟩
 | cons d r ih =>
  intro i m c hd hi hc ho hm
  obtain ⟨m,rfl⟩:∃ k,m = k + 1:=⟨m - 1,by omega⟩
  obtain ⟨hlt,hg,hr⟩:=a60 hd (O5.dflt)
  have hto:Int.toNat (i:Int) = i:=Int.toNat_natCast i
  have e1:decide ((i:Int) < (l.length:Int)) = true:=decide_eq_true (by omega)
  have e2:decide ((0:Int) ≤ (i:Int)) = true:=decide_eq_true (by omega)
  have e6:i64.wrap ((i:Int) + 1) = ((i + 1:Nat):Int):=by rw [wr (by omega) (by omega)]; omega
  simp only [List.length_cons] at ho hm
  obtain ⟨c1,h1,h2,h3⟩:=S4.ex c d hc (by omega)
  obtain ⟨c',g1,g2,g3⟩:=ih (i + 1) m c1 hr (by omega) h2 (by omega) (by omega)
  refine ⟨c',?_,g2,by simp only [List.length_cons]; omega⟩
  simp only [N2.l0,hto,hg,e1,e2,e6,cond_true,Bool.and_self,show S4.dom c d = true from C8 h1,show S4.val c d = (c1,()) from D5 h1]
  exact g1
theorem N2.ex (l:List Op20) (hl:l.length ≤ 1000):∃ c',N2.raw fuel l = some (c',()) ∧ ConnOk c' ∧ outN c' ≤ 4096 * 1000:=by
 have hn:=X9.v
 have hd:=X9.d
 have hF:2000 < fuel:=a26 (by omega)
 generalize fuel = F at *
 unfold N2.raw
 dsimp only
 rw [hn]
 have h0:outN conn0 = 0:=rfl
 obtain ⟨c',h1,h2,h3⟩:=made_l (fun o11 o12=>some ((o12,()))) l hl (false,false,(nl Int,false,(0:Int),nl Int,()),((false,((((0:Int),(ByteArray.mk (nl UInt8).toArray,()),(nl Int,()),(nl Int,(false,(0:Int),false,false,()),()),nl Int,()),nl Int,false,false,()),(((0:Int),(ByteArray.mk (nl UInt8).toArray,()),(nl Int,()),(nl Int,(false,(0:Int),false,false,()),()),nl Int,()),nl Int,false,false,()),(((0:Int),(ByteArray.mk (nl UInt8).toArray,()),(nl Int,()),(nl Int,(false,(0:Int),false,false,()),()),nl Int,()),nl Int,false,false,()),(((0:Int),(ByteArray.mk (nl UInt8).toArray,()),(nl Int,()),(nl Int,(false,(0:Int),false,false,()),()),nl Int,()),nl Int,false,false,()),(((0:Int),(ByteArray.mk (nl UInt8).toArray,()),(nl Int,()),(nl Int,(false,(0:Int),false,false,()),()),nl Int,()),nl Int,false,false,()),()),((nl (List (Ty.int i64).den),false,()),((nl (List (Ty.int i64).den),false,()),(nl (List (Ty.int i64).den),false,()),(nl (List (Ty.int i64).den),false,()),(nl (List (Ty.int i64).den),false,()),(nl (List (Ty.int i64).den),false,()),())),()),nl Int,(false,false,()),(0:Int),())) l 0 F conn0 rfl (by omega) w34 (by omega) (by omega)
 exact ⟨c',eT hd h1,h2,by omega⟩
theorem few_l (K0:List Op20 → Bool → Option (Args [.bool])) (K1:List Op20 → Option (Args [.bool])) (xs:List Op20) (hx:xs.length ≤ 1073741824) :
  ∀ (r:List Op20) (i m:Nat),xs.drop i = r → i ≤ xs.length → r.length < m →
   N8.l0 K0 K1 m xs (i:Int) = bif r.all (fun x=>decide (List.length x.2.2.1 ≤ 60)) then K1 xs else K0 xs false:=by
 intro r
 induction r with
 | nil =>
  intro i m hd hi hm
  obtain ⟨m,rfl⟩:∃ k,m = k + 1:=⟨m - 1,by omega⟩
  have:=a69 hd hi
  have e1:decide ((i:Int) < (xs.length:Int)) = false:=decide_eq_false (by omega)
  simp only [N8.l0,e1,cond_false,List.all_nil,cond_true]
 | cons d r ih =>
  intro i m hd hi hm
  obtain ⟨m,rfl⟩:∃ k,m = k + 1:=⟨m - 1,by omega⟩
  obtain ⟨hlt,hg,hr⟩:=a60 hd (O5.dflt)
  have hto:Int.toNat (i:Int) = i:=Int.toNat_natCast i
  have e1:decide ((i:Int) < (xs.length:Int)) = true:=decide_eq_true (by omega)
  have e2:decide ((0:Int) ≤ (i:Int)) = true:=decide_eq_true (by omega)
  have e6:i64.wrap ((i:Int) + 1) = ((i + 1:Nat):Int):=by rw [wr (by omega) (by omega)]; omega
  simp only [List.length_cons] at hm
  simp only [N8.l0,hto,hg,e1,e2,e6,cond_true,Bool.and_self,List.all_cons]
  by_cases h60:List.length d.2.2.1 ≤ 60
  ·rw [decide_eq_true h60,decide_eq_false (show ¬ ((List.length d.2.2.1:Int) > 60) by omega)]
   simp only [cond_false,Bool.true_and]
   exact ih (i + 1) m hr (by omega) (by omega)
  ·rw [decide_eq_false h60,decide_eq_true (show (List.length d.2.2.1:Int) > 60 by omega)]
   simp only [cond_true,Bool.false_and,cond_false]
def fewS (xs:List Op20):Bool:=xs.all (fun x=>decide (List.length x.2.2.1 ≤ 60)) && decide (xs.length ≤ 60)
theorem N8.ev (xs:List Op20) (hx:xs.length ≤ 1073741824):N8.raw fuel xs = some (fewS xs,()):=by
 have hF:1073741825 < fuel:=a26 (by omega)
 generalize fuel = F at *
 unfold N8.raw fewS
 refine (few_l _ _ xs hx xs 0 F rfl (by omega) (by omega)).trans ?_
 cases xs.all fun x=>decide (List.length x.2.2.1 ≤ 60) with
 | false=>rfl
 | true =>
  have e:decide ((xs.length:Int) ≤ 60) = decide (xs.length ≤ 60):=by
   by_cases h:xs.length ≤ 60
   ·rw [decide_eq_true h,decide_eq_true (by omega)]
   ·rw [decide_eq_false h,decide_eq_false (by omega)]
  show some (decide ((xs.length:Int) ≤ 60),()) = _
  rw [e]
  rfl
theorem N8.d (xs:List Op20) (hx:xs.length ≤ 1073741824):N8.dom xs = true:=C8 (N8.ev xs hx)
theorem N8.v (xs:List Op20) (hx:xs.length ≤ 1073741824):N8.val xs = (fewS xs,()):=D5 (N8.ev xs hx)
theorem same_l (K0:Bool → Option (Args [.bool])) (K1:Option (Args [.bool])) (xs:List Int) (hx:xs.length ≤ 1000000) :
  ∀ (r:List Int) (i m:Nat),xs.drop i = r → i ≤ xs.length → r.length < m → N6.l0 K0 K1 m xs xs (i:Int) = K1:=by
 intro r
 induction r with
 | nil =>
  intro i m hd hi hm
  obtain ⟨m,rfl⟩:∃ k,m = k + 1:=⟨m - 1,by omega⟩
  have:=a69 hd hi
  have e1:decide ((i:Int) < (xs.length:Int)) = false:=decide_eq_false (by omega)
  simp only [N6.l0,e1,cond_false]
 | cons d r ih =>
  intro i m hd hi hm
  obtain ⟨m,rfl⟩:∃ k,m = k + 1:=⟨m - 1,by omega⟩
  obtain ⟨hlt,hg,hr⟩:=a60 hd (0:Int)
  have hto:Int.toNat (i:Int) = i:=Int.toNat_natCast i
  have e1:decide ((i:Int) < (xs.length:Int)) = true:=decide_eq_true (by omega)
  have e2:decide ((0:Int) ≤ (i:Int)) = true:=decide_eq_true (by omega)
  have e6:i64.wrap ((i:Int) + 1) = ((i + 1:Nat):Int):=by rw [wr (by omega) (by omega)]; omega
  simp only [List.length_cons] at hm
  have e3:(d != d) = false:=by simp
  simp only [N6.l0,hto,hg,e1,e2,e3,e6,cond_true,cond_false,Bool.and_self]
  exact ih (i + 1) m hr (by omega) (by omega)
theorem N6.self (xs:List Int) (hx:xs.length ≤ 1000000):N6.raw fuel xs xs = some (true,()):=by
 have hF:1000001 < fuel:=a26 (by omega)
 generalize fuel = F at *
 unfold N6.raw
 refine eF (by simp) ?_
 exact same_l _ _ xs hx xs 0 F rfl (by omega) (by omega)
theorem readyL_len (c:ConnS):(readyL c).length ≤ 7:=List.length_filter_le _ _
theorem near_self (c:ConnS) (h:ConnOk c) (ho:outN c ≤ 1000000000):a09.raw fuel c c = some (true,()):=by
 have hs:=N6.self (readyL c) (by have:=readyL_len c; omega)
 unfold a09.raw
 refine eT (by simp) (eT (by simp) (eT (by simp) ?_))
 dsimp only
 refine eT (Z7.d c h) (eT (Z7.d c h) (eT (by simp) ?_))
 rw [T1.v c h ho]
 refine eT (T1.d c h ho) (eT (T1.d c h ho) ?_)
 dsimp only
 rw [show N6.val (readyL c) (readyL c) = _ from D5 hs]
 exact eT (C8 hs) rfl
theorem near_d (c:ConnS) (h:ConnOk c) (ho:outN c ≤ 1000000000):a09.dom c c = true:=C8 (near_self c h ho)
theorem near_v (c:ConnS) (h:ConnOk c) (ho:outN c ≤ 1000000000):a09.val c c = (true,()):=D5 (near_self c h ho)
theorem gap_1:C9.raw fuel [0,0,0,0,0,0,0,1] = some (9,()):=by kernel_rfl
theorem gap_2:C9.raw fuel [0,1,2,3,4,5,6] = some (7,()):=by kernel_rfl
def connA:ConnS:=setW conn0 (Wire.arrive conn0.2.2.1 [65]).1
theorem B81:ConnOk connA:=(B85 w34 _).1
theorem ready_0:readyL conn0 = []:=by kernel_rfl
theorem over_0:overS conn0 = false:=by kernel_rfl
theorem ready_A:(readyL connA).length = 1:=by kernel_rfl
theorem drive_A:(driveS connA [0,6,1]).2 = 2:=by kernel_rfl
theorem taken_A:(driveS connA [0,6,1]).1.2.2.2.2.2.2.1 = (1:Int):=by kernel_rfl
theorem waits_0:a17.val conn0 = (1,()):=by
 unfold a17.val
 rw [L5.v,over_0,T1.v conn0 w34 (by decide),ready_0,show S0.val conn0 (0:Int) = _ from S0.v conn0 0 (by omega)]
 kernel_rfl
theorem waits_0d:a17.dom conn0 = true:=by
 unfold a17.dom
 rw [L5.d,T1.d conn0 w34 (by decide),show S0.dom conn0 (0:Int) = true from S0.d conn0 0 (by omega),S9.d]
 kernel_rfl
theorem a41.v (c:ConnS):a41.val c = c.2.2.2.2.2.2:=rfl
theorem V4.ev:V4.raw fuel = some (true,()):=by
 have hArr:∀ a b,a01.val a b = S2.val a b ∧ a01.dom a b = S2.dom a b:=by
  intro a b
  unfold a01.val a01.dom a01.sg hsg
  dsimp only
  rw [a85,a85]
  exact ⟨rfl,rfl⟩
 have hNew:X0.val = X9.val ∧ X0.dom = X9.dom:=by
  unfold X0.val X0.dom X0.sg hsg
  dsimp only
  rw [a85,a85]
  exact ⟨rfl,rfl⟩
 have hRdy:∀ a,V9.val a = T1.val a ∧ V9.dom a = T1.dom a:=by
  intro a
  unfold V9.val V9.dom V9.sg hsg
  dsimp only
  rw [a85,a85]
  exact ⟨rfl,rfl⟩
 have hWts:∀ a,a00.val a = a17.val a ∧ a00.dom a = a17.dom a:=by
  intro a
  unfold a00.val a00.dom a00.sg hsg
  dsimp only
  rw [a85,a85]
  exact ⟨rfl,rfl⟩
 have hTkn:∀ a,a06.val a = a41.val a ∧ a06.dom a = a41.dom a:=by
  intro a
  unfold a06.val a06.dom a06.sg hsg
  dsimp only
  rw [a85,a85]
  exact ⟨rfl,rfl⟩
 have hDrv:∀ a b,a02.val a b = D9.val a b ∧ a02.dom a b = D9.dom a b:=by
  intro a b
  unfold a02.val a02.dom a02.sg hsg
  dsimp only
  rw [a85,a85]
  exact ⟨rfl,rfl⟩
 have hGap:∀ a,a11.val a = C9.val a ∧ a11.dom a = C9.dom a:=by
  intro a
  unfold a11.val a11.dom a11.sg hsg
  dsimp only
  rw [a85,a85]
  exact ⟨rfl,rfl⟩
 have hFair:∀ a b,a07.val a b = a28.val a b ∧ a07.dom a b = a28.dom a b:=by
  intro a b
  unfold a07.val a07.dom a07.sg hsg
  dsimp only
  rw [a85,a85]
  exact ⟨rfl,rfl⟩
 have hv:S2.val conn0 [65] = (connA,0,()):=by
  rw [S2.v conn0 _ w34]
  rfl
 have ho0:outN conn0 ≤ 1000000000:=by decide
 have hoA:outN connA ≤ 1000000000:=by decide
 have hdv:=D9.v connA [0,6,1] (by decide) B81 hoA
 have hdd:=D9.d connA [0,6,1] (by decide) B81 hoA
 rw [drive_A] at hdv
 have hf:a28.raw fuel [0,1,2,3,4,5,6] 7 = some (true,()):=by
  have e1:C9.dom [0,1,2,3,4,5,6] = true:=C8 gap_2
  have e2:C9.val [0,1,2,3,4,5,6] = (7,()):=D5 gap_2
  unfold a28.raw
  dsimp only
  rw [e2]
  exact eT e1 rfl
 unfold V4.raw
 dsimp only
 rw [hNew.1,hNew.2,X9.v]
 refine eT X9.d ?_
 dsimp only
 rw [(hArr _ _).1,(hArr _ _).2,hv]
 refine eT (S2.d conn0 _ w34) ?_
 dsimp only
 rw [(hDrv _ _).1,(hDrv _ _).2,hdv]
 refine eT hdd (eT rfl (eT rfl ?_))
 dsimp only
 rw [(hTkn _).1,(hTkn _).2,a41.v,taken_A]
 refine eT rfl (eT rfl (eT X9.d ?_))
 rw [(hRdy _).1,(hRdy _).2,T1.v conn0 w34 ho0,ready_0]
 refine eT (T1.d conn0 w34 ho0) (eT rfl (eT X9.d ?_))
 rw [(hWts _).1,(hWts _).2,waits_0]
 refine eT waits_0d (eT rfl ?_)
 rw [(hRdy _).1,(hRdy _).2,T1.v connA B81 hoA]
 refine eT (T1.d connA B81 hoA) ?_
 dsimp only
 rw [ready_A]
 refine eT rfl ?_
 rw [(hGap _).1,(hGap _).2,show C9.val [0,0,0,0,0,0,0,1] = _ from D5 gap_1]
 refine eT (C8 gap_1) (eT rfl ?_)
 rw [(hFair _ _).1,(hFair _ _).2,show a28.val [0,1,2,3,4,5,6] 7 = _ from D5 hf]
 exact eT (C8 hf) rfl
theorem V4.d:V4.dom = true:=C8 V4.ev
theorem V4.v:V4.val = (true,()):=D5 V4.ev
theorem O4.ev (s:List Op20) (l l2:List Int) (n k:Int) (hs:s.length ≤ 1073741824):O4.raw fuel s l l2 n k = some (true,()):=by
 unfold O4.raw
 dsimp only
 rw [V4.v,N8.v s hs]
 refine eT V4.d (eT (N8.d s hs) ?_)
 dsimp only
 cases hf:fewS s with
 | false=>exact eT rfl rfl
 | true =>
  refine eF rfl ?_
  by_cases h1:(l.length:Int) > 30
  ·exact eT (decide_eq_true h1) rfl
  refine eF (decide_eq_false h1) ?_
  by_cases h2:(l2.length:Int) > 30
  ·exact eT (decide_eq_true h2) rfl
  refine eF (decide_eq_false h2) ?_
  by_cases h3:n < 0
  ·exact eT (decide_eq_true h3) rfl
  refine eF (decide_eq_false h3) ?_
  by_cases h4:n > 20
  ·exact eT (decide_eq_true h4) rfl
  refine eF (decide_eq_false h4) ?_
  by_cases h5:k < 0
  ·exact eT (decide_eq_true h5) rfl
  refine eF (decide_eq_false h5) ?_
  by_cases h6:k > 20
  ·exact eT (decide_eq_true h6) rfl
  refine eF (decide_eq_false h6) ?_
  have hsl:s.length ≤ 1000:=by
   unfold fewS at hf
   simp only [Bool.and_eq_true,decide_eq_true_eq] at hf
   omega
  obtain ⟨c,hm,hc,hoc⟩:=N2.ex s hsl
  rw [show N2.val s = _ from D5 hm]
  refine eT (C8 hm) (eT ?_ (eT ?_ ?_))
  ·simp only [Bool.and_eq_true,decide_eq_true_eq]; unfold lim; omega
  ·have e:(nl Int ++ l).length = l.length:=rfl
   rw [e]
   simp only [Bool.and_eq_true,decide_eq_true_eq]; unfold lim; omega
  have e0:nl Int ++ l ++ l2 = l ++ l2:=rfl
  have ho:outN c ≤ 1000000000:=by omega
  obtain ⟨d1,d2,d3⟩:=w56 l c hc
  obtain ⟨f1,f2,f3⟩:=w56 l2 _ d1
  have ho1:outN (driveS c l).1 ≤ 1000000000:=by omega
  have happ:=D12 l l2 c
  obtain ⟨g1,g2,g3⟩:=w56 (l ++ l2) c hc
  have hla:(l ++ l2).length ≤ 1000000:=by rw [List.length_append]; omega
  rw [e0,D9.v c l (by omega) hc ho]
  refine eT (D9.d c l (by omega) hc ho) ?_
  dsimp only
  rw [D9.v _ l2 (by omega) d1 ho1]
  refine eT (D9.d _ l2 (by omega) d1 ho1) ?_
  rw [D9.v c _ hla hc ho]
  refine eT (D9.d c _ hla hc ho) ?_
  dsimp only
  rw [happ]
  dsimp only
  have ew:i64.wrap (((driveS c l).2:Int) + ((driveS (driveS c l).1 l2).2:Int)) = (((driveS c l).2 + (driveS (driveS c l).1 l2).2:Nat):Int):=by rw [wr (by omega) (by omega)]; omega
  rw [ew]
  refine eF (by simp) ?_
  have ho2:outN (driveS (driveS c l).1 l2).1 ≤ 1000000000:=by omega
  rw [near_v _ f1 ho2]
  refine eT (near_d _ f1 ho2) (eF rfl ?_)
  obtain ⟨N,rfl⟩:∃ N:Nat,n = N:=⟨n.toNat,by omega⟩
  obtain ⟨K,rfl⟩:∃ K:Nat,k = K:=⟨k.toNat,by omega⟩
  have hNK:i64.wrap ((N:Int) + (K:Int)) = ((N + K:Nat):Int):=by rw [wr (by omega) (by omega)]; omega
  obtain ⟨r1,r2,r3⟩:=B77 N c l hc
  have ho3:outN (roundsS N c l).1 ≤ 1000000000:=by omega
  obtain ⟨q1,q2,q3⟩:=B77 K _ l r1
  have ho4:outN (roundsS K (roundsS N c l).1 l).1 ≤ 1000000000:=by omega
  rw [E2.v c l N (by omega) (by omega) hc ho]
  refine eT (E2.d c l N (by omega) (by omega) hc ho) ?_
  dsimp only
  rw [E2.v _ l K (by omega) (by omega) r1 ho3,hNK]
  refine eT (E2.d _ l K (by omega) (by omega) r1 ho3) ?_
  rw [E2.v c l (N + K) (by omega) (by omega) hc ho]
  refine eT (E2.d c l (N + K) (by omega) (by omega) hc ho) (eT rfl ?_)
  dsimp only
  rw [C33 N K c l]
  dsimp only
  have ew2:i64.wrap (((roundsS N c l).2:Int) + ((roundsS K (roundsS N c l).1 l).2:Int)) = (((roundsS N c l).2 + (roundsS K (roundsS N c l).1 l).2:Nat):Int):=by rw [wr (by omega) (by omega)]; omega
  rw [ew2]
  refine eT (by simp) ?_
  rw [near_v _ q1 ho4]
  exact eT (near_d _ q1 ho4) rfl
end Pt
end
end
