/- An abstract machine for the walks of this claim, proved against the model. Conditions: none beyond the statement's own. -/
import Derived.Test.YtkciioajiopobaaGreatDoorMachine1
set_option linter.all false
noncomputable section
section
namespace Go.Am
def Agree (ids:List Nat) (H H':List Blk):Prop:=∀ id ∈ ids,H[id]? = H'[id]?
theorem Agree.of {ids ids':List Nat} {H H':List Blk} (h:Agree ids H H') (hs:∀ i ∈ ids',i ∈ ids):Agree ids' H H':=fun i hi=>h i (hs i hi)
theorem rows_ids:∀ {s:Sc} {i:Nat},i ∈ s.rows → i ∈ s.ids
 | .own _ _,_,h=>h
 | .lf ..,_,h=>by simp [Sc.rows] at h
 | .nilS,_,h=>by simp [Sc.rows] at h
 | .capd ..,_,h=>by simp [Sc.rows] at h
 | .ptr ..,_,h=>by simp [Sc.rows] at h
 | .eptr ..,_,h=>by simp [Sc.rows] at h
 | .rptr ..,_,h=>by simp [Sc.rows] at h
 | .clo ..,_,h=>by simp [Sc.rows] at h
 | .nilI,_,h=>by simp [Sc.rows] at h
 | .junk,_,h=>by simp [Sc.rows] at h
theorem A1.rows_ids:∀ {a:A1} {i:Nat},i ∈ a.rows → i ∈ a.ids
 | .sc _,_,h=>Am.rows_ids h
 | .agg l,i,h=>by
  simp only [A1.rows,A1.ids,List.mem_flatMap] at h ⊢
  obtain ⟨s,hs,hi⟩:=h
  exact ⟨s,hs,Am.rows_ids hi⟩
theorem C85:∀ (a:A1),a.cells.flatMap Sc.rows = a.rows
 | .sc s=>by simp [A1.cells,A1.rows]
 | .agg l=>rfl
section
variable {H H':List Blk}
theorem w24 (t:Ty) (s:Sc) (h:Agree s.rows H H'):fz H t s = fz H' t s:=by
 cases s with
 | own id ver =>
  have:=h id (by simp [Sc.rows])
  cases t <;> simp [fz,this]
 | _=>cases t <;> simp [fz]
theorem fzs_rest:∀ (t:Ty) (l:List Sc) {x:t.den} {r:List Sc},fzs H t l = some (x,r) → ∃ p,l = p ++ r
 | .unit,l,_,_,h=>by simp only [fzs,Option.some.injEq,Prod.mk.injEq] at h; exact ⟨[],h.2⟩
 | .pair s t,l,x,r,h=>by
  simp only [fzs] at h
  split at h
  ·rename_i y q hq
   split at h
   ·rename_i z q' hq'
    simp only [Option.some.injEq,Prod.mk.injEq] at h
    obtain ⟨p1,e1⟩:=fzs_rest s l hq
    obtain ⟨p2,e2⟩:=fzs_rest t q hq'
    exact ⟨p1 ++ p2,by rw [e1,e2,h.2,List.append_assoc]⟩
   ·cases h
  ·cases h
 | .int k,s :: l,_,_,h=>by simp only [fzs] at h; split at h <;> simp at h; exact ⟨[s],by rw [h.2]; rfl⟩
 | .bool,s :: l,_,_,h=>by simp only [fzs] at h; split at h <;> simp at h; exact ⟨[s],by rw [h.2]; rfl⟩
 | .str,s :: l,_,_,h=>by simp only [fzs] at h; split at h <;> simp at h; exact ⟨[s],by rw [h.2]; rfl⟩
 | .fn,s :: l,_,_,h=>by simp only [fzs] at h; split at h <;> simp at h; exact ⟨[s],by rw [h.2]; rfl⟩
 | .slice e,s :: l,_,_,h=>by simp only [fzs] at h; split at h <;> simp at h; exact ⟨[s],by rw [h.2]; rfl⟩
 | .int k,[],_,_,h=>by simp [fzs] at h
 | .bool,[],_,_,h=>by simp [fzs] at h
 | .str,[],_,_,h=>by simp [fzs] at h
 | .fn,[],_,_,h=>by simp [fzs] at h
 | .slice e,[],_,_,h=>by simp [fzs] at h
theorem B30:∀ (t:Ty) (l:List Sc),Agree (l.flatMap Sc.rows) H H' → fzs H t l = fzs H' t l
 | .unit,l,_=>by simp [fzs]
 | .pair s t,l,h=>by
  have h1:=B30 s l h
  simp only [fzs,h1]
  cases hq:fzs H' s l with
  | none=>rfl
  | some p =>
   obtain ⟨x,r⟩:=p
   obtain ⟨p1,e1⟩:=fzs_rest s l hq
   have h2:=B30 t r (h.of (by intro i hi; rw [e1]; simp only [List.flatMap_append,List.mem_append]; exact .inr hi))
   simp only [h2]
 | .int k,[],h=>by simp [fzs]
 | .int k,s :: r,h=>by simp only [fzs]; rw [w24 _ s (h.of (by intro i hi; simp; exact .inl hi))]
 | .bool,[],h=>by simp [fzs]
 | .bool,s :: r,h=>by simp only [fzs]; rw [w24 _ s (h.of (by intro i hi; simp; exact .inl hi))]
 | .str,[],h=>by simp [fzs]
 | .str,s :: r,h=>by simp only [fzs]; rw [w24 _ s (h.of (by intro i hi; simp; exact .inl hi))]
 | .fn,[],h=>by simp [fzs]
 | .fn,s :: r,h=>by simp only [fzs]; rw [w24 _ s (h.of (by intro i hi; simp; exact .inl hi))]
 | .slice e,[],h=>by simp [fzs]
 | .slice e,s :: r,h=>by simp only [fzs]; rw [w24 _ s (h.of (by intro i hi; simp; exact .inl hi))]
theorem fzA_agree (t:Ty) (a:A1) (h:Agree a.rows H H'):fzA H t a = fzA H' t a:=by
 unfold fzA
 rw [B30 t a.cells (by rw [C85]; exact h)]
theorem C01:∀ (ts:List Ty) (l:List AV),Agree (argRows l) H H' → fzArgs H ts l = fzArgs H' ts l
 | [],[],_=>rfl
 | [],_ :: _,_=>rfl
 | _ :: _,[],_=>rfl
 | _ :: _,.tup _ :: _,_=>rfl
 | t :: ts,.one a :: r,h=>by
  simp only [fzArgs]
  rw [fzA_agree t a (h.of (by intro i hi; simp [argRows]; exact .inl hi)),C01 ts r (h.of (by intro i hi; simp [argRows]; exact .inr hi))]
theorem a92:∀ (l:List Nat),Agree l H H' → shown H l = shown H' l
 | [],_=>rfl
 | i :: r,h=>by
  simp only [shown]
  rw [h i (by simp),a92 r (h.of (by simp +contextual))]
theorem w75 (e:Ty) (z:e.den):∀ (n k:Nat) (l:List (Nat × AV)),Agree (a88 l) H H' → rowOf H e z n k l = rowOf H' e z n k l
 | 0,_,[],_=>rfl
 | 0,_,_ :: _,_=>rfl
 | n + 1,k,[],h=>by simp only [rowOf]; rw [w75 e z n (k + 1) [] h]
 | n + 1,k,(i,.tup _) :: r,h=>rfl
 | n + 1,k,(i,.one a) :: r,h=>by
  simp only [rowOf]
  rw [fzA_agree e a (h.of (by intro i hi; simp [a88]; exact .inl hi)),w75 e z n (k + 1) r (h.of (by intro i hi; simp [a88]; exact .inr hi)),
   w75 e z n (k + 1) ((i,.one a) :: r) h]
variable {T:TypeId → Option TI}
theorem C51 (s d:TypeId) (x:AV) (h:Agree x.ids H H'):convA T H s d x = convA T H' s d x:=by
 unfold convA
 split
 ·rename_i ts td _ _
  have key:∀ u:Sc,x = .one (.sc u) → Agree u.rows H H':=fun u hu=>h.of fun i hi=>by subst hu; exact Am.rows_ids hi
  split <;> try rfl
  rename_i u _ hu
  simp only [w24 _ u (key u rfl),a92 _ (key u rfl)]
 ·rfl
theorem loadA_agree (t:TypeId) (x:AV) (h:Agree x.ids H H'):loadA T H t x = loadA T H' t x:=by
 unfold loadA
 split <;> try rfl
 ·rename_i id off _; simp only [h id (by simp [AV.ids,A1.ids,Sc.ids])]
 ·rename_i id ver i off _; simp only [h id (by simp [AV.ids,A1.ids,Sc.ids])]
theorem C87:∀ (l:List Sc) (cs:List Sc) (off:Nat) {i:Nat},i ∈ (place cs off l).flatMap Sc.rows → i ∈ cs.flatMap Sc.rows ∨ i ∈ l.flatMap Sc.rows
 | [],cs,off,i,h=>.inl h
 | s :: r,cs,off,i,h=>by
  rcases C87 r (cs.set off s) (off + 1) h with h | h
  ·simp only [List.mem_flatMap] at h
   obtain ⟨u,hu,hi⟩:=h
   rcases List.mem_or_eq_of_mem_set hu with hu | rfl
   ·exact .inl (by simp only [List.mem_flatMap]; exact ⟨u,hu,hi⟩)
   ·exact .inr (by simp; exact .inl hi)
  ·exact .inr (by simp only [List.flatMap_cons,List.mem_append]; exact .inr h)
theorem leaf_rows (l:List Leaf):(l.map leafSc).flatMap Sc.rows = []:=by
 induction l with
 | nil=>rfl
 | cons x l ih=>simp only [List.map_cons,List.flatMap_cons,ih]; rfl
theorem storeA_agree (t:TypeId) (x y:AV) (h:Agree x.ids H H') (h2:Agree y.ids H H'):storeA T H t x y = storeA T H' t x y:=by
 unfold storeA
 split <;> try rfl
 ·rename_i id off b _; simp only [h id (by simp [AV.ids,A1.ids,Sc.ids])]
 ·rename_i ti id ver i off b _
  have h3:Agree b.rows H H':=h2.of fun i hi=>A1.rows_ids hi
  have hp:∀ (e:Ty) (l:List Leaf),fzs H e (place (l.map leafSc) off b.cells) = fzs H' e (place (l.map leafSc) off b.cells):=by
   intro e l
   apply B30
   refine h3.of fun i hi=>?_
   rcases C87 _ _ _ hi with hi | hi
   ·rw [leaf_rows] at hi; cases hi
   ·rwa [C85] at hi
  simp only [h id (by simp [AV.ids,A1.ids,Sc.ids]),hp,a92 _ h3]
theorem C68 (s:TypeId) (x:AV) (f:Nat) (h:Agree x.rids H H'):w42 T H s x f = w42 T H' s x f:=by
 unfold w42
 have key:∀ id ver i o,x = .one (.sc (.eptr id ver i o)) → H[id]? = H'[id]?:=fun id ver i o hx=>h id (by subst hx; simp [AV.rids])
 split <;> try rfl
 split <;> try rfl
 split <;> try rfl
 split <;> try rfl
 split <;> try rfl
 split <;> try rfl
 all_goals (first | rfl | (rename_i id ver i o _; simp only [key id ver i o rfl]) | (rename_i id ver i o; simp only [key id ver i o rfl]) | trace_state)
theorem C69 (t:TypeId) (x ix:AV) (h:Agree x.rids H H'):w40 T H t x ix = w40 T H' t x ix:=by
 unfold w40
 have key:∀ id ver,x = .one (.sc (.own id ver)) → H[id]? = H'[id]?:=fun id ver hx=>h id (by subst hx; simp [AV.rids])
 have key2:∀ id ver i o,x = .one (.sc (.eptr id ver i o)) → H[id]? = H'[id]?:=fun id ver i o hx=>h id (by subst hx; simp [AV.rids])
 split <;> try rfl
 split <;> try rfl
 ·rename_i id ver _
  simp only [key id ver rfl]
 ·rename_i id ver _
  simp only [key2 id ver 0 0 rfl]
theorem sliceA_agree (t:TypeId) (x:AV) (lo hi mx:Option AV) (h:Agree x.ids H H'):sliceA T H t x lo hi mx = sliceA T H' t x lo hi mx:=by
 unfold sliceA
 have key:∀ u:Sc,x = .one (.sc u) → Agree u.rows H H':=fun u hu=>h.of fun i hi=>by subst hu; exact Am.rows_ids hi
 have key2:∀ id ver i o,x = .one (.sc (.eptr id ver i o)) → Agree [id] H H':=fun id ver i o hx j hj=>h j (by subst hx; simp at hj; subst hj; simp [AV.ids,A1.ids,Sc.ids])
 split <;> try rfl
 split <;> try rfl
 ·rename_i el u _
  simp only [fun t=>w24 t u (key u rfl),a92 _ (key u rfl)]
 ·rename_i id ver _
  have hk:=key2 id ver 0 0 rfl
  simp only [hk id (by simp),a92 _ hk]
theorem C29 (nid:Nat) (t:TypeId) (n:Nat) (l:List (Nat × AV)) (h:Agree (a88 l) H H'):w28 T H nid t n l = w28 T H' nid t n l:=by
 unfold w28
 simp only [fun e z n k=>w75 e z n k l h,a92 _ h]
theorem lenA_agree (td:TD) (x:AV) (h:Agree x.ids H H'):lenA H td x = lenA H' td x:=by
 unfold lenA
 split <;> try rfl
 rename_i id ver
 simp only [h id (by simp [AV.ids,A1.ids,Sc.ids])]
theorem appendA_agree (nid:Nat) (t t':TypeId) (x y:AV) (h:Agree x.ids H H') (h2:Agree y.ids H H'):appendA T H nid t t' x y = appendA T H' nid t t' x y:=by
 unfold appendA
 split <;> try rfl
 rename_i ti ti' s u _ _
 have hu:Agree u.rows H H':=h2.of fun i hi=>Am.rows_ids hi
 have hs:∀ id ver,s = .own id ver → H[id]? = H'[id]?:=fun id ver e=>h id (by subst e; simp [AV.ids,A1.ids,Sc.ids])
 simp only [srcOf,fun t=>w24 t u hu,a92 _ hu]
 split <;> try rfl
 split <;> try rfl
 split <;> try rfl
 split <;> try rfl
 cases s with
 | own id ver=>simp only [hs id ver rfl]
 | _=>rfl
theorem sigA_agree (nid:Nat) (sg:Sig) (l:List AV) (h:Agree (argRows l) H H'):sigA H nid sg l = sigA H' nid sg l:=by
 unfold sigA
 rw [C01 _ _ h,a92 _ h]
theorem B16:∀ (l:List (Nat × AV)) {i:Nat},i ∈ a88 l → i ∈ l.flatMap fun p=>p.2.ids
 | [],_,h=>h
 | (_,.one a) :: r,i,h=>by
  simp only [a88,List.mem_append] at h
  simp only [List.flatMap_cons,List.mem_append]
  exact h.imp (fun h=>A1.rows_ids h) (fun h=>B16 r h)
 | (_,.tup l) :: r,i,h=>by
  simp only [a88] at h
  simp only [List.flatMap_cons,List.mem_append]
  exact .inr (B16 r h)
theorem B42:∀ (l:List AV) {i:Nat},i ∈ argRows l → i ∈ l.flatMap AV.ids
 | [],_,h=>h
 | .one a :: r,i,h=>by
  simp only [argRows,List.mem_append] at h
  simp only [List.flatMap_cons,List.mem_append]
  exact h.imp (fun h=>A1.rows_ids h) (fun h=>B42 r h)
 | .tup l :: r,i,h=>by
  simp only [argRows] at h
  simp only [List.flatMap_cons,List.mem_append]
  exact .inr (B42 r h)
theorem w39:∀ (l m:List AV),argRows (l ++ m) = argRows l ++ argRows m
 | [],m=>rfl
 | .one a :: r,m=>by simp only [List.cons_append,argRows,w39 r m,List.append_assoc]
 | .tup l :: r,m=>by simp only [List.cons_append,argRows,w39 r m]
theorem C07 (l:List (Nat × Nat)):argRows (l.map fun p=>.sc (.ptr p.1 p.2)) = []:=by
 induction l with
 | nil=>rfl
 | cons p l ih=>simp only [List.map_cons,AV.sc,argRows,A1.rows,Sc.rows,ih]; rfl
theorem target_rows {f:AV} {K:Nat} {a b:List AV} (h:target f = some (K,a,b)):argRows a = [] ∧ argRows b = []:=by
 unfold target at h
 split at h <;> cases h
 ·exact ⟨rfl,rfl⟩
 ·exact ⟨C07 _,C07 _⟩
theorem D00 {f:AV} {K:Nat} {a b:List AV} (h:target f = some (K,a,b)):(∀ i ∈ a.flatMap AV.ids,i ∈ f.ids) ∧ (∀ i ∈ b.flatMap AV.ids,i ∈ f.ids):=by
 unfold target at h
 split at h <;> cases h
 ·exact ⟨fun i hi=>by simp at hi,fun i hi=>by simp at hi⟩
 ·refine ⟨fun i hi=>?_,fun i hi=>?_⟩ <;>
  ·simp only [List.mem_flatMap,List.mem_map] at hi
   obtain ⟨_,⟨p,hp,rfl⟩,hi⟩:=hi
   simp [AV.ids,A1.ids,Sc.ids] at hi
   subst hi
   simp only [AV.ids,A1.ids,Sc.ids,List.mem_append,List.mem_map]
   first | exact .inl ⟨p,hp,rfl⟩ | exact .inr ⟨p,hp,rfl⟩
variable {E:Env}
theorem opA_agree (nid:Nat) (ev:Operand → AV) (op:Op) (h:Agree (readsOf ev op) H H'):opA E H nid ev op = opA E H' nid ev op:=by
 have mem:∀ {x:Operand},x ∈ op.operands.toList → ∀ {l:List Nat},readsOf ev op = op.operands.toList.flatMap (fun x=>(ev x).ids) → Agree (ev x).ids H H':=by
  intro x hx l hr
  rw [hr] at h
  exact h.of fun i hi=>List.mem_flatMap.2 ⟨x,hx,hi⟩
 cases op with
 | buildSlice t n ps =>
  simp only [opA]
  refine C29 _ _ _ _ (h.of fun i hi=>?_)
  have:=B16 _ hi
  simp only [List.mem_flatMap,List.mem_map] at this
  obtain ⟨_,⟨p,hp,rfl⟩,hi⟩:=this
  simp only [readsOf,List.mem_flatMap]
  exact ⟨p.2,by simp [Op.operands]; exact ⟨p.1,by simpa using hp⟩,hi⟩
 | load t a =>
  simp only [opA]
  split
  ·rfl
  ·exact loadA_agree _ _ (mem (l:=[]) (by simp [Op.operands]) rfl)
 | store t a x=>exact storeA_agree _ _ _ (mem (l:=[]) (by simp [Op.operands]) rfl) (mem (l:=[]) (by simp [Op.operands]) rfl)
 | nilCheck x =>
  simp only [opA]
  have key:∀ id ver i o,ev x = .one (.sc (.eptr id ver i o)) → H[id]? = H'[id]?:=fun id ver i o hx=>h id (by simp [readsOf,hx,AV.rids])
  split <;> try rfl
  rename_i id ver i o hx
  simp only [key id ver i o hx]
 | convert s d x =>
  have hx:Agree (ev x).ids H H':=mem (l:=[]) (by simp [Op.operands]) rfl
  simp only [opA]
  split
  ·rename_i id ver he
   rw [he] at hx
   split
   ·have hk:Agree [id] H H':=hx.of fun i hi=>by simpa [AV.ids,A1.ids,Sc.ids] using hi
    unfold w82
    simp only [hk id (by simp),a92 _ hk]
   ·exact C51 _ _ _ hx
  ·exact C51 _ _ _ hx
 | slice t x lo hi mx=>exact sliceA_agree _ _ _ _ _ (mem (l:=[]) (by simp [Op.operands]) rfl)
 | fieldAddr s x i=>exact C68 _ _ _ h
 | indexAddr t x i =>
  simp only [opA]
  split
  ·rfl
  ·exact C69 _ _ _ h
 | call c =>
  obtain ⟨callee,args,ats⟩:=c
  have hargs:∀ x ∈ args.toList,Agree (ev x).ids H H':=fun x hx=>mem (l:=[]) (by simp [Op.operands,Call.operands]; exact .inr (by simpa using hx)) rfl
  have hall:Agree (argRows (args.toList.map ev)) H H':=by
   intro i hi
   have:=B42 _ hi
   simp only [List.mem_flatMap,List.mem_map] at this
   obtain ⟨_,⟨x,hx,rfl⟩,hi⟩:=this
   exact hargs x hx i hi
  have hmem:∀ {a:AV},a ∈ args.toList.map ev → Agree a.ids H H':=by
   intro a ha
   simp only [List.mem_map] at ha
   obtain ⟨x,hx,rfl⟩:=ha
   exact hargs x hx
  simp only [opA,callA]
  split <;> try rfl
  ·split <;> try rfl
   rename_i t x _ hx
   split <;> try rfl
   exact lenA_agree _ _ (hmem (by rw [hx]; simp))
  ·split <;> try rfl
   rename_i t t' x y _ _ hx
   exact appendA_agree _ _ _ _ _ (hmem (by rw [hx]; simp)) (hmem (by rw [hx]; simp))
  ·rename_i f
   have told:∀ p,(∀ K a b,p = some (K,a,b) → Agree (argRows (a ++ args.toList.map ev ++ b)) H H' ∧ Agree ((a ++ args.toList.map ev ++ b).flatMap AV.ids) H H') →
     toldA E H nid (args.toList.map ev) p = toldA E H' nid (args.toList.map ev) p:=by
    intro p hp
    cases p with
    | none=>rfl
    | some p =>
     obtain ⟨K,a,b⟩:=p
     obtain ⟨h1,h2⟩:=hp K a b rfl
     simp only [toldA]
     split
     ·rename_i q _
      exact q.loc _ _ _ _ h2
     ·split <;> try rfl
      exact sigA_agree _ _ _ h1
   have hids:Agree ((args.toList.map ev).flatMap AV.ids) H H':=by
    intro i hi
    simp only [List.mem_flatMap] at hi
    obtain ⟨v,hv,hi⟩:=hi
    exact hmem hv i hi
   have htar:∀ K a b,target (ev f) = some (K,a,b) → Agree (argRows (a ++ args.toList.map ev ++ b)) H H' ∧ Agree ((a ++ args.toList.map ev ++ b).flatMap AV.ids) H H':=by
    intro K a b ht
    obtain ⟨ha,hb⟩:=target_rows ht
    refine ⟨by rw [w39,w39,ha,hb]; simpa using hall,?_⟩
    have hf:Agree (ev f).ids H H':=mem (l:=[]) (by simp [Op.operands,Call.operands]) rfl
    intro i hi
    rw [List.flatMap_append,List.flatMap_append,List.mem_append,List.mem_append] at hi
    rcases hi with (hi | hi) | hi
    ·exact hf i ((D00 ht).1 i hi)
    ·exact hids i hi
    ·exact hf i ((D00 ht).2 i hi)
   have fns:∀ x l,fnsA x (fun K=>toldA E H nid (args.toList.map ev) (some (K,[],[]))) l = fnsA x (fun K=>toldA E H' nid (args.toList.map ev) (some (K,[],[]))) l:=by
    intro x l
    have:(fun K=>toldA E H nid (args.toList.map ev) (some (K,[],[]))) = fun K=>toldA E H' nid (args.toList.map ev) (some (K,[],[])):=by
     funext K
     refine told _ fun K' a b hq=>?_
     cases hq
     simp only [List.nil_append,List.append_nil]
     exact ⟨hall,hids⟩
    rw [this]
   split
   ·exact told _ htar
   ·split
    ·exact fns _ _
    ·exact told _ htar
 | _=>rfl
theorem opA_ev (nid:Nat) {ev ev':Operand → AV} (op:Op) (h:∀ x ∈ op.operands.toList,ev x = ev' x):opA E H nid ev op = opA E H nid ev' op ∧ readsOf ev op = readsOf ev' op:=by
 have hr:op.operands.toList.flatMap (fun x=>(ev x).ids) = op.operands.toList.flatMap (fun x=>(ev' x).ids):=by
  rw [List.flatMap_def,List.flatMap_def,List.map_congr_left fun x hx=>by rw [h x hx]]
 refine ⟨?_,?_⟩
 ·cases op with
  | build t ps =>
   simp only [opA]
   have:(ps.toList.map fun p=>(p.1,ev p.2)) = ps.toList.map fun p=>(p.1,ev' p.2):=List.map_congr_left fun p hp=>by rw [h p.2 (by simp [Op.operands]; exact ⟨p.1,by simpa using hp⟩)]
   rw [this]
  | buildSlice t n ps =>
   simp only [opA]
   have:(ps.toList.map fun p=>(p.1,ev p.2)) = ps.toList.map fun p=>(p.1,ev' p.2):=List.map_congr_left fun p hp=>by rw [h p.2 (by simp [Op.operands]; exact ⟨p.1,by simpa using hp⟩)]
   rw [this]
  | makeFunc fn a b =>
   simp only [opA]
   have h1:a.toList.map ev = a.toList.map ev':=List.map_congr_left fun x hx=>h x (by simp [Op.operands]; exact .inl (by simpa using hx))
   have h2:b.toList.map ev = b.toList.map ev':=List.map_congr_left fun x hx=>h x (by simp [Op.operands]; exact .inr (by simpa using hx))
   rw [h1,h2]
  | slice t x lo hi mx =>
   simp only [opA]
   have hx:=h x (by simp [Op.operands])
   have ho:∀ y:Option Operand,(∀ z ∈ y.toArray,z ∈ (Op.slice t x lo hi mx).operands) → y.map ev = y.map ev':=by
    intro y hy
    cases y with
    | none=>rfl
    | some z=>simp only [Option.map_some]; rw [h z (by simpa using hy z (by simp))]
   rw [hx,ho lo (fun z hz=>by simp [Op.operands]; simp at hz; simp [hz]),ho hi (fun z hz=>by simp [Op.operands]; simp at hz; simp [hz]),ho mx (fun z hz=>by simp [Op.operands]; simp at hz; simp [hz])]
  | call c =>
   obtain ⟨callee,args,ats⟩:=c
   have h1:args.toList.map ev = args.toList.map ev':=List.map_congr_left fun x hx=>h x (by simp [Op.operands,Call.operands]; exact .inr (by simpa using hx))
   simp only [opA,callA,h1]
   cases callee with
   | value f=>simp only [h f (by simp [Op.operands,Call.operands])]
   | builtin b=>cases b <;> rfl
   | invoke r m=>rfl
  | pick c a b=>simp only [opA]; rw [h c (by simp [Op.operands]),h a (by simp [Op.operands]),h b (by simp [Op.operands])]
  | store t a x=>simp only [opA]; rw [h a (by simp [Op.operands]),h x (by simp [Op.operands])]
  | binOp o t x y yt=>simp only [opA]; rw [h x (by simp [Op.operands]),h y (by simp [Op.operands])]
  | makeSlice t l c=>simp only [opA]; rw [h l (by simp [Op.operands]),h c (by simp [Op.operands])]
  | indexAddr t x i =>
   have h1:=h x (by simp [Op.operands])
   have h2:=h i (by simp [Op.operands])
   cases x <;> simp only [opA,h1,h2]
  | index t x i=>simp only [opA]; rw [h x (by simp [Op.operands]),h i (by simp [Op.operands])]
  | move x=>simp only [opA]; rw [h x (by simp [Op.operands])]
  | assign x=>simp only [opA]; rw [h x (by simp [Op.operands])]
  | box t x=>simp only [opA]; rw [h x (by simp [Op.operands])]
  | load t x =>
   have h1:=h x (by simp [Op.operands])
   cases x <;> simp only [opA,h1]
  | nilCheck x=>simp only [opA]; rw [h x (by simp [Op.operands])]
  | unOp o t x=>simp only [opA]; rw [h x (by simp [Op.operands])]
  | convert s d x=>simp only [opA]; rw [h x (by simp [Op.operands])]
  | fieldAddr s x f=>simp only [opA]; rw [h x (by simp [Op.operands])]
  | field s x f=>simp only [opA]; rw [h x (by simp [Op.operands])]
  | extract x i=>simp only [opA]; rw [h x (by simp [Op.operands])]
  | _=>rfl
 ·cases op with
  | indexAddr t x i=>simp only [readsOf]; rw [h x (by simp [Op.operands])]
  | fieldAddr s x f=>simp only [readsOf]; rw [h x (by simp [Op.operands])]
  | nilCheck x=>simp only [readsOf]; rw [h x (by simp [Op.operands])]
  | buildSlice t n ps=>exact hr
  | load t x=>exact hr
  | store t a x=>exact hr
  | convert s d x=>exact hr
  | slice t x lo hi mx=>exact hr
  | call c=>exact hr
  | _=>rfl
end
structure Ent where
 o:Oper
 nid:Nat
 rd:List Nat
 f:Eff
instance:Inhabited Ent:=⟨⟨default,0,[],⟨.junk,[]⟩⟩⟩
def Ent.fp (all:Array Oper) (e:Ent):List Nat × List Nat × List Nat × List Nat:=(e.rd,e.f.ws.map (·.1),tmpsOf all e.o,e.o.dst.toList)
def app (e:Ent) (s:St):St:=(s.write e.f.ws).put e.o.dst e.f.v
def guardA (s:St) (all:Array Oper) (o:Oper):Option Bool :=
 match o.guard with
 | none=>some true
 | some (j,want) =>
  match (all[j]?).bind (·.dst) with
  | none=>some false
  | some d =>
   match s.tmps[d]? with
   | some (.one (.sc (.lf .bool b)))=>some (b == want)
   | some (.tup [])=>some false
   | _=>none
def StepOk (E:Env) (all:Array Oper) (s:St) (e:Ent):Prop :=
 (guardA s all e.o = some false ∧ e.rd = [] ∧ e.f = ⟨.tup [],[]⟩) ∨
 (guardA s all e.o = some true ∧ e.rd = readsOf s.ev e.o.op ∧ (opA E s.heap e.nid s.ev e.o.op).eval = some e.f ∧ okW s.heap e.nid e.o.op e.f.ws = true)
theorem B08 {s:St} {d:Tmp} {b t:Bool} (h:s.tmps[d]? = some (.one (.sc (.lf .bool b)))) (hb:b = t):s.learn (.tmp d) t = s:=by
 subst hb
 have:s.tmps.set d (.one (.sc (.lf .bool b))) = s.tmps:=by
  apply List.ext_getElem?
  intro i
  by_cases hi:d = i
  ·subst hi
   rw [List.getElem?_set_self (List.getElem?_eq_some_iff.1 h).1,h]
  ·rw [List.getElem?_set_ne hi]
 show ({ s with tmps:=s.tmps.set d _ }:St) = s
 rw [show (AV.bool b) = .one (.sc (.lf .bool b)) from rfl,this]
theorem B69 {s:St} {c:Operand} {b t:Bool} (h:s.ev c = .one (.sc (.lf .bool b))) (hb:b = t):s.learn c t = s:=by
 cases c with
 | tmp d =>
  refine B08 (b:=b) ?_ hb
  have h':s.tmps.getD d .junk = .one (.sc (.lf .bool b)):=h
  rw [List.getD_eq_getElem?_getD] at h'
  cases hq:s.tmps[d]? with
  | none=>rw [hq] at h'; cases h'
  | some v=>rw [hq] at h'; exact congrArg some h'
 | _=>rfl
section
variable {E:Env} {R:Type} {lr:Code → St → (X → St → Option R) → Option R}
def runOp (E:Env) (lr:Code → St → (X → St → Option R) → Option R) (n:Nat) (all:Array Oper) (draw:Bool) (o:Oper) (nid:Nat) (r:List (Oper × Nat))
  (log:List (Nat × List Nat × List Nat × List Nat × List Nat)) (k:X → St → Option R) (s:St):Option R :=
 match o.op with
 | .pick c a b=>match s.ev c with
  | .one (.sc (.lf .bool t)) =>
   bif t then eval E lr n (.ops all draw r ((log.length,[],[],tmpsOf all o,o.dst.toList) :: log)) ((s.learn c true).put o.dst ((s.learn c true).ev a)) k
   else eval E lr n (.ops all draw r ((log.length,[],[],tmpsOf all o,o.dst.toList) :: log)) ((s.learn c false).put o.dst ((s.learn c false).ev b)) k
  | _=>none
 | op =>
  match inlined E (s.ev) op with
  | some (fn,args) =>
   match draw,fn.body with
   | false,some body =>
    eval E lr n (.code body) ⟨enter args fn.ntmps,s.heap,s.heap.length⟩ fun x s' =>
     match x with
     | .exit _=>none
     | _=>match resAll E s' fn.results.toList with
      | some l=>(fun s2=>if freesOk s2.heap r then eval E lr n (.ops all draw r []) s2 k else none) (gc (({ tmps:=s.tmps,heap:=s'.heap,hb:=s.hb }:St).put o.dst (avOfRes l)))
      | none=>none
   | _,_=>none
  | none =>
   (opA E s.heap nid (s.ev) op).run fun f =>
    if okW s.heap nid op f.ws then
     eval E lr n (.ops all draw r ((log.length,readsOf (s.ev) op,f.ws.map (·.1),tmpsOf all o,o.dst.toList) :: log)) ((s.write f.ws).put o.dst f.v) k
    else none
theorem run_inv {n:Nat} {all:Array Oper} {draw:Bool} {o:Oper} {nid:Nat} {r:List (Oper × Nat)} {log} {s:St} {k:X → St → Option R} {x:R}
  (hg:guardA s all o = some true) (h:runOp E lr n all draw o nid r log k s = some x) :
  (∃ e:Ent,e.o = o ∧ e.nid = nid ∧ StepOk E all s e ∧ eval E lr n (.ops all draw r ((log.length,e.fp all) :: log)) (app e s) k = some x) ∨
  (draw = false ∧ guardA s all o = some true ∧ ∃ fn args body,inlined E s.ev o.op = some (fn,args) ∧ fn.body = some body ∧
   eval E lr n (.code body) ⟨enter args fn.ntmps,s.heap,s.heap.length⟩ (fun y s' =>
       match y with
       | .exit _=>none
       | _=>match resAll E s' fn.results.toList with
        | some l=>(fun s2=>if freesOk s2.heap r then eval E lr n (.ops all draw r []) s2 k else none) (gc (({ tmps:=s.tmps,heap:=s'.heap,hb:=s.hb }:St).put o.dst (avOfRes l)))
        | none=>none) = some x):=by
 unfold runOp at h
 split at h
 ·rename_i c a b hop
  split at h
  ·rename_i t ht
   cases t with
   | true =>
    rw [B69 ht rfl] at h
    refine .inl ⟨⟨o,nid,[],⟨s.ev a,[]⟩⟩,rfl,rfl,.inr ⟨hg,?_,?_,?_⟩,h⟩
    ·simp only [hop,readsOf]
    ·simp only [hop,opA,ht]; rfl
    ·rfl
   | false =>
    rw [B69 ht rfl] at h
    refine .inl ⟨⟨o,nid,[],⟨s.ev b,[]⟩⟩,rfl,rfl,.inr ⟨hg,?_,?_,?_⟩,h⟩
    ·simp only [hop,readsOf]
    ·simp only [hop,opA,ht]; rfl
    ·rfl
  ·cases h
 ·rename_i op _
  split at h
  ·rename_i fn args hin
   split at h
   ·rename_i body hb
    exact .inr ⟨rfl,hg,fn,args,body,hin,hb,h⟩
   ·cases h
  ·obtain ⟨f,h1,h2⟩:=Tree.run_eval _ _ _ h
   split at h2
   ·rename_i hw
    exact .inl ⟨⟨o,nid,readsOf s.ev o.op,f⟩,rfl,rfl,.inr ⟨hg,rfl,h1,hw⟩,h2⟩
   ·cases h2
theorem eval_ops {n:Nat} {all:Array Oper} {draw:Bool} {o:Oper} {nid:Nat} {r:List (Oper × Nat)} {log} {s:St} {k:X → St → Option R} :
  eval E lr (n + 1) (.ops all draw ((o,nid) :: r) log) s k =
   match o.guard with
   | none=>runOp E lr n all draw o nid r log k s
   | some (j,want) =>
    match (all[j]?).bind (·.dst) with
    | none=>eval E lr n (.ops all draw r ((log.length,[],[],tmpsOf all o,o.dst.toList) :: log)) (s.put o.dst (.tup [])) k
    | some d =>
     match s.tmps[d]?,want with
     | some (.one (.sc (.lf .bool b))),true=>bif b then runOp E lr n all draw o nid r log k (s.learn (.tmp d) true) else eval E lr n (.ops all draw r ((log.length,[],[],tmpsOf all o,o.dst.toList) :: log)) ((s.learn (.tmp d) false).put o.dst (.tup [])) k
     | some (.one (.sc (.lf .bool b))),false=>bif b then eval E lr n (.ops all draw r ((log.length,[],[],tmpsOf all o,o.dst.toList) :: log)) ((s.learn (.tmp d) true).put o.dst (.tup [])) k else runOp E lr n all draw o nid r log k (s.learn (.tmp d) false)
     | some (.tup []),_=>eval E lr n (.ops all draw r ((log.length,[],[],tmpsOf all o,o.dst.toList) :: log)) (s.put o.dst (.tup [])) k
     | _,_=>none:=rfl
theorem ops_inv {n:Nat} {all:Array Oper} {draw:Bool} {o:Oper} {nid:Nat} {r:List (Oper × Nat)} {log} {s:St} {k:X → St → Option R} {x:R}
  (h:eval E lr (n + 1) (.ops all draw ((o,nid) :: r) log) s k = some x) :
  (∃ e:Ent,e.o = o ∧ e.nid = nid ∧ StepOk E all s e ∧ eval E lr n (.ops all draw r ((log.length,e.fp all) :: log)) (app e s) k = some x) ∨
  (draw = false ∧ guardA s all o = some true ∧ ∃ fn args body,inlined E s.ev o.op = some (fn,args) ∧ fn.body = some body ∧
   eval E lr n (.code body) ⟨enter args fn.ntmps,s.heap,s.heap.length⟩ (fun y s' =>
       match y with
       | .exit _=>none
       | _=>match resAll E s' fn.results.toList with
        | some l=>(fun s2=>if freesOk s2.heap r then eval E lr n (.ops all draw r []) s2 k else none) (gc (({ tmps:=s.tmps,heap:=s'.heap,hb:=s.hb }:St).put o.dst (avOfRes l)))
        | none=>none) = some x):=by
 rw [eval_ops] at h
 have skip:∀ s':St,s' = s → guardA s all o = some false → eval E lr n (.ops all draw r ((log.length,[],[],tmpsOf all o,o.dst.toList) :: log)) (s'.put o.dst (.tup [])) k = some x →
   ∃ e:Ent,e.o = o ∧ e.nid = nid ∧ StepOk E all s e ∧ eval E lr n (.ops all draw r ((log.length,e.fp all) :: log)) (app e s) k = some x:=by
  intro s' hs hg hh
  subst hs
  exact ⟨⟨o,nid,[],⟨.tup [],[]⟩⟩,rfl,rfl,.inl ⟨hg,rfl,rfl⟩,hh⟩
 split at h
 ·rename_i hgu
  exact run_inv (by simp only [guardA,hgu]) h
 ·rename_i j want hgu
  split at h
  ·rename_i hj
   exact .inl (skip s rfl (by simp only [guardA,hgu,hj]) h)
  ·rename_i d hj
   split at h
   ·rename_i b hb
    cases b with
    | true=>rw [B08 hb rfl] at h; exact run_inv (by simp only [guardA,hgu,hj,hb]; rfl) h
    | false=>exact .inl (skip _ (B08 hb rfl) (by simp only [guardA,hgu,hj,hb]; rfl) h)
   ·rename_i b hb
    cases b with
    | true=>exact .inl (skip _ (B08 hb rfl) (by simp only [guardA,hgu,hj,hb]; rfl) h)
    | false=>rw [B08 hb rfl] at h; exact run_inv (by simp only [guardA,hgu,hj,hb]; rfl) h
   ·rename_i hb
    exact .inl (skip s rfl (by simp only [guardA,hgu,hj,hb]) h)
   ·cases h
def stAt (S:Nat → Bool) (tr:List Ent) (s0:St):Nat → St
 | 0=>s0
 | n + 1=>if S n then app (tr.getD n default) (stAt S tr s0 n) else stAt S tr s0 n
abbrev allIn:Nat → Bool:=fun _=>true
theorem w83 {S:Nat → Bool} {tr us:List Ent} {s0:St}:∀ n,n ≤ tr.length → stAt S (tr ++ us) s0 n = stAt S tr s0 n
 | 0,_=>rfl
 | n + 1,h=>by
  simp only [stAt,w83 n (Nat.le_of_succ_le h)]
  rw [List.getD_eq_getElem?_getD,List.getD_eq_getElem?_getD,List.getElem?_append_left (by omega)]
def logR (all:Array Oper):List Ent → List (Nat × List Nat × List Nat × List Nat × List Nat)
 | []=>[]
 | e :: r=>(r.length,e.fp all) :: logR all r
theorem logR_len (all:Array Oper):∀ l:List Ent,(logR all l).length = l.length
 | []=>rfl
 | _ :: r=>by simp [logR,logR_len all r]
def Trace (E:Env) (all:Array Oper) (s0:St) (tr:List Ent):Prop :=
 ∀ j e,tr[j]? = some e → StepOk E all (stAt allIn tr s0 j) e
theorem trace_snoc {all:Array Oper} {s0:St} {tr:List Ent} {e:Ent} (h:Trace E all s0 tr) (he:StepOk E all (stAt allIn tr s0 tr.length) e) :
  Trace E all s0 (tr ++ [e]):=by
 intro j e' hj
 rcases Nat.lt_or_ge j tr.length with hlt | hge
 ·rw [List.getElem?_append_left hlt] at hj
  rw [w83 j (Nat.le_of_lt hlt)]
  exact h j e' hj
 ·rw [List.getElem?_append_right hge] at hj
  have hj0:j - tr.length = 0:=by
   rcases Nat.eq_zero_or_pos (j - tr.length) with h0 | h0
   ·exact h0
   ·rw [List.getElem?_eq_none (by simp; omega)] at hj; cases hj
  rw [hj0] at hj
  simp at hj
  subst hj
  have:j = tr.length:=by omega
  subst this
  rw [w83 _ (Nat.le_refl _)]
  exact he
theorem stAt_snoc {s0:St} {tr:List Ent} {e:Ent}:stAt allIn (tr ++ [e]) s0 (tr ++ [e]).length = app e (stAt allIn tr s0 tr.length):=by
 have:(tr ++ [e]).length = tr.length + 1:=by simp
 rw [this]
 simp only [stAt,w83 _ (Nat.le_refl _),if_true]
 rw [List.getD_eq_getElem?_getD,List.getElem?_append_right (Nat.le_refl _)]
 simp
theorem ops_trace {all:Array Oper} {s0:St} {k:X → St → Option R} {x:R}:∀ (l:List (Oper × Nat)) (n:Nat) (pre:List Ent),
  eval E lr n (.ops all true l (logR all pre.reverse)) (stAt allIn pre s0 pre.length) k = some x → Trace E all s0 pre →
  ∃ tr:List Ent,(tr.map fun e=>(e.o,e.nid)) = (pre.map fun e=>(e.o,e.nid)) ++ l ∧ Trace E all s0 tr ∧ indep (Region.before all) (logR all tr.reverse) = true ∧ topo 0 all.toList = true ∧
   k .norm (stAt allIn tr s0 tr.length).trim = some x
 | [],n,pre,h,ht=>by
  cases n with
  | zero=>cases h
  | succ n =>
   have h':(bif indep (Region.before all) (logR all pre.reverse) && topo 0 all.toList then k .norm (stAt allIn pre s0 pre.length).trim else none) = some x:=h
   cases hi:indep (Region.before all) (logR all pre.reverse) && topo 0 all.toList with
   | false=>rw [hi] at h'; cases h'
   | true =>
    rw [hi] at h'
    simp only [Bool.and_eq_true] at hi
    exact ⟨pre,by simp,ht,hi.1,hi.2,h'⟩
 | (o,nid) :: r,n,pre,h,ht=>by
  cases n with
  | zero=>cases h
  | succ n =>
   rcases ops_inv h with ⟨e,rfl,rfl,hs,h2⟩ | ⟨hd,_⟩
   ·have hl:(((logR all pre.reverse).length,e.fp all) :: logR all pre.reverse) = logR all (pre ++ [e]).reverse:=by
     rw [List.reverse_append]
     simp [logR,logR_len]
    rw [hl,← stAt_snoc] at h2
    obtain ⟨tr,h1,h3⟩:=ops_trace r n (pre ++ [e]) h2 (trace_snoc ht hs)
    exact ⟨tr,by rw [h1]; simp,h3⟩
   ·cases hd
end
inductive Loc where
 | tm (t:Nat)
 | hp (i:Nat)
def Same (l:Loc) (s s':St):Prop :=
 match l with
 | .tm t=>s.tmps[t]? = s'.tmps[t]?
 | .hp i=>s.heap[i]? = s'.heap[i]?
theorem Same.refl (l:Loc) (s:St):Same l s s:=by cases l <;> rfl
theorem Same.trans {l:Loc} {s s' s'':St} (h:Same l s s') (k:Same l s' s''):Same l s s'':=by cases l <;> exact Eq.trans h k
theorem Same.symm {l:Loc} {s s':St} (h:Same l s s'):Same l s' s:=by cases l <;> exact Eq.symm h
def Ent.writes (e:Ent):Loc → Prop
 | .tm t=>e.o.dst = some t
 | .hp i=>i ∈ e.f.ws.map (·.1)
def Ent.reads (all:Array Oper) (e:Ent):Loc → Prop
 | .tm t=>t ∈ tmpsOf all e.o
 | .hp i=>i ∈ e.rd
theorem set_congr {α:Type} {l l':List α} {i t:Nat} {v:α} (h:l[t]? = l'[t]?):(l.set i v)[t]? = (l'.set i v)[t]?:=by
 by_cases hi:i = t
 ·subst hi
  rcases Nat.lt_or_ge i l.length with h1 | h1
  ·have h2:i < l'.length:=by
    rcases Nat.lt_or_ge i l'.length with h2 | h2
    ·exact h2
    ·rw [List.getElem?_eq_none h2,List.getElem?_eq_getElem h1] at h; cases h
   rw [List.getElem?_set_self h1,List.getElem?_set_self h2]
  ·have h2:l'.length ≤ i:=by
    rcases Nat.lt_or_ge i l'.length with h2 | h2
    ·rw [List.getElem?_eq_none h1,List.getElem?_eq_getElem h2] at h; cases h
    ·exact h2
   rw [List.getElem?_eq_none (by simpa using h1),List.getElem?_eq_none (by simpa using h2)]
 ·rw [List.getElem?_set_ne hi,List.getElem?_set_ne hi,h]
theorem B45 {i:Nat}:∀ (ws:List (Nat × Blk)) {H H':List Blk},H[i]? = H'[i]? → (E3 H ws)[i]? = (E3 H' ws)[i]?
 | [],_,_,h=>h
 | (j,b) :: r,_,_,h=>B45 r (set_congr h)
theorem w01 (e:Ent) (s:St):(app e s).heap = E3 s.heap e.f.ws:=by
 unfold app St.put
 split <;> rfl
theorem B62 (e:Ent) (s:St):(app e s).tmps = match e.o.dst with | some d=>s.tmps.set d e.f.v | none=>s.tmps:=by
 cases hd:e.o.dst <;> simp [app,St.put,St.write,hd]
theorem app_hb (e:Ent) (s:St):(app e s).hb = s.hb:=by
 unfold app St.put
 split <;> rfl
theorem C25 {l:Loc} (e:Ent) {s s':St} (h:Same l s s'):Same l (app e s) (app e s'):=by
 cases l with
 | tm t =>
  simp only [Same,B62]
  cases e.o.dst with
  | none=>exact h
  | some d=>exact set_congr h
 | hp i=>simp only [Same,w01]; exact B45 _ h
theorem B29 {l:Loc} (e:Ent) {s:St} (h:¬ e.writes l):Same l (app e s) s:=by
 cases l with
 | tm t =>
  simp only [Same,B62]
  cases hd:e.o.dst with
  | none=>rfl
  | some d =>
   have:d ≠ t:=fun hq=>h (by rw [← hq]; exact hd)
   exact List.getElem?_set_ne this
 | hp i =>
  simp only [Same,w01]
  exact w59 _ _ fun p hp hq=>h (List.mem_map.2 ⟨p,hp,hq⟩)
theorem B79 {all:Array Oper} {a b:Ent} (h:clash (a.fp all) (b.fp all) = false) (l:Loc) :
  (a.writes l → ¬ b.reads all l ∧ ¬ b.writes l) ∧ (b.writes l → ¬ a.reads all l):=by
 simp only [clash,Ent.fp,Bool.or_eq_false_iff,List.any_eq_false,List.contains_iff_mem,Bool.or_eq_true,Bool.not_eq_true,decide_eq_false_iff_not,not_or] at h
 obtain ⟨⟨⟨h1,h2⟩,h3⟩,h4⟩:=h
 cases l with
 | tm t =>
  simp only [Ent.writes,Ent.reads]
  refine ⟨fun ha=>?_,fun hb=>?_⟩
  ·have:=h3 t (by simp [ha])
   exact ⟨this.1,fun hb=>this.2 (by simp [hb])⟩
  ·exact h4 t (by simp [hb])
 | hp i =>
  simp only [Ent.writes,Ent.reads]
  refine ⟨fun ha=>?_,fun hb=>?_⟩
  ·exact h1 i ha
  ·exact h2 i hb
section
variable {tr:List Ent} {s0:St}
theorem w90 {l:Loc} {S S':Nat → Bool}:∀ n,(∀ j,j < n → (tr.getD j default).writes l → S j = S' j) → Same l (stAt S tr s0 n) (stAt S' tr s0 n)
 | 0,_=>Same.refl _ _
 | n + 1,h=>by
  have ih:=w90 n fun j hj=>h j (Nat.lt_succ_of_lt hj)
  simp only [stAt]
  by_cases hw:(tr.getD n default).writes l
  ·rw [h n (Nat.lt_succ_self n) hw]
   split
   ·exact C25 _ ih
   ·exact ih
  ·split <;> split
   ·exact C25 _ ih
   ·exact (B29 _ hw).trans ih
   ·exact ih.trans (B29 _ hw).symm
   ·exact ih
theorem w36 {l:Loc} {S:Nat → Bool} {i:Nat}:∀ n,i ≤ n → (∀ j,i ≤ j → j < n → (tr.getD j default).writes l → S j = false) → Same l (stAt S tr s0 n) (stAt S tr s0 i)
 | 0,hi,_=>by cases Nat.le_zero.1 hi; exact Same.refl _ _
 | n + 1,hi,h=>by
  rcases Nat.lt_or_ge i (n + 1) with hlt | hge
  ·have ih:=w36 (l:=l) (S:=S) (i:=i) n (by omega) fun j h1 h2=>h j h1 (by omega)
   simp only [stAt]
   by_cases hw:(tr.getD n default).writes l
   ·rw [h n (by omega) (by omega) hw]; exact ih
   ·split
    ·exact (B29 _ hw).trans ih
    ·exact ih
  ·have:i = n + 1:=by omega
   subst this
   exact Same.refl _ _
theorem w72 {S:Nat → Bool}:∀ n,(stAt S tr s0 n).hb = s0.hb
 | 0=>rfl
 | n + 1=>by
  simp only [stAt]
  split
  ·rw [app_hb,w72 n]
  ·exact w72 n
theorem B75 {S:Nat → Bool}:∀ n,(stAt S tr s0 n).heap.length = s0.heap.length
 | 0=>rfl
 | n + 1=>by
  simp only [stAt]
  split
  ·rw [w01,a55,B75 n]
  ·exact B75 n
theorem stAt_lt (i:Nat):∀ n,i ≤ n → stAt (fun j=>decide (j < i)) tr s0 n = stAt allIn tr s0 i
 | 0,h=>by cases Nat.le_zero.1 h; rfl
 | n + 1,h=>by
  rcases Nat.lt_or_ge n i with hlt | hge
  ·have hi:i = n + 1:=by omega
   subst hi
   have:∀ m,m ≤ n + 1 → stAt (fun j=>decide (j < n + 1)) tr s0 m = stAt allIn tr s0 m:=by
    intro m
    induction m with
    | zero=>intro _; rfl
    | succ m ih =>
     intro hm
     simp only [stAt]
     rw [ih (by omega)]
     simp [show m < n + 1 by omega]
   exact this _ (Nat.le_refl _)
  ·simp only [stAt]
   rw [stAt_lt i n hge]
   simp [show ¬ n < i by omega]
theorem St.ext' {s s':St} (h1:∀ l,Same l s s') (h2:s.hb = s'.hb):s = s':=by
 obtain ⟨t,h,b⟩:=s
 obtain ⟨t',h',b'⟩:=s'
 have e1:t = t':=List.ext_getElem? fun i=>h1 (.tm i)
 have e2:h = h':=List.ext_getElem? fun i=>h1 (.hp i)
 subst e1 e2
 cases h2
 rfl
variable {all:Array Oper}
def Indep (all:Array Oper) (tr:List Ent):Prop :=
 ∀ i j,i < j → j < tr.length → ((Region.before all).getD j 0).testBit i = true ∨ clash ((tr.getD i default).fp all) ((tr.getD j default).fp all) = false
theorem logR_mem {l:List Ent} {p} (h:p ∈ logR all l):p.1 < l.length ∧ p.2 = (l.reverse.getD p.1 default).fp all:=by
 induction l with
 | nil=>cases h
 | cons e r ih =>
  rcases List.mem_cons.1 h with rfl | h
  ·refine ⟨by simp,?_⟩
   simp only [List.reverse_cons]
   rw [List.getD_eq_getElem?_getD,List.getElem?_append_right (by simp)]
   simp
  ·obtain ⟨h1,h2⟩:=ih h
   refine ⟨by simp; omega,?_⟩
   rw [h2]
   simp only [List.reverse_cons]
   rw [List.getD_eq_getElem?_getD,List.getD_eq_getElem?_getD,List.getElem?_append_left (by simpa using h1)]
theorem logR_has:∀ {l:List Ent} {i:Nat},i < l.length → (i,(l.reverse.getD i default).fp all) ∈ logR all l
 | [],i,h=>by simp at h
 | e :: r,i,h=>by
  simp only [logR,List.mem_cons,List.reverse_cons]
  rcases Nat.lt_or_ge i r.length with hlt | hge
  ·right
   rw [List.getD_eq_getElem?_getD,List.getElem?_append_left (by simpa using hlt),← List.getD_eq_getElem?_getD]
   exact logR_has hlt
  ·left
   have:i = r.length:=by simp at h; omega
   subst this
   rw [List.getD_eq_getElem?_getD,List.getElem?_append_right (by simp)]
   simp
theorem indep_of {l:List Ent} {bf:Array Nat} (h:indep bf (logR all l) = true):∀ i j,i < j → j < l.length →
  (bf.getD j 0).testBit i = true ∨ clash ((l.reverse.getD i default).fp all) ((l.reverse.getD j default).fp all) = false:=by
 induction l with
 | nil=>intro i j _ hj; simp at hj
 | cons e r ih =>
  simp only [logR,indep,Bool.and_eq_true,List.all_eq_true,Bool.or_eq_true,Bool.not_eq_true'] at h
  intro i j hij hj
  have hget:∀ m,m < r.length → (e :: r).reverse.getD m default = r.reverse.getD m default:=fun m hm=>by
   rw [List.reverse_cons,List.getD_eq_getElem?_getD,List.getElem?_append_left (by simpa using hm),← List.getD_eq_getElem?_getD]
  have hlast:(e :: r).reverse.getD r.length default = e:=by
   rw [List.reverse_cons,List.getD_eq_getElem?_getD,List.getElem?_append_right (by simp)]
   simp
  rcases Nat.lt_or_ge j r.length with hlt | hge
  ·rw [hget i (by omega),hget j hlt]
   exact ih h.2 i j hij hlt
  ·have:j = r.length:=by simp at hj; omega
   subst this
   rw [hget i hij,hlast]
   exact h.1 _ (logR_has hij)
theorem Indep.of (h:indep (Region.before all) (logR all tr.reverse) = true):Indep all tr:=by
 intro i j hij hj
 have:=indep_of h i j hij (by simpa using hj)
 simpa using this
end
end Go.Am
end
section
namespace Go.Am
open Go.RowKit (Below)
structure Fix where
 B:Nat
 w0:Base
 H0:List Blk
 μ0:Mu
 v0:World
 I0:Cells
structure Rel (F:Fix) (s:St) (a:Act) (w:World):Prop where
 rep:∃ μ I,HeapRel F.B F.w0 s.heap μ w I ∧ Each (RepAV s.heap μ w I) s.tmps a.tmps.toList ∧ Ext F.H0.length F.H0 F.μ0 F.v0 F.I0 s.heap μ w I
 defers:a.defers = []
 hb:s.hb = F.H0.length
 len:F.H0.length ≤ s.heap.length
section
variable {P:Program} {E:Env} {WI:World → Cells → Prop} {F:Fix} {all:Array Oper} {s:St} {a:Act} {w:World} {H:List Blk} {μ:Mu} {I:Cells}
theorem ev_rep (h:Each (RepAV s.heap μ w I) s.tmps a.tmps.toList) (x:Operand):RepAV s.heap μ w I (s.ev x) (a.eval x):=by
 cases x with
 | tmp t =>
  show RepAV s.heap μ w I (s.tmps.getD t .junk) (a.tmps.getD t undef)
  rw [List.getD_eq_getElem?_getD]
  cases hq:s.tmps[t]? with
  | none=>exact trivial
  | some v =>
   obtain ⟨u,hu,hr⟩:=h.get t v hq
   rw [Array.getElem?_toList] at hu
   simp [hu]
   exact hr
 | const v=>exact avOf_rep v
 | global g=>exact trivial
 | func f=>exact ⟨rfl,rfl⟩
theorem w23 {n:Nat} {H':List Blk} {μ':Mu} {w':World} {I':Cells} (hx:Ext n H μ w I H' μ' w' I') (hn:H.length ≤ n) {l:List AV} {vs:List Value}
  (h:Each (RepAV H μ w I) l vs):Each (RepAV H' μ' w' I') l vs :=
 h.mono fun _ _ _ hr=>hr.ext hx fun id hid=>Nat.lt_of_lt_of_le (hr.lt id hid) hn
theorem Rel.next (h:Rel F s a w) (e:Ent) {u:Value} {w':World}
  (hd:∀ {μ:Mu} {I:Cells},HeapRel F.B F.w0 s.heap μ w I → Each (RepAV s.heap μ w I) s.tmps a.tmps.toList → Done F.B F.w0 s.heap μ w I e.f u w') :
  Rel F (app e s) (a.put e.o.dst u) w':=by
 obtain ⟨⟨μ,I,hr,ht,hx⟩,hdf,hb,hl⟩:=h
 obtain ⟨μ',I',h1,h2,h3⟩:=hd hr ht
 refine ⟨⟨μ',I',by rw [w01]; exact h1,?_,by rw [w01]; exact hx.trans (h2.mono hl)⟩,?_,by rw [app_hb]; exact hb,by rw [w01,a55]; exact hl⟩
 ·rw [w01,B62]
  have ht':=w23 h2 (Nat.le_refl _) ht
  unfold Act.put
  cases e.o.dst with
  | none=>exact ht'
  | some d=>simpa using ht'.set d _ _ h3
 ·unfold Act.put
  split <;> exact hdf
theorem Rel.le (h:Rel F s a w):∃ μ I,HeapRel F.B F.w0 s.heap μ w I:=let ⟨μ,I,h1,_⟩:=h.rep; ⟨μ,I,h1⟩
theorem B12 (h:Rel F s a w) {o:Oper} {b:Bool} (hg:guardA s all o = some b):Region.wanted o (yielded all a.tmps) = b:=by
 obtain ⟨⟨μ,I,hr,ht,hx⟩,_⟩:=h
 unfold guardA at hg
 unfold Region.wanted
 split at hg
 ·rename_i hgu; rw [hgu]; cases hg; rfl
 ·rename_i j want hgu
  rw [hgu]
  unfold yielded
  split at hg
  ·rename_i hj
   simp only [hj,Option.bind_none]; cases hg; rfl
  ·rename_i d hj
   simp only [hj]
   split at hg
   ·rename_i c hc
    cases hg
    obtain ⟨u,hu,hrep⟩:=ht.get d _ hc
    rw [Array.getElem?_toList] at hu
    have hub:=w67 hrep
    simp only [Option.bind_some,hu,hub]
    cases c <;> cases want <;> rfl
   ·rename_i hc
    cases hg
    obtain ⟨u,hu,vs,rfl,hrep⟩:=ht.get d _ hc
    rw [Array.getElem?_toList] at hu
    simp only [Option.bind_some,hu]
    rfl
   ·cases hg
theorem undef_rep:RepAV H μ w I (.tup []) undef:=⟨#[],rfl,trivial⟩
theorem step_wp (hE:EnvOk P E WI) (hw0:WI F.v0 F.I0) (h:Rel F s a w) {e:Ent} (hs:StepOk E all s e) (hf:lays e.o.op = true → s.heap[e.nid]? = some .free)
  {i:Nat} (hi:all[i]? = some e.o) {K:Act → World → Prop} {Q:Exit → Act → World → Prop} (hk:∀ a' w',Rel F (app e s) a' w' → K a' w'):wpOp P all Q i K a w:=by
 unfold wpOp
 rw [hi]
 simp only
 rcases hs with ⟨hg,_,hf0⟩ | ⟨hg,_,he,_⟩
 ·rw [B12 h hg]
  simp only [Bool.false_eq_true,if_false]
  refine hk _ _ (h.next e (fun hr ht=>?_))
  rw [hf0]
  exact S3 hr undef_rep
 ·rw [B12 h hg]
  simp only [if_true]
  refine .inl ?_
  have hsound:∀ {μ:Mu} {I:Cells},Keeps F.v0 w F.I0 I ∧ HeapRel F.B F.w0 s.heap μ w I → Each (RepAV s.heap μ w I) s.tmps a.tmps.toList → OpSound P a.eval e.o w fun u w'=>Done F.B F.w0 s.heap μ w I e.f u w' :=
   fun hr ht=>op_ok hE (hE.wi _ _ _ _ hr.1 hw0) hr.2 hf (ev_rep ht) (fun _=>rfl) he
  obtain ⟨⟨μ,I,hr,ht,hx⟩,hdf,hb,hl⟩:=h
  refine (hsound ⟨hx.keeps,hr⟩ ht).wp fun u w' hp=>hk _ _ ?_
  obtain ⟨μ',I',h1,h2,h3⟩:=hp
  refine ⟨⟨μ',I',by rw [w01]; exact h1,?_,by rw [w01]; exact hx.trans (h2.mono hl)⟩,?_,by rw [app_hb]; exact hb,by rw [w01,a55]; exact hl⟩
  ·rw [w01,B62]
   have ht':=w23 h2 (Nat.le_refl _) ht
   unfold Act.put
   cases e.o.dst with
   | none=>exact ht'
   | some d=>simpa using ht'.set d _ _ h3
  ·unfold Act.put
   split <;> exact hdf
end
theorem w37:∀ (l:List Oper) (n:Nat) {j:Nat} {p:Oper × Nat},(a61 n l)[j]? = some p → n ≤ p.2 ∧ l[j]? = some p.1 ∧ (lays p.1.op = true → p.2 < n + a81 l)
 | [],_,_,_,h=>by simp [a61] at h
 | o :: r,n,0,p,h=>by
  simp only [a61,List.getElem?_cons_zero,Option.some.injEq] at h
  subst h
  refine ⟨Nat.le_refl _,rfl,fun hl=>?_⟩
  simp only [a81]
  simp only at hl
  rw [hl]; simp; omega
 | o :: r,n,j + 1,p,h=>by
  simp only [a61,List.getElem?_cons_succ] at h
  obtain ⟨h1,h2,h3⟩:=w37 r _ h
  refine ⟨Nat.le_trans (by split <;> omega) h1,by simpa using h2,fun hl=>?_⟩
  have:=h3 hl
  simp only [a81]
  split at this <;> simp_all <;> omega
theorem C35 (l:List Oper):∀ (n j i:Nat) (p q:Oper × Nat),j < i → (a61 n l)[j]? = some p → (a61 n l)[i]? = some q → lays p.1.op = true → p.2 < q.2:=by
 induction l with
 | nil=>intro n j i p q _ h; simp [a61] at h
 | cons o r ih =>
  intro n j i p q hij h h2 hl
  cases i with
  | zero=>omega
  | succ i =>
   simp only [a61,List.getElem?_cons_succ] at h2
   cases j with
   | zero =>
    simp only [a61,List.getElem?_cons_zero,Option.some.injEq] at h
    subst h
    have h3:=(w37 r _ h2).1
    simp only at hl
    rw [if_pos hl] at h3
    exact h3
   | succ j =>
    simp only [a61,List.getElem?_cons_succ] at h
    exact ih _ _ _ _ _ (by omega) h h2 hl
section
variable {E:Env} {all:Array Oper} {tr:List Ent} {s0:St}
structure Region0 (E:Env) (all:Array Oper) (tr:List Ent) (s0:St) (n0:Nat):Prop where
 nums:(tr.map fun e=>(e.o,e.nid)) = a61 n0 all.toList
 trace:Trace E all s0 tr
 free:∀ j,n0 ≤ j → j < n0 + a81 all.toList → s0.heap[j]? = some .free
variable {n0:Nat}
theorem Region0.len (h:Region0 E all tr s0 n0):tr.length = all.size:=by
 have h1:∀ (l:List Oper) (n:Nat),(a61 n l).length = l.length:=by
  intro l
  induction l with
  | nil=>intro n; rfl
  | cons o r ih=>intro n; simp [a61,ih]
 have:=congrArg List.length h.nums
 simpa [h1] using this
theorem Region0.get (h:Region0 E all tr s0 n0) {j:Nat} {e:Ent} (hj:tr[j]? = some e):(a61 n0 all.toList)[j]? = some (e.o,e.nid):=by
 rw [← h.nums,List.getElem?_map,hj]; rfl
theorem Region0.op (h:Region0 E all tr s0 n0) {j:Nat} {e:Ent} (hj:tr[j]? = some e):all[j]? = some e.o:=by
 have:=(w37 _ _ (h.get hj)).2.1
 simpa using this
theorem Region0.free0 (h:Region0 E all tr s0 n0) {j:Nat} {e:Ent} (hj:tr[j]? = some e) (hl:lays e.o.op = true):s0.heap[e.nid]? = some .free:=by
 obtain ⟨h1,_,h3⟩:=w37 _ _ (h.get hj)
 exact h.free _ h1 (h3 hl)
theorem Region0.nid_inj (h:Region0 E all tr s0 n0) {i j:Nat} {e e':Ent} (hi:tr[i]? = some e) (hj:tr[j]? = some e') (hl:lays e.o.op = true) (hl':lays e'.o.op = true) (hn:e.nid = e'.nid):i = j:=by
 rcases Nat.lt_trichotomy i j with hlt | rfl | hgt
 ·have:=C35 _ _ _ _ _ _ hlt (h.get hi) (h.get hj) hl
  simp only at this; omega
 ·rfl
 ·have:=C35 _ _ _ _ _ _ hgt (h.get hj) (h.get hi) hl'
  simp only at this; omega
theorem D5 {j:Nat} {e:Ent} (hj:tr[j]? = some e):tr.getD j default = e:=by rw [List.getD_eq_getElem?_getD,hj]; rfl
theorem Region0.first (h:Region0 E all tr s0 n0) {i:Nat} {e:Ent} (hi:tr[i]? = some e) (hl:lays e.o.op = true) :
  ∀ (j:Nat) (e':Ent),tr[j]? = some e' → e'.writes (.hp e.nid) → j = i ∨ (i < j ∧ e.writes (.hp e.nid)):=by
 intro j
 induction j using Nat.strongRecOn with
 | _ j ih =>
  intro e' hj hw
  have hs:=h.trace j e' hj
  rcases hs with ⟨_,_,hf⟩ | ⟨_,_,_,hok⟩
  ·rw [Ent.writes,hf] at hw; cases hw
  ·simp only [Ent.writes,List.mem_map] at hw
   obtain ⟨p,hp,hpe⟩:=hw
   simp only [okW,List.all_eq_true] at hok
   have:=hok p hp
   by_cases hn:p.1 = e'.nid
   ·simp only [hn,if_true,Bool.and_eq_true] at this
    exact .inl (h.nid_inj hi hj hl this.1 (by rw [← hpe,hn])).symm
   ·simp only [hn,if_false] at this
    by_cases hex:∃ m em,m < j ∧ tr[m]? = some em ∧ em.writes (.hp e.nid)
    ·obtain ⟨m,em,hmj,hm,hmw⟩:=hex
     rcases ih m hmj em hm hmw with rfl | ⟨h1,h2⟩
     ·rw [hi] at hm; cases hm
      exact .inr ⟨hmj,hmw⟩
     ·exact .inr ⟨by omega,h2⟩
    ·have hsame:Same (.hp e.nid) (stAt allIn tr s0 j) (stAt allIn tr s0 0):=by
      refine w36 j (Nat.zero_le _) fun m _ hm hw=>absurd ?_ hex
      have hlt:m < tr.length:=Nat.lt_trans hm (List.getElem?_eq_some_iff.1 hj).1
      exact ⟨m,tr[m],hm,List.getElem?_eq_getElem hlt,by rw [← D5 (List.getElem?_eq_getElem hlt)]; exact hw⟩
     have hfree:(stAt allIn tr s0 j).heap[p.1]? = some .free:=by
      rw [hpe]
      exact Eq.trans hsame (h.free0 hi hl)
     rw [hfree] at this
     cases this
theorem Region0.free_at (h:Region0 E all tr s0 n0) {i:Nat} {e:Ent} (hi:tr[i]? = some e) (hl:lays e.o.op = true):(stAt allIn tr s0 i).heap[e.nid]? = some .free:=by
 have:Same (.hp e.nid) (stAt allIn tr s0 i) (stAt allIn tr s0 0):=by
  refine w36 i (Nat.zero_le _) fun m _ hm hw=>?_
  have hlt:m < tr.length:=Nat.lt_trans hm (List.getElem?_eq_some_iff.1 hi).1
  rcases h.first hi hl m tr[m] (List.getElem?_eq_getElem hlt) (by rw [← D5 (List.getElem?_eq_getElem hlt)]; exact hw) with rfl | ⟨h1,_⟩
  ·omega
  ·omega
 exact Eq.trans this (h.free0 hi hl)
def Closed (all:Array Oper) (S:Nat → Bool):Prop:=∀ j o,all[j]? = some o → S j = true → ∀ e ∈ o.after,Region.binds .any e = true → S e.on = true
theorem topo_spec:∀ (l:List Oper) (n:Nat),topo n l = true → ∀ j o,l[j]? = some o → ∀ e ∈ o.after,Region.binds .any e = true → e.on < n + j
 | [],_,_,j,o,h=>by simp at h
 | o :: r,n,ht,0,o',h=>by
  simp only [topo,Bool.and_eq_true] at ht
  simp only [List.getElem?_cons_zero,Option.some.injEq] at h
  subst h
  intro e he hb
  have:=Array.all_eq_true_iff_forall_mem.1 ht.1 e he
  simp only [hb,Bool.not_true,Bool.false_or,decide_eq_true_eq] at this
  omega
 | o :: r,n,ht,j + 1,o',h=>by
  simp only [topo,Bool.and_eq_true] at ht
  intro e he hb
  have:=topo_spec r (n + 1) ht.2 j o' (by simpa using h) e he hb
  omega
def beforeL (l:List Oper) (acc:Array Nat):Array Nat :=
 l.foldl (init:=acc) fun acc o=>acc.push (o.after.foldl (fun s e=>if Region.binds .any e then s ||| 2 ^ e.on ||| acc.getD e.on 0 else s) 0)
theorem before_eq:Region.before all = beforeL all.toList #[]:=by
 unfold Region.before beforeL
 rw [← Array.foldl_toList]
theorem fold_bits (acc:Array Nat) (i:Nat):∀ (l:List Edge) (s:Nat),
  (l.foldl (fun s e=>if Region.binds .any e then s ||| 2 ^ e.on ||| acc.getD e.on 0 else s) s).testBit i = true →
  s.testBit i = true ∨ ∃ e ∈ l,Region.binds .any e = true ∧ (e.on = i ∨ (acc.getD e.on 0).testBit i = true)
 | [],s,h=>.inl h
 | e :: r,s,h=>by
  simp only [List.foldl_cons] at h
  rcases fold_bits acc i r _ h with h | ⟨e',he',hb⟩
  ·split at h
   ·rename_i hbe
    simp only [Nat.testBit_or,Bool.or_eq_true] at h
    rcases h with (h | h) | h
    ·exact .inl h
    ·refine .inr ⟨e,by simp,hbe,.inl ?_⟩
     rw [Nat.testBit_two_pow] at h
     simpa using h
    ·exact .inr ⟨e,by simp,hbe,.inr h⟩
   ·exact .inl h
  ·exact .inr ⟨e',by simp [he'],hb⟩
theorem C17:∀ (l:List Oper) (acc:Array Nat) (j:Nat),(∀ m,m < acc.size → (beforeL l acc).getD m 0 = acc.getD m 0) ∧
  (∀ m o,l[m]? = some o → ∀ i,((beforeL l acc).getD (acc.size + m) 0).testBit i = true → ∃ e ∈ o.after,Region.binds .any e = true ∧ (e.on = i ∨ (e.on < acc.size + m ∧ ((beforeL l acc).getD e.on 0).testBit i = true)))
 | [],acc,_=>⟨fun _ _=>rfl,fun m o h=>by simp at h⟩
 | o :: r,acc,j=>by
  let x:=o.after.foldl (fun s e=>if Region.binds .any e then s ||| 2 ^ e.on ||| acc.getD e.on 0 else s) 0
  have hb:beforeL (o :: r) acc = beforeL r (acc.push x):=rfl
  obtain ⟨h1,h2⟩:=C17 r (acc.push x) j
  have hsz:(acc.push x).size = acc.size + 1:=Array.size_push ..
  have hlow:∀ m,m < acc.size → (acc.push x).getD m 0 = acc.getD m 0:=fun m hm=>by
   simp [Array.getElem?_push,Nat.ne_of_lt hm]
  rw [hb]
  refine ⟨fun m hm=>by rw [h1 m (by rw [hsz]; omega),hlow m hm],fun m o' ho i hi=>?_⟩
  cases m with
  | zero =>
   simp only [List.getElem?_cons_zero,Option.some.injEq] at ho
   subst ho
   have hx:(beforeL r (acc.push x)).getD acc.size 0 = x:=by
    rw [h1 _ (by rw [hsz]; omega)]; simp
   rw [Nat.add_zero,hx] at hi
   have hi':(o.after.toList.foldl (fun s e=>if Region.binds .any e then s ||| 2 ^ e.on ||| acc.getD e.on 0 else s) 0).testBit i = true:=by
    rw [Array.foldl_toList]; exact hi
   rcases fold_bits acc i _ _ hi' with h | ⟨e,he,hbe,h⟩
   ·simp at h
   ·refine ⟨e,by simpa using he,hbe,h.imp id fun h=>?_⟩
    have hlt:e.on < acc.size:=by
     rcases Nat.lt_or_ge e.on acc.size with h' | h'
     ·exact h'
     ·simp [Array.getElem?_eq_none h'] at h
    exact ⟨by omega,by rw [h1 _ (by rw [hsz]; omega),hlow _ hlt]; exact h⟩
  | succ m =>
   have hm:acc.size + (m + 1) = (acc.push x).size + m:=by rw [hsz]; omega
   rw [hm] at hi ⊢
   exact h2 m o' (by simpa using ho) i hi
theorem B34 {S:Nat → Bool} (hc:Closed all S):∀ (j:Nat) (o:Oper),all[j]? = some o → (∀ e ∈ o.after,Region.binds .any e = true → S e.on = true) →
  ∀ i,((Region.before all).getD j 0).testBit i = true → S i = true:=by
 intro j
 induction j using Nat.strongRecOn with
 | _ j ih =>
  intro o ho hS i hi
  rw [before_eq] at hi
  have:=(C17 all.toList #[] 0).2 j o (by simpa using ho) i (by simpa using hi)
  obtain ⟨e,he,hb,h⟩:=this
  rcases h with rfl | ⟨hlt,h⟩
  ·exact hS e he hb
  ·have hlt':e.on < j:=by simpa using hlt
   have hsz:e.on < all.size:=Nat.lt_trans hlt' (Array.getElem?_eq_some_iff.1 ho).1
   refine ih e.on hlt' all[e.on] (Array.getElem?_eq_getElem hsz) (fun e' he' hb'=>hc e.on _ (Array.getElem?_eq_getElem hsz) (hS e he hb) e' he' hb') i ?_
   rw [before_eq]; exact h
def setT (S:Nat → Bool) (i:Nat):Nat → Bool:=fun j=>if j = i then true else S j
theorem Region0.reads (h:Region0 E all tr s0 n0) (hi:Indep all tr) {S:Nat → Bool} (hc:Closed all S) {i:Nat} {e:Ent} (he:tr[i]? = some e) (hS:S i = false)
  (ha:∀ x ∈ e.o.after,Region.binds .any x = true → S x.on = true) {l:Loc} (hl:e.reads all l ∨ e.writes l) :
  Same l (stAt S tr s0 tr.length) (stAt allIn tr s0 i):=by
 have hlt:i < tr.length:=(List.getElem?_eq_some_iff.1 he).1
 rw [← stAt_lt i tr.length (Nat.le_of_lt hlt)]
 refine w90 _ fun j hj hw=>?_
 have hej:=D5 he
 rcases Nat.lt_trichotomy j i with hji | rfl | hij
 ·simp only [hji,decide_true]
  rcases hi j i hji hlt with hb | hcl
  ·exact B34 hc i e.o (h.op he) ha j hb
  ·rw [hej] at hcl
   obtain ⟨c1,c2⟩:=B79 hcl l
   rcases hl with hl | hl
   ·exact absurd hl (c1 hw).1
   ·exact absurd hl (c1 hw).2
 ·simp [hS]
 ·have:¬ j < i:=by omega
  simp only [this,decide_false]
  cases hSj:S j with
  | false=>rfl
  | true =>
   rcases hi i j hij hj with hb | hcl
   ·have hjo:=List.getElem?_eq_getElem hj
    have:=B34 hc j _ (h.op hjo) (fun x hx hb=>hc j _ (h.op hjo) hSj x hx hb) i hb
    rw [this] at hS; cases hS
   ·rw [hej] at hcl
    obtain ⟨c1,c2⟩:=B79 hcl l
    rcases hl with hl | hl
    ·exact absurd hl (c2 hw)
    ·exact absurd hw (c1 hl).2
theorem Region0.later (h:Region0 E all tr s0 n0) (hi:Indep all tr) {S:Nat → Bool} (hc:Closed all S) {i:Nat} {e:Ent} (he:tr[i]? = some e) (hS:S i = false)
  {l:Loc} (hw:e.writes l):∀ j,i ≤ j → j < tr.length → (tr.getD j default).writes l → S j = false:=by
 intro j hij hj hwj
 rcases Nat.lt_or_ge i j with hlt | hge
 ·cases hSj:S j with
  | false=>rfl
  | true =>
   rcases hi i j hlt hj with hb | hcl
   ·have hjo:=List.getElem?_eq_getElem hj
    have:=B34 hc j _ (h.op hjo) (fun x hx hb=>hc j _ (h.op hjo) hSj x hx hb) i hb
    rw [this] at hS; cases hS
   ·rw [D5 he] at hcl
    exact absurd hwj ((B79 hcl l).1 hw).2
 ·have:j = i:=by omega
  rw [this]; exact hS
theorem Region0.step (h:Region0 E all tr s0 n0) (hi:Indep all tr) {S:Nat → Bool} (hc:Closed all S) {i:Nat} {e:Ent} (he:tr[i]? = some e) (hS:S i = false) :
  stAt (setT S i) tr s0 tr.length = app e (stAt S tr s0 tr.length):=by
 have hlt:i < tr.length:=(List.getElem?_eq_some_iff.1 he).1
 refine St.ext' (fun l=>?_) (by rw [w72,app_hb,w72])
 by_cases hw:e.writes l
 ·have hlat:=h.later hi hc he hS hw
  have e1:Same l (stAt (setT S i) tr s0 tr.length) (stAt (setT S i) tr s0 (i + 1)):=by
   refine w36 _ hlt fun j h1 h2 h3=>?_
   have:j ≠ i:=by omega
   simp only [setT,this,if_false]
   exact hlat j (by omega) h2 h3
  have e2:Same l (stAt S tr s0 tr.length) (stAt S tr s0 i):=w36 _ (Nat.le_of_lt hlt) hlat
  have e3:stAt (setT S i) tr s0 (i + 1) = app e (stAt (setT S i) tr s0 i):=by
   simp only [stAt,setT,if_true]
   rw [D5 he]
  have e4:Same l (stAt (setT S i) tr s0 i) (stAt S tr s0 i):=w90 _ fun j hj _=>by
   have:j ≠ i:=by omega
   simp [setT,this]
  exact e1.trans (by rw [e3]; exact C25 e (e4.trans e2.symm))
 ·refine Same.trans (w90 _ fun j hj hwj=>?_) (B29 e hw).symm
  have:j ≠ i:=by rintro rfl; rw [D5 he] at hwj; exact hw hwj
  simp [setT,this]
end
section
variable {P:Program} {E:Env} {WI:World → Cells → Prop} {F:Fix} {all:Array Oper} {tr:List Ent} {s0:St} {n0:Nat}
theorem looks_operand {o:Oper} {t:Tmp} (h:.tmp t ∈ o.op.operands.toList):t ∈ tmpsOf all o:=by
 unfold tmpsOf Oper.looksAt
 exact List.mem_append_left _ (List.mem_filterMap.2 ⟨.tmp t,h,rfl⟩)
theorem looks_guard {o:Oper} {j:Nat} {b:Bool} {d:Tmp} (hg:o.guard = some (j,b)) (hd:(all[j]?).bind (·.dst) = some d):d ∈ tmpsOf all o:=by
 unfold tmpsOf Oper.looksAt
 refine List.mem_append_right _ ?_
 simp [hg,hd]
theorem StepOk.same {s s':St} {e:Ent} (h:StepOk E all s e) (ht:∀ t ∈ tmpsOf all e.o,s'.tmps[t]? = s.tmps[t]?) (hh:∀ i ∈ e.rd,s'.heap[i]? = s.heap[i]?)
  (hw:∀ i ∈ e.f.ws.map (·.1),s'.heap[i]? = s.heap[i]?) (hlen:s'.heap.length = s.heap.length):StepOk E all s' e:=by
 have hg:guardA s' all e.o = guardA s all e.o:=by
  unfold guardA
  split
  ·rfl
  ·rename_i j want hgu
   split
   ·rfl
   ·rename_i d hd
    rw [ht d (looks_guard hgu hd)]
 have hev:∀ x ∈ e.o.op.operands.toList,s'.ev x = s.ev x:=by
  intro x hx
  cases x with
  | tmp t =>
   show s'.tmps.getD t .junk = s.tmps.getD t .junk
   rw [List.getD_eq_getElem?_getD,List.getD_eq_getElem?_getD,ht t (looks_operand hx)]
  | _=>rfl
 rcases h with ⟨h1,h2,h3⟩ | ⟨h1,h2,h3,h4⟩
 ·exact .inl ⟨hg.trans h1,h2,h3⟩
 ·obtain ⟨_,k2⟩:=opA_ev (E:=E) (H:=s.heap) e.nid e.o.op hev
  refine .inr ⟨hg.trans h1,by rw [k2]; exact h2,?_,?_⟩
  ·rw [(opA_ev (E:=E) (H:=s'.heap) e.nid e.o.op hev).1,opA_agree e.nid s.ev e.o.op (H':=s.heap) (fun i hi=>hh i (by rw [h2]; exact hi))]
   exact h3
  ·simp only [okW,List.all_eq_true] at h4 ⊢
   intro p hp
   rw [hlen,hw p.1 (List.mem_map.2 ⟨p,hp,rfl⟩)]
   exact h4 p hp
def inB (l:Array Bool):Nat → Bool:=fun j=>l.getD j false
theorem inB_set {l:Array Bool} {i:Nat} (h:i < l.size):inB (l.setIfInBounds i true) = setT (inB l) i:=by
 funext j
 unfold inB setT
 by_cases hij:j = i
 ·subst hij; simp [h]
 ·simp [Array.getElem?_setIfInBounds_ne (Ne.symm hij),hij]
theorem draw_wp (hE:EnvOk P E WI) (hw0:WI F.v0 F.I0) (h:Region0 E all tr s0 n0) (hi:Indep all tr) (ht:topo 0 all.toList = true)
  {Q:Exit → Act → World → Prop} (hQ:∀ a w,Rel F (stAt allIn tr s0 tr.length) a w → Q .normal a w) :
  ∀ (fuel:Nat) (listed:Array Bool) (a:Act) (w:World),listed.size = all.size → (listed.toList.countP (· == false)) ≤ fuel → Closed all (inB listed) → Rel F (stAt (inB listed) tr s0 tr.length) a w →
   wpAny P .any all Q fuel listed a w:=by
 have hlen:=h.len
 have done:∀ (listed:Array Bool) (a:Act) (w:World),listed.size = all.size → Region.ready .any all listed = [] → Rel F (stAt (inB listed) tr s0 tr.length) a w → Q .normal a w:=by
  intro listed a w hsz hr hrel
  have hallin:∀ j,j < all.size → inB listed j = true:=by
   intro j
   induction j using Nat.strongRecOn with
   | _ j ih =>
    intro hj
    cases hb:inB listed j with
    | true=>rfl
    | false =>
     have:j ∈ Region.ready .any all listed:=by
      rw [mem_ready]
      have hjl:j < listed.size:=by omega
      refine ⟨?_,all[j],Array.getElem?_eq_getElem hj,fun e he hbe=>?_⟩
      ·simp [inB,hjl] at hb ⊢; exact hb
      ·have hlt:=topo_spec all.toList 0 ht j all[j] (by simp) e he hbe
       exact ih e.on (by omega) (by omega)
     rw [hr] at this; cases this
  have:stAt (inB listed) tr s0 tr.length = stAt allIn tr s0 tr.length :=
   St.ext' (fun l=>w90 _ fun j hj _=>hallin j (by omega)) (by rw [w72,w72])
  rw [this] at hrel
  exact hQ a w hrel
 intro fuel
 induction fuel with
 | zero =>
  intro listed a w hsz hc hcl hrel
  have hr:Region.ready .any all listed = []:=by
   cases hq:Region.ready .any all listed with
   | nil=>rfl
   | cons i r =>
    have hm:i ∈ Region.ready .any all listed:=by rw [hq]; simp
    rw [mem_ready] at hm
    obtain ⟨h0,_⟩:=hm
    have hlt:i < listed.size:=by
     rcases Nat.lt_or_ge i listed.size with h' | h'
     ·exact h'
     ·simp [Array.getElem?_eq_none h'] at h0
    have:0 < listed.toList.countP (· == false):=by
     rw [List.countP_pos_iff]
     exact ⟨false,by simp [hlt] at h0; rw [← h0]; simp,rfl⟩
    omega
  exact ⟨hr,done listed a w hsz hr hrel⟩
 | succ fuel ih =>
  intro listed a w hsz hc hcl hrel
  refine ⟨fun hr=>done listed a w hsz hr hrel,fun i him=>?_⟩
  rw [mem_ready] at him
  obtain ⟨h0,o,ho,hafter⟩:=him
  have hlt:i < listed.size:=by
   rcases Nat.lt_or_ge i listed.size with h' | h'
   ·exact h'
   ·simp [Array.getElem?_eq_none h'] at h0
  have hS:inB listed i = false:=by simp [inB,hlt] at h0 ⊢; exact h0
  have hitr:i < tr.length:=by omega
  have he:tr[i]? = some tr[i]:=List.getElem?_eq_getElem hitr
  have heo:all[i]? = some tr[i].o:=h.op he
  have hoe:o = tr[i].o:=by rw [heo] at ho; cases ho; rfl
  subst hoe
  have hreads:∀ l,tr[i].reads all l ∨ tr[i].writes l → Same l (stAt (inB listed) tr s0 tr.length) (stAt allIn tr s0 i):=fun l hl'=>h.reads hi hcl he hS hafter hl'
  have hstep:StepOk E all (stAt (inB listed) tr s0 tr.length) tr[i] :=
   (h.trace i _ he).same (fun t htm=>hreads (.tm t) (.inl htm)) (fun j hj=>hreads (.hp j) (.inl hj)) (fun j hj=>hreads (.hp j) (.inr hj)) (by rw [B75,B75])
  have hfree:lays tr[i].o.op = true → (stAt (inB listed) tr s0 tr.length).heap[tr[i].nid]? = some .free:=by
   intro hla
   have:Same (.hp tr[i].nid) (stAt (inB listed) tr s0 tr.length) (stAt (inB listed) tr s0 0):=by
    refine w36 _ (Nat.zero_le _) fun j _ hj hw=>?_
    rcases h.first he hla j tr[j] (List.getElem?_eq_getElem hj) (by rw [← D5 (List.getElem?_eq_getElem hj)]; exact hw) with rfl | ⟨h1,h2⟩
    ·exact hS
    ·exact h.later hi hcl he hS h2 j (by omega) hj hw
   exact Eq.trans this (h.free0 he hla)
  refine step_wp hE hw0 hrel hstep hfree heo fun a' w' hrel'=>?_
  have hset:=inB_set hlt
  refine ih _ a' w' (by simpa using hsz) ?_ ?_ ?_
  ·have hcount:∀ (l:List Bool) (i:Nat),l[i]? = some false → (l.set i true).countP (· == false) + 1 = l.countP (· == false):=by
    intro l
    induction l with
    | nil=>intro i hi; simp at hi
    | cons b r ihl =>
     intro i hi
     cases i with
     | zero=>simp at hi; subst hi; simp
     | succ i =>
      simp only [List.set_cons_succ,List.countP_cons]
      have:=ihl i (by simpa using hi)
      omega
   have:=hcount listed.toList i (by simp [inB,hlt] at hS; simp [hlt,hS])
   simp only [Array.toList_setIfInBounds]
   omega
  ·rw [hset]
   intro j o' hj hSj x hx hb
   unfold setT at hSj ⊢
   by_cases hji:j = i
   ·subst hji
    rw [heo] at hj; cases hj
    have:=hafter x hx hb
    split
    ·rfl
    ·exact this
   ·simp only [hji,if_false] at hSj
    have:=hcl j o' hj hSj x hx hb
    split
    ·rfl
    ·exact this
  ·rw [hset,h.step hi hcl he hS]
   exact hrel'
end
section
variable {B:Nat} {w0:Base} {H H':List Blk} {μ:Mu} {w:World} {I:Cells}
theorem RepPtr.agree {p:Nat × Nat} {v:Value} (h:H[p.1]? = H'[p.1]?) (hr:RepPtr H μ p v):RepPtr H' μ p v:=by
 obtain ⟨⟨l,hl⟩,h2⟩:=hr
 exact ⟨⟨l,by rw [← h]; exact hl⟩,h2⟩
theorem RepSc.agree:∀ {s:Sc} {v:Value},Agree s.ids H H' → RepSc H μ w I s v → RepSc H' μ w I s v
 | .lf ..,_,_,hr=>hr
 | .nilS,_,_,hr=>hr
 | .capd ..,_,_,hr=>hr
 | .own id ver,v,h,⟨⟨e,x,vr,l,h1,h2⟩,h3⟩=>⟨⟨e,x,vr,l,by rw [← h id (by simp [Sc.ids])]; exact h1,h2⟩,h3⟩
 | .ptr id off,v,h,hr=>RepPtr.agree (p:=(id,off)) (h id (by simp [Sc.ids])) hr
 | .eptr id ver i off,v,h,⟨⟨e,x,vr,l,h1,h2⟩,h3⟩=>⟨⟨e,x,vr,l,by rw [← h id (by simp [Sc.ids])]; exact h1,h2⟩,h3⟩
 | .rptr ..,_,_,hr=>hr
 | .clo f a c,v,h,⟨va,vb,h1,h2,h3⟩=>⟨va,vb,h1,
   h2.mono fun p _ hp hr=>hr.agree (h p.1 (by simp [Sc.ids]; exact .inl ⟨_,hp⟩)),h3.mono fun p _ hp hr=>hr.agree (h p.1 (by simp [Sc.ids]; exact .inr ⟨_,hp⟩))⟩
 | .nilI,_,_,hr=>hr
 | .junk,_,_,_=>trivial
theorem RepA1.agree:∀ {a:A1} {v:Value},Agree a.ids H H' → RepA1 H μ w I a v → RepA1 H' μ w I a v
 | .sc _,_,h,hr=>RepSc.agree h hr
 | .agg l,v,h,⟨cs,h1,h2⟩=>⟨cs,h1,h2.mono fun s _ hs hr=>hr.agree (h.of fun i hi=>by simp only [A1.ids,List.mem_flatMap]; exact ⟨s,hs,hi⟩)⟩
theorem RepAV.agree:∀ {a:AV} {v:Value},Agree a.ids H H' → RepAV H μ w I a v → RepAV H' μ w I a v
 | .one _,_,h,hr=>RepA1.agree h hr
 | .tup l,v,h,⟨cs,h1,h2⟩=>⟨cs,h1,h2.mono fun s _ hs hr=>hr.agree (h.of fun i hi=>by simp only [AV.ids,List.mem_flatMap]; exact ⟨s,hs,hi⟩)⟩
theorem HeapRel.ghost (hr:HeapRel B w0 H μ w I) (h:∀ (id:Nat) (x':Blk),H'[id]? = some x' → x' = .free ∨ ∃ x:Blk,H[id]? = some x ∧ x.live = true ∧ BlkOk H' μ w I id x' ∧
  (∀ e vr,∀ l:List e.den,x = .row e false vr l → ∃ vr',x' = .row e false vr' l)):HeapRel B w0 H' μ w I:=by
 have live:∀ (id:Nat) (x':Blk),H'[id]? = some x' → x'.live = true → ∃ x:Blk,H[id]? = some x ∧ x.live = true ∧ (∀ e vr,∀ l:List e.den,x = .row e false vr l → ∃ vr',x' = .row e false vr' l):=by
  intro id x' hx hl
  rcases h id x' hx with rfl | ⟨x,h1,h2,_,h3⟩
  ·cases hl
  ·exact ⟨x,h1,h2,h3⟩
 refine ⟨fun id x' hx=>?_,fun id id' x x' b n n' hx hx' hl hl' hb hb'=>?_,fun id x b n hx hl hb=>?_,fun b o hi=>?_,hr.below,hr.fresh,hr.base⟩
 ·rcases h id x' hx with rfl | ⟨x,_,_,h2,_⟩
  ·trivial
  ·exact h2
 ·obtain ⟨y,h1,h2,_⟩:=live id x hx hl
  obtain ⟨y',h1',h2',_⟩:=live id' x' hx' hl'
  exact hr.inj id id' y y' b n n' h1 h1' h2 h2' hb hb'
 ·obtain ⟨y,h1,h2,_⟩:=live id x hx hl
  exact hr.low id y b n h1 h2 hb
 ·obtain ⟨k1,k2⟩:=hr.imm b o hi
  refine ⟨k1,fun id x n hx hl hb=>?_⟩
  obtain ⟨y,h1,h2,h3⟩:=live id x hx hl
  obtain ⟨e,vr,l,rfl,ho⟩:=k2 id y n h1 h2 hb
  obtain ⟨vr',rfl⟩:=h3 e vr l rfl
  exact ⟨e,vr',l,rfl,ho⟩
theorem BlkOk.agree {id:Nat} {x:Blk} (ha:∀ l,x = .cells l → Agree (l.flatMap Sc.ids) H H') (hb:BlkOk H μ w I id x):BlkOk H' μ w I id x:=by
 cases x with
 | free=>trivial
 | row e x vr l=>exact hb
 | cells l =>
  obtain ⟨b,c,e,h1,h2,h3⟩:=hb
  exact ⟨b,c,e,h1,h2,h3.mono fun s _ hs hr=>hr.agree ((ha l rfl).of fun i hi=>List.mem_flatMap.2 ⟨s,hs,hi⟩)⟩
theorem Ext.sub {n:Nat} {H0:List Blk} {μ0:Mu} {v0:World} {I0:Cells} (hx:Ext n H0 μ0 v0 I0 H μ w I) (h:∀ (i:Nat) (x:Blk),i < n → H[i]? = some x → x.live = true → H'[i]? = some x) :
  Ext n H0 μ0 v0 I0 H' μ w I:=by
 refine ⟨hx.keeps,fun id hid l hl=>?_,fun id hid e x vr l hl=>?_⟩
 ·obtain ⟨⟨l',h1⟩,h2⟩:=hx.cells id hid l hl
  exact ⟨⟨l',h _ _ hid h1 rfl⟩,h2⟩
 ·obtain ⟨x',vr',l',h1,h2⟩:=hx.rows id hid e x vr l hl
  exact ⟨x',vr',l',h _ _ hid h1 rfl,h2⟩
theorem RepPtr.live {p:Nat × Nat} {v:Value} (h:RepPtr H μ p v):∃ x:Blk,H[p.1]? = some x ∧ x.live = true:=by
 obtain ⟨⟨l,hl⟩,_⟩:=h
 exact ⟨_,hl,rfl⟩
theorem RepSc.live:∀ {s:Sc} {v:Value},RepSc H μ w I s v → ∀ id ∈ s.ids,∃ x:Blk,H[id]? = some x ∧ x.live = true
 | .own id ver,v,⟨⟨e,x,vr,l,h,_⟩,_⟩,i,hi=>by simp [Sc.ids] at hi; subst hi; exact ⟨_,h,rfl⟩
 | .ptr id off,v,hr,i,hi=>by simp [Sc.ids] at hi; subst hi; exact RepPtr.live (p:=(i,off)) hr
 | .eptr id ver _ off,v,⟨⟨e,x,vr,l,h,_⟩,_⟩,i,hi=>by simp [Sc.ids] at hi; subst hi; exact ⟨_,h,rfl⟩
 | .clo f a c,v,⟨va,vb,h1,h2,h3⟩,i,hi=>by
  simp only [Sc.ids,List.mem_append,List.mem_map] at hi
  rcases hi with ⟨p,hp,rfl⟩ | ⟨p,hp,rfl⟩
  ·obtain ⟨y,hy⟩:=h2.mem p hp; exact hy.live
  ·obtain ⟨y,hy⟩:=h3.mem p hp; exact hy.live
 | .lf ..,_,_,_,hi=>by simp [Sc.ids] at hi
 | .nilS,_,_,_,hi=>by simp [Sc.ids] at hi
 | .capd ..,_,_,_,hi=>by simp [Sc.ids] at hi
 | .rptr ..,_,_,_,hi=>by simp [Sc.ids] at hi
 | .nilI,_,_,_,hi=>by simp [Sc.ids] at hi
 | .junk,_,_,_,hi=>by simp [Sc.ids] at hi
theorem RepA1.live:∀ {a:A1} {v:Value},RepA1 H μ w I a v → ∀ id ∈ a.ids,∃ x:Blk,H[id]? = some x ∧ x.live = true
 | .sc _,_,h,id,hi=>RepSc.live h id hi
 | .agg l,v,⟨cs,h1,h2⟩,id,hi=>by
  simp only [A1.ids,List.mem_flatMap] at hi
  obtain ⟨s,hs,hid⟩:=hi
  obtain ⟨y,hy⟩:=h2.mem s hs
  exact hy.live id hid
theorem RepAV.live:∀ {a:AV} {v:Value},RepAV H μ w I a v → ∀ id ∈ a.ids,∃ x:Blk,H[id]? = some x ∧ x.live = true
 | .one _,_,h,id,hi=>RepA1.live h id hi
 | .tup l,v,⟨cs,h1,h2⟩,id,hi=>by
  simp only [AV.ids,List.mem_flatMap] at hi
  obtain ⟨s,hs,hid⟩:=hi
  obtain ⟨y,hy⟩:=h2.mem s hs
  exact hy.live id hid
theorem HeapRel.live_same (hr:HeapRel B w0 H μ w I) (h1:∀ (i:Nat) (x:Blk),H'[i]? = some x → x = .free ∨ H[i]? = some x) (h2:∀ (i:Nat) (x:Blk),H[i]? = some x → x.live = true → H'[i]? = some x) :
  HeapRel B w0 H' μ w I:=by
 refine hr.ghost fun id x hx=>?_
 rcases h1 id x hx with rfl | h
 ·exact .inl rfl
 ·cases x with
  | free=>exact .inl rfl
  | row e ex vr l=>exact .inr ⟨_,h,rfl,(hr.blk id _ h).agree (fun l' hq=>by cases hq),fun e' vr' l' hq=>⟨vr',hq⟩⟩
  | cells l =>
   refine .inr ⟨_,h,rfl,(hr.blk id _ h).agree (fun l' hq=>?_),fun e' vr' l' hq=>by cases hq⟩
   cases hq
   obtain ⟨b,c,e,k1,k2,k3⟩:=hr.blk id _ h
   intro i hi
   obtain ⟨s,hs,hi⟩:=List.mem_flatMap.1 hi
   obtain ⟨y,hy⟩:=k3.mem s hs
   obtain ⟨z,hz,hl⟩:=hy.live i hi
   rw [hz,h2 i z hz hl]
theorem each_same (h2:∀ (i:Nat) (x:Blk),H[i]? = some x → x.live = true → H'[i]? = some x) {l:List AV} {vs:List Value} (h:Each (RepAV H μ w I) l vs):Each (RepAV H' μ w I) l vs :=
 h.mono fun _ _ _ hr=>hr.agree fun i hi=>by
  obtain ⟨z,hz,hl⟩:=hr.live i hi
  rw [hz,h2 i z hz hl]
variable {F:Fix} {s:St} {a:Act}
theorem Rel.same (h:Rel F s a w) {H':List Blk} (h1:∀ (i:Nat) (x:Blk),H'[i]? = some x → x = .free ∨ s.heap[i]? = some x) (h2:∀ (i:Nat) (x:Blk),s.heap[i]? = some x → x.live = true → H'[i]? = some x) (hlen:F.H0.length ≤ H'.length) :
  Rel F { s with heap:=H' } a w:=by
 obtain ⟨⟨μ,I,hr,ht,hx⟩,hd,hb,hl0⟩:=h
 exact ⟨⟨μ,I,hr.live_same h1 h2,each_same h2 ht,hx.sub fun i x _ hi hl=>h2 i x hi hl⟩,hd,hb,hlen⟩
theorem trimR_get:∀ (l:List Blk),∃ p,l = p ++ trimR l ∧ ∀ x ∈ p,x = .free
 | []=>⟨[],rfl,by simp⟩
 | .free :: r=>by
  obtain ⟨p,h1,h2⟩:=trimR_get r
  exact ⟨.free :: p,by simp only [trimR,List.cons_append]; rw [← h1],by simpa using h2⟩
 | .cells l :: r=>⟨[],rfl,by simp⟩
 | .row e x v l :: r=>⟨[],rfl,by simp⟩
theorem trim_get (l:List Blk):∃ p,l = trim l ++ p ∧ ∀ x ∈ p,x = .free:=by
 obtain ⟨p,h1,h2⟩:=trimR_get l.reverse
 refine ⟨p.reverse,?_,by simpa using h2⟩
 unfold trim
 rw [← List.reverse_append,← h1,List.reverse_reverse]
theorem trimAt_get (hb:Nat) (l:List Blk):(∃ p,l = trimAt hb l ++ p ∧ ∀ x ∈ p,x = .free) ∧ min hb l.length ≤ (trimAt hb l).length:=by
 obtain ⟨p,h1,h2⟩:=trim_get (l.drop hb)
 refine ⟨⟨p,?_,h2⟩,?_⟩
 ·unfold trimAt
  rw [List.append_assoc,← h1,List.take_append_drop]
 ·unfold trimAt
  simp
theorem Rel.trim (h:Rel F s a w):Rel F s.trim a w:=by
 obtain ⟨⟨p,h1,h2⟩,h3⟩:=trimAt_get s.hb s.heap
 refine h.same (fun i x hx=>.inr ?_) (fun i x hx hl=>?_) (Nat.le_trans (by rw [h.hb]; exact Nat.le_min.2 ⟨Nat.le_refl _,h.len⟩) h3)
 ·rw [h1,List.getElem?_append_left (List.getElem?_eq_some_iff.1 hx).1]; exact hx
 ·rw [h1] at hx
  rcases Nat.lt_or_ge i (trimAt s.hb s.heap).length with hlt | hge
  ·rwa [List.getElem?_append_left hlt] at hx
  ·rw [List.getElem?_append_right hge] at hx
   rw [h2 x (List.mem_of_getElem? hx)] at hl
   cases hl
theorem Rel.grow (h:Rel F s a w) (n:Nat):Rel F { s with heap:=s.heap ++ List.replicate n .free } a w:=by
 refine h.same (fun i x hx=>?_) (fun i x hx hl=>?_) (Nat.le_trans h.len (by simp))
 ·rcases Nat.lt_or_ge i s.heap.length with hlt | hge
  ·rw [List.getElem?_append_left hlt] at hx; exact .inr hx
  ·rw [List.getElem?_append_right hge] at hx
   exact .inl (List.eq_of_mem_replicate (List.mem_of_getElem? hx))
 ·rw [List.getElem?_append_left (List.getElem?_eq_some_iff.1 hx).1]; exact hx
theorem Rel.mask (h:Rel F s a w) (keep:List Nat):Rel F { s with tmps:=B68 keep 0 s.tmps } a w:=by
 obtain ⟨⟨μ,I,hr,ht,hx⟩,hd,hb,hl0⟩:=h
 refine ⟨⟨μ,I,hr,?_,hx⟩,hd,hb,hl0⟩
 have:∀ (l:List AV) (vs:List Value) (i:Nat),Each (RepAV s.heap μ w I) l vs → Each (RepAV s.heap μ w I) (B68 keep i l) vs:=by
  intro l
  induction l with
  | nil=>intro vs i h; exact h
  | cons v l ih =>
   intro vs i h
   cases vs with
   | nil=>exact h.elim
   | cons u us =>
    refine ⟨?_,ih us (i + 1) h.2⟩
    split
    ·exact h.1
    ·exact trivial
 exact this _ _ 0 ht
theorem Rel.freeOne (h:Rel F s a w) {id:Nat} (hid:F.H0.length ≤ id):Rel F (Am.freeOne s id) a w:=by
 unfold Am.freeOne
 split
 ·exact h
 ·rename_i hn
  obtain ⟨⟨μ,I,hr,ht,hx⟩,hd,hb,hl0⟩:=h
  simp only [idsAll,List.contains_iff_mem,List.mem_append,not_or,Bool.not_eq_true,List.mem_flatMap,not_exists,not_and] at hn
  obtain ⟨n1,n2⟩:=hn
  have hne:∀ {j:Nat},j ≠ id → s.heap[j]? = (s.heap.set id .free)[j]?:=fun hj=>(a66 hj _).symm
  refine ⟨⟨μ,I,?_,?_,?_⟩,hd,hb,by simpa using hl0⟩
  ·refine hr.ghost fun j x hj=>?_
   by_cases hji:j = id
   ·subst hji
    have hlt:j < s.heap.length:=by simpa using (List.getElem?_eq_some_iff.1 hj).1
    rw [a44 hlt] at hj; cases hj; exact .inl rfl
   ·rw [a66 hji] at hj
    cases x with
    | free=>exact .inl rfl
    | row e ex vr l=>exact .inr ⟨_,hj,rfl,(hr.blk j _ hj).agree (fun l' hq=>by cases hq),fun e' vr' l' hq=>⟨vr',hq⟩⟩
    | cells l =>
     refine .inr ⟨_,hj,rfl,(hr.blk j _ hj).agree (fun l' hq=>?_),fun e' vr' l' hq=>by cases hq⟩
     cases hq
     intro i hi
     refine hne fun hii=>?_
     subst hii
     have:=n2 (.cells l) (List.mem_of_getElem? hj)
     simp only at this
     obtain ⟨sc,hs,hi⟩:=List.mem_flatMap.1 hi
     exact absurd (List.mem_flatMap.2 ⟨sc,hs,hi⟩) this
  ·refine ht.mono fun v u hv hrep=>hrep.agree fun i hi=>hne fun hii=>?_
   subst hii
   exact n1 v hv hi
  ·exact hx.sub fun i x hi hix _=>by rw [← hne (by omega)]; exact hix
theorem B23:∀ (n:Nat) {s:St},Rel F s a w → Rel F (B72 s.hb n s) a w
 | 0,_,h=>h
 | n + 1,s,h=>by
  simp only [B72]
  split
  ·rename_i hle
   have h1:=h.freeOne (id:=n) (by rw [← h.hb]; exact hle)
   have h2:=B23 n h1
   have hb:(Am.freeOne s n).hb = s.hb:=by unfold Am.freeOne; split <;> rfl
   rw [hb] at h2
   exact h2
  ·exact B23 n h
theorem Rel.gc (h:Rel F s a w):Rel F (Am.gc s) a w:=B23 _ h
end
section
variable {B:Nat} {w0:Base} {H H':List Blk} {μ:Mu} {w:World} {I:Cells}
def ren1 (H:List Blk) (hb:Nat) (i:Nat):Blk → Blk
 | .cells l=>.cells (l.map (renSc H hb))
 | .row e x v l=>.row e x (if hb ≤ i then 0 else v) l
 | .free=>.free
theorem C89 (H:List Blk) (hb:Nat):∀ (L:List Blk) (i j:Nat),(renBlk H hb i L)[j]? = (L[j]?).map (ren1 H hb (i + j))
 | [],i,j=>by simp [renBlk]
 | x :: r,i,0=>by cases x <;> simp [renBlk,ren1]
 | x :: r,i,j + 1=>by
  have:i + (j + 1) = i + 1 + j:=by omega
  cases x <;> simp only [renBlk,List.getElem?_cons_succ,C89 H hb r (i + 1) j,this]
theorem C13 {hb:Nat} (hH:∀ j,H'[j]? = (H[j]?).map (ren1 H hb j)):∀ {s:Sc} {v:Value},RepSc H μ w I s v → RepSc H' μ w I (renSc H hb s) v:=by
 have ptr:∀ {p:Nat × Nat} {v:Value},RepPtr H μ p v → RepPtr H' μ p v:=by
  intro p v ⟨⟨l,hl⟩,h2⟩
  exact ⟨⟨_,by rw [hH,hl]; rfl⟩,h2⟩
 intro s v h
 cases s with
 | own id ver =>
  obtain ⟨⟨e,x,vr,l,h1,h2,h3⟩,h4⟩:=h
  simp only [renSc]
  split
  ·rename_i hle
   rw [h1]
   simp only
   split
   ·rename_i hv
    exact ⟨⟨e,x,0,l,by rw [hH,h1]; simp [ren1,hle],Nat.le_refl _,fun _=>h3 hv.symm⟩,h4⟩
   ·exact trivial
  ·rename_i hle
   exact ⟨⟨e,x,vr,l,by rw [hH,h1]; simp [ren1,hle],h2,h3⟩,h4⟩
 | eptr id ver i off =>
  obtain ⟨⟨e,x,vr,l,h1,h2,h3⟩,h4⟩:=h
  simp only [renSc]
  split
  ·rename_i hle
   rw [h1]
   simp only
   split
   ·rename_i hv
    exact ⟨⟨e,x,0,l,by rw [hH,h1]; simp [ren1,hle],Nat.le_refl _,fun _=>h3 hv.symm⟩,h4⟩
   ·exact trivial
  ·rename_i hle
   exact ⟨⟨e,x,vr,l,by rw [hH,h1]; simp [ren1,hle],h2,h3⟩,h4⟩
 | ptr id off=>exact ptr (p:=(id,off)) h
 | clo f a c =>
  obtain ⟨va,vb,h1,h2,h3⟩:=h
  exact ⟨va,vb,h1,h2.mono fun p _ _ hp=>ptr hp,h3.mono fun p _ _ hp=>ptr hp⟩
 | lf t x=>exact h
 | nilS=>exact h
 | capd e l=>exact h
 | rptr ls=>exact h
 | nilI=>exact h
 | junk=>exact trivial
theorem renA1_rep {hb:Nat} (hH:∀ j,H'[j]? = (H[j]?).map (ren1 H hb j)):∀ {a:A1} {v:Value},RepA1 H μ w I a v → RepA1 H' μ w I (renA1 H hb a) v
 | .sc _,_,h=>C13 hH h
 | .agg l,v,⟨cs,h1,h2⟩=>⟨cs,h1,Each.map _ (h2.mono fun _ _ _ hr=>C13 hH hr)⟩
theorem renAV_rep {hb:Nat} (hH:∀ j,H'[j]? = (H[j]?).map (ren1 H hb j)):∀ {a:AV} {v:Value},RepAV H μ w I a v → RepAV H' μ w I (renAV H hb a) v
 | .one _,_,h=>renA1_rep hH h
 | .tup l,v,⟨cs,h1,h2⟩=>⟨cs,h1,Each.map _ (h2.mono fun _ _ _ hr=>renA1_rep hH hr)⟩
variable {F:Fix} {s:St} {a:Act}
theorem Rel.renum (h:Rel F s a w):Rel F (Am.renum s) a w:=by
 obtain ⟨⟨μ,I,hr,ht,hx⟩,hd,hb,hl0⟩:=h
 have hH:∀ j,(renBlk s.heap s.hb 0 s.heap)[j]? = (s.heap[j]?).map (ren1 s.heap s.hb j):=fun j=>by rw [C89,Nat.zero_add]
 refine ⟨⟨μ,I,?_,Each.map _ (ht.mono fun _ _ _ hrep=>renAV_rep hH hrep),?_⟩,hd,hb,?_⟩
 ·refine hr.ghost fun id x hxid=>?_
  show x = .free ∨ _
  have hxid':(s.heap[id]?).map (ren1 s.heap s.hb id) = some x:=by rw [← hH]; exact hxid
  cases hq:s.heap[id]? with
  | none=>rw [hq] at hxid'; cases hxid'
  | some y =>
   rw [hq] at hxid'
   cases hxid'
   cases y with
   | free=>exact .inl rfl
   | row e ex vr l =>
    refine .inr ⟨_,rfl,rfl,?_,fun e' vr' l' hq'=>by cases hq'; exact ⟨_,rfl⟩⟩
    exact hr.blk id _ hq
   | cells l =>
    refine .inr ⟨_,rfl,rfl,?_,fun e' vr' l' hq'=>by cases hq'⟩
    obtain ⟨b,c,e,k1,k2,k3⟩:=hr.blk id _ hq
    exact ⟨b,c,e,by simpa using k1,k2,Each.map _ (k3.mono fun _ _ _ hrep=>C13 hH hrep)⟩
 ·refine ⟨hx.keeps,fun id hid l hl=>?_,fun id hid e x vr l hl=>?_⟩
  ·obtain ⟨⟨l',h1⟩,h2⟩:=hx.cells id hid l hl
   refine ⟨⟨l'.map (renSc s.heap s.hb),?_⟩,h2⟩
   show (renBlk s.heap s.hb 0 s.heap)[id]? = _
   rw [hH,h1]; rfl
  ·obtain ⟨x',vr',l',h1,h2⟩:=hx.rows id hid e x vr l hl
   refine ⟨x',vr',l',?_,h2⟩
   show (renBlk s.heap s.hb 0 s.heap)[id]? = _
   rw [hH,h1]
   have:¬ s.hb ≤ id:=by rw [hb]; omega
   simp [ren1,this]
 ·have hlen:∀ (L:List Blk) (i:Nat),(renBlk s.heap s.hb i L).length = L.length:=by
   intro L
   induction L with
   | nil=>intro i; rfl
   | cons x r ih=>intro i; cases x <;> simp [renBlk,ih]
  show F.H0.length ≤ (renBlk s.heap s.hb 0 s.heap).length
  rw [hlen]; exact hl0
theorem HeapRel.new_none (hr:HeapRel B w0 H μ w I) (e:Ty) (x:Bool) :
  HeapRel B w0 (H ++ [.row e x 0 []]) (muSet μ H.length none) w I ∧ Ext H.length H μ w I (H ++ [.row e x 0 []]) (muSet μ H.length none) w I:=by
 have h1:HeapRel B w0 (H ++ [.free]) μ w I:=by
  refine hr.live_same (fun i x hx=>?_) fun i x hx hl=>?_
  ·rcases Nat.lt_or_ge i H.length with hlt | hge
   ·rw [List.getElem?_append_left hlt] at hx; exact .inr hx
   ·rw [List.getElem?_append_right hge] at hx
    have:=List.mem_of_getElem? hx
    simp at this
    exact .inl this
  ·rw [List.getElem?_append_left (List.getElem?_eq_some_iff.1 hx).1]; exact hx
 obtain ⟨h2,h3⟩:=h1.lay_none (id:=H.length) (by simp) e x 0
 have hset:(H ++ [Blk.free]).set H.length (.row e x 0 []) = H ++ [.row e x 0 []]:=by simp
 rw [hset] at h2 h3
 refine ⟨h2,?_⟩
 have h4:Ext H.length H μ w I (H ++ [.free]) μ w I:=(Ext.refl H.length H μ w I).sub fun i x _ hx _=>by
  rw [List.getElem?_append_left (List.getElem?_eq_some_iff.1 hx).1]; exact hx
 exact h4.trans (h3.mono (by simp))
theorem own_none {e:Ty} {x:Bool}:RepSc (H ++ [.row e x 0 []]) (muSet μ H.length none) w I (.own H.length 0) (.slice none 0 0) :=
 ⟨⟨e,x,0,[],by simp,Nat.le_refl _,fun _=>by rw [Z4]; exact ⟨rfl,_,rfl⟩⟩,_,_,_,rfl⟩
theorem w41 {α:Type} {l:List α} {vs:List Value} {R:α → Value → Prop} {t:Nat} {x y:α} (h:Each R l vs) (hx:l[t]? = some x) (hy:∀ v,R x v → R y v):Each R (l.set t y) vs:=by
 obtain ⟨v,hv,hr⟩:=h.get t x hx
 have:=h.set t y v (hy v hr)
 have hvs:vs.set t v = vs:=by
  apply List.ext_getElem?
  intro i
  by_cases hi:t = i
  ·subst hi
   rw [List.getElem?_set_self (List.getElem?_eq_some_iff.1 hv).1,hv]
  ·rw [List.getElem?_set_ne hi]
 rwa [hvs] at this
theorem Rel.adopt1 (h:Rel F s a w) (p:Nat × Option Nat × Ty):Rel F (Am.adopt1 s p) a w:=by
 have hrel:=h
 obtain ⟨⟨μ,I,hr,ht,hx⟩,hd,hb,hl⟩:=h
 obtain ⟨t,o,e⟩:=p
 obtain ⟨n1,n2⟩:=hr.new_none e true
 have ht':=w23 n2 (Nat.le_refl _) ht
 cases o with
 | none =>
  unfold Am.adopt1
  simp only
  split
  ·rename_i hq
   refine ⟨⟨_,I,n1,?_,hx.trans (n2.mono hl)⟩,hd,hb,by simp; omega⟩
   refine w41 ht' hq fun v hv=>?_
   have:v = .slice none 0 0:=hv
   subst this
   exact own_none (w:=w) (I:=I)
  ·exact hrel
 | some off =>
  unfold Am.adopt1
  simp only
  split
  ·rename_i l hq
   split
   ·rename_i hqo
    have hlt:t < s.heap.length:=(List.getElem?_eq_some_iff.1 hq).1
    have hset:s.heap.set t (.cells (l.set off (.own s.heap.length 0))) ++ [Blk.row e true 0 []] = (s.heap ++ [Blk.row e true 0 []]).set t (.cells (l.set off (.own s.heap.length 0))):=by
     rw [List.set_append_left _ _ hlt]
    have hqn:(s.heap ++ [Blk.row e true 0 []])[t]? = some (.cells l):=by rw [List.getElem?_append_left hlt]; exact hq
    have hlt2:t < (s.heap ++ [Blk.row e true 0 []]).length:=by simp; omega
    have hg:Ext (s.heap ++ [Blk.row e true 0 []]).length (s.heap ++ [Blk.row e true 0 []]) (muSet μ s.heap.length none) w I
      ((s.heap ++ [Blk.row e true 0 []]).set t (.cells (l.set off (.own s.heap.length 0)))) (muSet μ s.heap.length none) w I :=
     Ext.set hqn (Keeps.refl w I) (fun _ _=>rfl) ⟨⟨_,rfl⟩,rfl⟩
    have hown:RepSc ((s.heap ++ [Blk.row e true 0 []]).set t (.cells (l.set off (.own s.heap.length 0)))) (muSet μ s.heap.length none) w I (.own s.heap.length 0) (.slice none 0 0) :=
     (own_none (H:=s.heap) (e:=e)).ext hg (fun i hi=>by simp [Sc.ids] at hi; subst hi; simp)
    refine ⟨⟨muSet μ s.heap.length none,I,?_,?_,?_⟩,hd,hb,by simp; omega⟩
    ·show HeapRel F.B F.w0 (s.heap.set t (.cells (l.set off (.own s.heap.length 0))) ++ [Blk.row e true 0 []]) _ w I
     rw [hset]
     refine n1.ghost fun id x hxid=>?_
     by_cases hid:id = t
     ·subst hid
      rw [a44 hlt2] at hxid; cases hxid
      refine .inr ⟨_,hqn,rfl,?_,fun e' vr' l' hq'=>by cases hq'⟩
      obtain ⟨b,c,el,k1,k2,k3⟩:=n1.blk id _ hqn
      refine ⟨b,c,el,by simpa using k1,k2,w41 (k3.mono fun _ _ _ hrep=>hrep.ext hg hrep.lt) hqo fun v hv=>?_⟩
      have:v = .slice none 0 0:=hv
      subst this
      exact hown
     ·rw [a66 hid] at hxid
      cases x with
      | free=>exact .inl rfl
      | row e' ex vr l'=>exact .inr ⟨_,hxid,rfl,n1.blk id _ hxid,fun e'' vr' l'' hq'=>⟨vr',hq'⟩⟩
      | cells l' =>
       refine .inr ⟨_,hxid,rfl,?_,fun e'' vr' l'' hq'=>by cases hq'⟩
       obtain ⟨b,c,el,k1,k2,k3⟩:=n1.blk id _ hxid
       exact ⟨b,c,el,k1,k2,k3.mono fun _ _ _ hrep=>hrep.ext hg hrep.lt⟩
    ·show Each (RepAV (s.heap.set t (.cells (l.set off (.own s.heap.length 0))) ++ [Blk.row e true 0 []]) _ w I) s.tmps a.tmps.toList
     rw [hset]
     exact w23 hg (Nat.le_refl _) ht'
    ·show Ext _ _ _ _ _ (s.heap.set t (.cells (l.set off (.own s.heap.length 0))) ++ [Blk.row e true 0 []]) _ w I
     rw [hset]
     exact (hx.trans (n2.mono hl)).trans (hg.mono (by simp; omega))
   ·exact hrel
  ·exact hrel
theorem Rel.plain1 (h:Rel F s a w) (id off:Nat) (e:Ty):Rel F (Am.plain1 s id off e) a w:=by
 have hrel:=h
 obtain ⟨⟨μ,I,hr,ht,hx⟩,hd,hb,hl⟩:=h
 unfold Am.plain1
 split
 ·rename_i l hq
  split
  ·rename_i hqo
   have hlt:id < s.heap.length:=(List.getElem?_eq_some_iff.1 hq).1
   have hg:Ext s.heap.length s.heap μ w I (s.heap.set id (.cells (l.set off (.lf (.slice e) [])))) μ w I :=
    Ext.set hq (Keeps.refl w I) (fun _ _=>rfl) ⟨⟨_,rfl⟩,rfl⟩
   refine ⟨⟨μ,I,?_,w23 hg (Nat.le_refl _) ht,hx.trans (hg.mono hl)⟩,hd,hb,by simp; omega⟩
   refine hr.ghost fun j x hj=>?_
   by_cases hji:j = id
   ·subst hji
    rw [a44 hlt] at hj; cases hj
    refine .inr ⟨_,hq,rfl,?_,fun e' vr' l' hq'=>by cases hq'⟩
    obtain ⟨b,c,el,k1,k2,k3⟩:=hr.blk j _ hq
    refine ⟨b,c,el,by simpa using k1,k2,w41 (k3.mono fun _ _ _ hrep=>hrep.ext hg hrep.lt) hqo fun v hv=>?_⟩
    have:v = .slice none 0 0:=hv
    subst this
    exact ⟨rfl,none,0,rfl,Nat.le_refl _,.inl rfl⟩
   ·rw [a66 hji] at hj
    cases x with
    | free=>exact .inl rfl
    | row e' ex vr l'=>exact .inr ⟨_,hj,rfl,hr.blk j _ hj,fun e'' vr' l'' hq'=>⟨vr',hq'⟩⟩
    | cells l' =>
     refine .inr ⟨_,hj,rfl,?_,fun e'' vr' l'' hq'=>by cases hq'⟩
     obtain ⟨b,c,el,k1,k2,k3⟩:=hr.blk j _ hj
     exact ⟨b,c,el,k1,k2,k3.mono fun _ _ _ hrep=>hrep.ext hg hrep.lt⟩
  ·exact hrel
 ·exact hrel
theorem Rel.adoptS (h:Rel F s a w) (t:Nat) (e:Ty):Rel F (Am.adoptS s t e) a w:=by
 have hrel:=h
 obtain ⟨⟨μ,I,hr,ht,hx⟩,hd,hb,hl⟩:=h
 obtain ⟨n1,n2⟩:=hr.new_none e false
 have ht':=w23 n2 (Nat.le_refl _) ht
 unfold Am.adoptS
 split
 ·rename_i hq
  refine ⟨⟨_,I,n1,?_,hx.trans (n2.mono hl)⟩,hd,hb,by simp; omega⟩
  refine w41 ht' hq fun v hv=>?_
  have:v = .slice none 0 0:=hv
  subst this
  exact own_none (w:=w) (I:=I)
 ·exact hrel
theorem Rel.adopt2 (h:Rel F s a w) (p:Nat × Option Nat × Ty):Rel F (Am.adopt2 s p) a w:=by
 unfold Am.adopt2
 split
 ·exact h.plain1 _ _ _
 ·exact h.adoptS _ _
 ·exact h.adopt1 _
theorem Rel.adopts:∀ (l:List (Nat × Option Nat × Ty)) {s:St},Rel F s a w → Rel F (l.foldl Am.adopt2 s) a w
 | [],_,h=>h
 | p :: r,_,h=>Rel.adopts r (h.adopt2 p)
theorem B37 {H:List Blk} {id:Nat} {l:List Sc} (h:H[id]? = some (.cells l)):∀ (ids:List Nat) {H':List Blk},H'[id]? = some (.cells l) → (E3 H' (shown H ids))[id]? = some (.cells l)
 | [],_,h'=>h'
 | i :: r,H',h'=>by
  simp only [shown]
  split
  ·rename_i e x vr l' hi
   simp only [E3]
   refine B37 h r ?_
   have:id ≠ i:=by rintro rfl; rw [h] at hi; cases hi
   rw [a66 this]; exact h'
  ·exact B37 h r h'
theorem Rel.pack1 (h:Rel F s a w) (p:Nat × Ty):Rel F (Am.pack1 s p) a w:=by
 unfold Am.pack1
 split
 ·rename_i id hp
  split
  ·rename_i l hid
   split
   ·rename_i x r hx
    obtain ⟨⟨μ,I,hr,ht,hxx⟩,hd,hb,hl⟩:=h
    obtain ⟨I1,r1,x1,s1,con1⟩:=HeapRel.shows (H0:=s.heap) (l.flatMap Sc.rows) hr (Shows.refl s.heap) rfl
    have hid1:(E3 s.heap (shown s.heap (l.flatMap Sc.rows)))[id]? = some (.cells l):=B37 hid _ hid
    have hlt1:id < (E3 s.heap (shown s.heap (l.flatMap Sc.rows))).length:=(List.getElem?_eq_some_iff.1 hid1).1
    obtain ⟨b,c,e,k1,k2,k3⟩:=hr.blk id _ hid
    obtain ⟨c1,c2,e1,q1,q2,_⟩:=B06 (I':=I1) hr x1.keeps p.2 hx k3 (fun sc hs i hi=>con1 i (List.mem_flatMap.2 ⟨sc,hs,hi⟩))
    have hleaves:=w07 p.2 q1
    let L:=(leaves p.2 x).map leafSc ++ r
    have hx2:Ext (E3 s.heap (shown s.heap (l.flatMap Sc.rows))).length (E3 s.heap (shown s.heap (l.flatMap Sc.rows))) μ w I1 ((E3 s.heap (shown s.heap (l.flatMap Sc.rows))).set id (.cells L)) μ w I1 :=
     Ext.set hid1 (Keeps.refl w I1) (fun _ _=>rfl) ⟨⟨_,rfl⟩,rfl⟩
    have hlen:L.length = l.length:=by
     have a1:L.length = c.toList.length:=by
      rw [e1,List.length_append,List.length_append,(w43 (H:=s.heap) (μ:=μ) hleaves).len,q2.len]
     have a2:=k3.len
     rw [a1,a2]
    have hwl:(E3 s.heap (shown s.heap (l.flatMap Sc.rows))).length = s.heap.length:=a55 _ _
    have hall:=x1.trans (hx2.mono (Nat.le_of_eq hwl.symm))
    refine ⟨⟨μ,I1,?_,w23 hall (Nat.le_refl _) ht,hxx.trans (hall.mono hl)⟩,hd,hb,by simp [hwl]; exact hl⟩
    refine r1.ghost fun j y hj=>?_
    by_cases hji:j = id
    ·subst hji
     rw [a44 hlt1] at hj; cases hj
     refine .inr ⟨_,hid1,rfl,?_,fun e' vr' l' hq'=>by cases hq'⟩
     refine ⟨b,c,e,by rw [hlen]; exact k1,k2,?_⟩
     rw [e1]
     exact Each.append (w43 hleaves) (q2.mono fun _ _ _ hq=>hq.ext hall hq.lt)
    ·rw [a66 hji] at hj
     cases y with
     | free=>exact .inl rfl
     | row e' ex vr l'=>exact .inr ⟨_,hj,rfl,r1.blk j _ hj,fun e'' vr' l'' hq'=>⟨vr',hq'⟩⟩
     | cells l' =>
      refine .inr ⟨_,hj,rfl,?_,fun e'' vr' l'' hq'=>by cases hq'⟩
      obtain ⟨b',c',el',g1,g2,g3⟩:=r1.blk j _ hj
      exact ⟨b',c',el',g1,g2,g3.mono fun _ _ _ hrep=>hrep.ext hx2 hrep.lt⟩
   ·exact h
  ·exact h
 ·exact h
theorem Rel.packs:∀ (l:List (Nat × Ty)) {s:St},Rel F s a w → Rel F (l.foldl Am.pack1 s) a w
 | [],_,h=>h
 | p :: r,_,h=>Rel.packs r (h.pack1 p)
theorem Rel.head (h:Rel F s a w) (an:Ann):Rel F (Am.head an s) a w:=by
 unfold Am.head
 have h1:=Rel.adopts an.adopt h
 simp only
 split
 ·exact ((Rel.packs an.pack (h1.mask _).gc).gc.renum).trim
 ·exact h1
theorem Rel.tidy (h:Rel F s a w) (an:Ann):Rel F (Am.tidy an s) a w:=by
 unfold Am.tidy
 split
 ·exact h.head _
 ·exact h
end
def XM:X → Exit → Prop
 | .norm,.normal=>True
 | .ret,.ret=>True
 | .exit i,.exit j=>i = j
 | _,_=>False
def PostK {R:Type} (F:Fix) (k:X → St → Option R) (r:R):Exit → Act → World → Prop :=
 fun e a w=>∃ x s',k x s' = some r ∧ XM x e ∧ Rel F s' a w
def loopsOf:Code → List Code
 | .seq a b=>loopsOf a ++ loopsOf b
 | .cond _ a b=>loopsOf a ++ loopsOf b
 | .block _ c=>loopsOf c
 | .loop c=>c :: loopsOf c
 | _=>[]
def LrSound (P:Program) (WI:World → Cells → Prop) (C:Code → Prop) {R:Type} (lr:Code → St → (X → St → Option R) → Option R):Prop :=
 ∀ (F:Fix) (c:Code) (s:St) (k:X → St → Option R) (r:R),C c → WI F.v0 F.I0 → lr c s k = some r → ∀ a w,Rel F s a w → (Code.loop c).wp P (PostK F k r) a w
section
variable {P:Program} {E:Env} {WI:World → Cells → Prop} {F:Fix} {s:St} {a:Act} {w:World} {μ:Mu} {I:Cells}
def resRun (tmps:Array Value):ResultVar → Sem Value
 | .tmp t=>pure (tmps.getD t undef)
 | .cell a t=>do loadVar t (← asAddr (tmps.getD a undef))
theorem res1_ok (hE:EnvOk P E WI) (hr:HeapRel F.B F.w0 s.heap μ w I) (ht:Each (RepAV s.heap μ w I) s.tmps a.tmps.toList) {rv:ResultVar} {x:A1} (h:res1 E s rv = some x) :
  ∃ v,(resRun a.tmps rv).run P w = .ok v w ∧ RepA1 s.heap μ w I x v:=by
 cases rv with
 | tmp t =>
  simp only [res1] at h
  split at h
  ·rename_i y hy
   cases h
   obtain ⟨u,hu,hrep⟩:=ht.get t _ hy
   rw [Array.getElem?_toList] at hu
   exact ⟨u,by simp [resRun,hu],hrep⟩
  ·cases h
 | cell t ty =>
  simp only [res1] at h
  split at h
  ·rename_i id off hy
   split at h
   ·rename_i hl
    cases h
    obtain ⟨u,hu,hrep⟩:=ht.get t _ hy
    rw [Array.getElem?_toList] at hu
    obtain ⟨_,b,n,hm,rfl⟩:=hrep
    unfold loadA at hl
    split at hl
    ·rename_i ti id' off' hti hq
     cases hq
     split at hl
     ·rename_i l hid
      obtain ⟨b',c,e,h1,h2,h3⟩:=hr.blk id _ hid
      rw [hm] at h1; cases h1
      obtain ⟨v,k1,k2,k3⟩:=B84 (P:=P) hE.types hti (b:=b) (o:=0) (f:=⟨.one x,[]⟩) (by rw [hl]; rfl) h3 (w26 h2)
      rw [Nat.zero_add] at k1
      exact ⟨v,by simp [resRun,hu,asAddr,k1],k3⟩
     ·cases hl
    ·rename_i hq; cases hq
    ·rename_i hq; cases hq
    ·cases hl
   ·cases h
  ·cases h
theorem resAll_ok (hE:EnvOk P E WI) (hr:HeapRel F.B F.w0 s.heap μ w I) (ht:Each (RepAV s.heap μ w I) s.tmps a.tmps.toList):∀ (rs:List ResultVar) {l:List A1},resAll E s rs = some l →
  ∃ vs,(rs.mapM (resRun a.tmps)).run P w = .ok vs w ∧ Each (RepA1 s.heap μ w I) l vs
 | [],l,h=>by cases h; exact ⟨[],rfl,trivial⟩
 | rv :: rs,l,h=>by
  simp only [resAll] at h
  split at h
  ·rename_i x hx
   split at h
   ·rename_i l' hl'
    cases h
    obtain ⟨v,h1,h2⟩:=res1_ok hE hr ht hx
    obtain ⟨vs,k1,k2⟩:=resAll_ok hE hr ht rs hl'
    exact ⟨v :: vs,by simp [List.mapM_cons,h1,k1],h2,k2⟩
   ·cases h
  ·cases h
def handed (vs:List Value):Value :=
 match vs with
 | [v]=>v
 | vs=>.tuple vs.toArray
theorem C77 (hE:EnvOk P E WI) (hr:HeapRel F.B F.w0 s.heap μ w I) (ht:Each (RepAV s.heap μ w I) s.tmps a.tmps.toList) {fn:Func} {l:List A1} (h:resAll E s fn.results.toList = some l) :
  ∃ vs,(results fn a.tmps).run P w = .ok (handed vs) w ∧ Each (RepA1 s.heap μ w I) l vs:=by
 obtain ⟨vs,h1,h2⟩:=resAll_ok (P:=P) hE hr ht _ h
 refine ⟨vs,?_,h2⟩
 have hf:results fn a.tmps = (do let vs ← fn.results.mapM (resRun a.tmps); pure (if h:vs.size = 1 then vs[0] else .tuple vs)):=by
  unfold results
  congr 1
 rw [hf,Array.mapM_eq_mapM_toList]
 simp only [Sem.run_bind,Sem.run_map,h1]
 match vs with
 | []=>rfl
 | [v]=>rfl
 | u :: v :: r=>simp [handed]
theorem handed_rep {l:List A1} {vs:List Value} (h:Each (RepA1 s.heap μ w I) l vs):RepAV s.heap μ w I (avOfRes l) (handed vs):=by
 match l,vs,h with
 | [],[],_=>exact ⟨#[],rfl,trivial⟩
 | [a],[v],h=>exact h.1
 | a :: b :: l,u :: v :: vs,h=>exact ⟨_,rfl,h⟩
 | [],_ :: _,h=>exact h.elim
 | [_],[],h=>exact h.elim
 | [_],_ :: _ :: _,h=>exact h.2.elim
 | _ :: _ :: _,[],h=>exact h.elim
 | _ :: _ :: _,[_],h=>exact h.2.elim
def Frees (H:List Blk):List (Oper × Nat) → Prop
 | []=>True
 | p :: r=>(lays p.1.op = true → H[p.2]? = some .free) ∧ (∀ q ∈ r,lays p.1.op = true → lays q.1.op = true → q.2 ≠ p.2) ∧ Frees H r
theorem Frees.mono {H H':List Blk}:∀ {l:List (Oper × Nat)},Frees H l → (∀ p ∈ l,lays p.1.op = true → H[p.2]? = some .free → H'[p.2]? = some .free) → Frees H' l
 | [],_,_=>trivial
 | p :: r,⟨h1,h2,h3⟩,h=>⟨fun hl=>h p (by simp) hl (h1 hl),h2,h3.mono fun q hq=>h q (by simp [hq])⟩
theorem B48 {H:List Blk}:∀ (l:List Oper) (n:Nat),(∀ j,n ≤ j → j < n + a81 l → H[j]? = some .free) → Frees H (a61 n l)
 | [],_,_=>trivial
 | o :: r,n,h=>by
  refine ⟨fun hl=>h n (Nat.le_refl _) (by simp only [a81]; simp only at hl; rw [if_pos hl]; omega),fun q hq hl _=>?_,?_⟩
  ·obtain ⟨j,hj⟩:=List.getElem?_of_mem hq
   have:=(w37 r _ hj).1
   simp only at hl
   rw [if_pos hl] at this
   simp only
   omega
  ·refine B48 r _ fun j h1 h2=>h j ?_ ?_
   ·split at h1 <;> omega
   ·simp only [a81]
    split at h2 <;> simp_all <;> omega
theorem okW_free {H:List Blk} {nid:Nat} {op:Op} {ws:List (Nat × Blk)} (h:okW H nid op ws = true) {j:Nat} (hj:H[j]? = some .free) (hn:lays op = true → j ≠ nid):(E3 H ws)[j]? = some .free:=by
 rw [w59 ws H,hj]
 intro p hp hpj
 simp only [okW,List.all_eq_true] at h
 have:=h p hp
 by_cases hq:p.1 = nid
 ·simp only [hq,if_true,Bool.and_eq_true] at this
  exact hn this.1 (by rw [← hpj,hq])
 ·simp only [hq,if_false] at this
  rw [hpj,hj] at this
  cases this
theorem frees_step {all:Array Oper} {s:St} {e:Ent} {r:List (Oper × Nat)} (hs:StepOk E all s e) (h:Frees s.heap ((e.o,e.nid) :: r)):Frees (app e s).heap r:=by
 obtain ⟨h1,h2,h3⟩:=h
 rw [w01]
 rcases hs with ⟨_,_,hf⟩ | ⟨_,_,_,hok⟩
 ·rw [hf]; exact h3
 ·exact h3.mono fun p hp hl hfree=>okW_free hok hfree fun hlo hpe=>h2 p hp hlo hl hpe
theorem freesOk_spec {H:List Blk}:∀ {l:List (Oper × Nat)},freesOk H l = true → ∀ p ∈ l,lays p.1.op = true → H[p.2]? = some .free:=by
 intro l h p hp hl
 simp only [freesOk,List.all_eq_true,Bool.or_eq_true,Bool.not_eq_true'] at h
 rcases h p hp with h | h
 ·rw [hl] at h; cases h
 ·split at h
  ·assumption
  ·cases h
theorem Frees.all {H H':List Blk}:∀ {l:List (Oper × Nat)},Frees H l → (∀ p ∈ l,lays p.1.op = true → H'[p.2]? = some .free) → Frees H' l
 | [],_,_=>trivial
 | p :: r,⟨_,h2,h3⟩,h=>⟨fun hl=>h p (by simp) hl,h2,h3.all fun q hq=>h q (by simp [hq])⟩
theorem Rel.drew (h:Rel F s a w):Rel F s a w.drew:=by
 obtain ⟨⟨μ,I,hr,ht,hx⟩,hd,hb,hl⟩:=h
 exact ⟨⟨μ,I,hr.drew,w23 (Ext.drew s.heap.length) (Nat.le_refl _) ht,hx.trans (Ext.drew _)⟩,hd,hb,hl⟩
theorem enter_rep {H:List Blk} {args:List AV} {vals:Array Value} (h:Each (RepAV H μ w I) args vals.toList) (n:Nat) :
  Each (RepAV H μ w I) (enter args n) (vals ++ Array.replicate (n - vals.size) undef).toList:=by
 have hlen:=h.len
 have:(vals ++ Array.replicate (n - vals.size) undef).toList = vals.toList ++ List.replicate (n - args.length) undef:=by
  rw [hlen]; simp
 rw [this]
 unfold enter
 refine h.append ?_
 induction n - args.length with
 | zero=>trivial
 | succ m ih=>exact ⟨undef_rep,ih⟩
variable {R:Type} {lr:Code → St → (X → St → Option R) → Option R}
theorem inlined_spec {ev:Operand → AV} {op:Op} {fn:Func} {args:List AV} (h:inlined E ev op = some (fn,args)) :
  ∃ f as ats K pre post,op = .call ⟨.value f,as,ats⟩ ∧ target (ev f) = some (K,pre,post) ∧ E.inl K = some fn ∧ args = pre ++ as.toList.map ev ++ post:=by
 unfold inlined at h
 split at h
 ·rename_i c
  obtain ⟨callee,as,ats⟩:=c
  split at h
  ·rename_i f hf
   simp only at hf
   subst hf
   split at h
   ·rename_i K a b ht
    split at h
    ·rename_i fn' hfn
     cases h
     refine ⟨f,as,ats,K,a,b,rfl,?_,hfn,rfl⟩
     split at ht
     ·exact ht
     ·split at ht
      ·exact ht
      ·cases ht
    ·cases h
   ·cases h
  ·cases h
 ·cases h
theorem D02 {C:Code → Prop} (hE:EnvOk P E WI) (hC:∀ K fn body,E.inl K = some fn → fn.body = some body → ∀ c' ∈ loopsOf body,C c') (hlr:LrSound P WI C lr):∀ (n:Nat),
  (∀ (F:Fix) (c:Code) (s:St) (k:X → St → Option R) (r:R),(∀ c' ∈ loopsOf c,C c') → WI F.v0 F.I0 → eval E lr n (.code c) s k = some r → ∀ a w,Rel F s a w → c.wp P (PostK F k r) a w) ∧
  (∀ (F:Fix) (all:Array Oper) (l:List (Oper × Nat)) (i:Nat) (log) (s:St) (k:X → St → Option R) (r:R),WI F.v0 F.I0 → l.map (·.1) = all.toList.drop i → Frees s.heap l →
   eval E lr n (.ops all false l log) s k = some r → ∀ a w,Rel F s a w → wpOps P all (PostK F k r) (List.range' i (all.size - i)) a w):=by
 intro n
 induction n with
 | zero=>exact ⟨fun F c s k r _ _ h=>(nomatch h),fun F all l i log s k r _ _ _ h=>(nomatch h)⟩
 | succ n ih =>
  obtain ⟨ihc,iho⟩:=ih
  refine ⟨?_,?_⟩
  ·intro F c s k r hc hw0 h a w hrel
   cases c with
   | skip=>exact wp_skip ⟨.norm,s,h,trivial,hrel⟩
   | ret=>exact wp_ret ⟨.ret,s,h,trivial,hrel⟩
   | exit id=>exact wp_exit ⟨.exit id,s,h,rfl,hrel⟩
   | seq x y =>
    refine wp_seq (wp_mono (ihc F x s _ r (fun c' h'=>hc c' (List.mem_append_left _ h')) hw0 h a w hrel) ?_)
    rintro e a' w' ⟨z,s',hk,hm,hrel'⟩
    cases z with
    | norm=>cases e <;> first | exact ihc F y s' k r (fun c' h'=>hc c' (List.mem_append_right _ h')) hw0 hk a' w' hrel' | exact hm.elim
    | ret=>cases e <;> first | exact ⟨.ret,s',hk,trivial,hrel'⟩ | exact hm.elim
    | exit i=>cases e <;> first | (cases hm; exact ⟨.exit _,s',hk,rfl,hrel'⟩) | exact hm.elim
   | cond c x y =>
    have h':(match s.ev c with
     | .one (.sc (.lf .bool t))=>bif t then eval E lr n (.code x) (s.learn c true) k else eval E lr n (.code y) (s.learn c false) k
     | _=>none) = some r:=h
    split at h'
    ·rename_i t ht
     obtain ⟨μ,I,hr,htm,hx⟩:=hrel.rep
     have hcv:=w67 (ht ▸ ev_rep htm c)
     refine wp_cond hcv ?_
     cases t with
     | true=>rw [B69 ht rfl] at h'; exact ihc F x s k r (fun c' h'=>hc c' (List.mem_append_left _ h')) hw0 h' a w hrel
     | false=>rw [B69 ht rfl] at h'; exact ihc F y s k r (fun c' h'=>hc c' (List.mem_append_right _ h')) hw0 h' a w hrel
    ·cases h'
   | block id c =>
    refine wp_block (wp_mono (ihc F c s _ r hc hw0 h a w hrel) ?_)
    rintro e a' w' ⟨z,s',hk,hm,hrel'⟩
    cases z with
    | norm=>cases e <;> first | exact ⟨.norm,s',hk,trivial,hrel'⟩ | exact hm.elim
    | ret=>cases e <;> first | exact ⟨.ret,s',hk,trivial,hrel'⟩ | exact hm.elim
    | exit i =>
     cases e with
     | exit j =>
      cases hm
      simp only [Exit.inBlock]
      simp only at hk
      split
      ·rename_i hij; rw [if_pos hij] at hk; exact ⟨.norm,s',hk,trivial,hrel'⟩
      ·rename_i hij; rw [if_neg hij] at hk; exact ⟨.exit _,s',hk,rfl,hrel'⟩
     | _=>exact hm.elim
   | loop c=>exact hlr F c _ k r (hc c (List.mem_cons_self)) hw0 h a w (hrel.head _)
   | region id ops draw =>
    have hfree:∀ j,s.heap.length ≤ j → j < s.heap.length + a81 ops.toList → (s.heap ++ List.replicate (a81 ops.toList) .free)[j]? = some .free:=by
     intro j h1 h2
     rw [List.getElem?_append_right h1,List.getElem?_replicate,if_pos (by omega)]
    have hnum:∀ (l:List Oper) (n:Nat),(a61 n l).map (·.1) = l:=by
     intro l
     induction l with
     | nil=>intro n; rfl
     | cons o r ih=>intro n; simp [a61,ih]
    cases draw with
    | false =>
     refine wp_region ?_
     rw [List.range_eq_range']
     exact iho F ops (a61 s.heap.length ops.toList) 0 [] _ k r hw0 (by rw [hnum]; rfl) (B48 _ _ hfree) h a w (hrel.grow _)
    | true =>
     refine wp_region_any hE.mixed ?_
     have h0:eval E lr n (.ops ops true (a61 s.heap.length ops.toList) (logR ops ([]:List Ent).reverse)) (stAt allIn [] { s with heap:=s.heap ++ List.replicate (a81 ops.toList) .free } ([]:List Ent).length) k = some r:=h
     obtain ⟨tr,h1,h2,h3,h4,h5⟩:=ops_trace _ n [] h0 (fun j e hj=>by simp at hj)
     have hreg:Region0 E ops tr { s with heap:=s.heap ++ List.replicate (a81 ops.toList) .free } s.heap.length:=⟨by simpa using h1,h2,hfree⟩
     refine draw_wp hE hw0 hreg (Indep.of h3) h4 (fun a' w' hrel'=>⟨.norm,_,h5,trivial,hrel'.trim⟩) ops.size _ a w.drew (by simp) ?_ ?_ ?_
     ·simpa using List.countP_le_length (p:=(· == false)) (l:=(Array.replicate ops.size false).toList)
     ·intro j o hj hS
      simp only [inB] at hS
      have hlt:=(Array.getElem?_eq_some_iff.1 hj).1
      simp [hlt] at hS
     ·have:stAt (inB (Array.replicate ops.size false)) tr { s with heap:=s.heap ++ List.replicate (a81 ops.toList) .free } tr.length = { s with heap:=s.heap ++ List.replicate (a81 ops.toList) .free }:=by
       refine St.ext' (fun l=>w36 (i:=0) tr.length (Nat.zero_le _) fun j _ hj _=>?_) (by rw [w72])
       have hj':j < ops.size:=by rw [← hreg.len]; exact hj
       simp [inB,hj']
      rw [this]
      exact (hrel.grow _).drew
   | _=>cases h
  ·intro F all l i log s k r hw0 hl hfr h a w hrel
   cases l with
   | nil =>
    have hlen:all.size ≤ i:=by
     have:=congrArg List.length hl
     simp at this
     omega
    rw [show all.size - i = 0 by omega]
    exact ⟨.norm,_,h,trivial,hrel.trim⟩
   | cons p rest =>
    obtain ⟨o,nid⟩:=p
    have hoi:all[i]? = some o:=by
     have:=congrArg (fun l=>l[0]?) hl
     simp only [List.map_cons,List.getElem?_cons_zero,List.getElem?_drop,Nat.add_zero] at this
     rw [← Array.getElem?_toList]; exact this.symm
    have hlt:i < all.size:=(Array.getElem?_eq_some_iff.1 hoi).1
    have hrest:rest.map (·.1) = all.toList.drop (i + 1):=by
     have:=congrArg List.tail hl
     simpa using this
    have hrange:List.range' i (all.size - i) = i :: List.range' (i + 1) (all.size - (i + 1)):=by
     rw [show all.size - i = (all.size - (i + 1)) + 1 by omega,List.range'_succ]
    rw [hrange,wpOps_cons]
    rcases ops_inv h with ⟨e,rfl,rfl,hs,h2⟩ | ⟨_,hg,fn,args,body,hin,hb,h2⟩
    ·exact step_wp hE hw0 hrel hs hfr.1 hoi fun a' w' hrel'=>iho F all rest (i + 1) _ _ k r hw0 hrest (frees_step hs hfr) h2 a' w' hrel'
    ·obtain ⟨f,as,ats,K,pre,post,hop,htar,hinl,rfl⟩:=inlined_spec hin
     unfold wpOp
     rw [hoi]
     simp only
     rw [B12 hrel hg]
     simp only [if_true]
     refine .inl ?_
     obtain ⟨⟨μ,I,hr,ht,hx⟩,hd,hhb,hlen⟩:=hrel
     obtain ⟨va,vb,hρ,hpre,hpost⟩:=C83 htar (ev_rep ht f)
     have hall:=(hpre.append (B22 (ev_rep ht) as.toList)).append hpost
     have hvals:pre ++ as.toList.map s.ev ++ post = pre ++ as.toList.map s.ev ++ post:=rfl
     unfold Oper.wp
     have hrun:(execOp a.eval o).run P w = .ok (.enter K (va ++ as.map a.eval ++ vb)) w:=by
      obtain ⟨dst,op,ty,pos,after,guard⟩:=o
      simp only at hop
      subst hop
      show (do let d ← resolve a.eval { callee:=.value f,args:=as,argTypes:=ats } ty; invoke d.target d.args).run P w = _
      rw [w95 hρ]
      exact (hE.enters K (.inr (.inl (by rw [hinl]; rfl)))).run _ w
     rw [hrun]
     simp only [Oper.upon]
     have hvl:(va ++ as.map a.eval ++ vb).toList = va.toList ++ as.toList.map a.eval ++ vb.toList:=by simp
     let F':Fix:=⟨F.B,F.w0,s.heap,μ,w,I⟩
     have hrel':Rel F' ⟨enter (pre ++ as.toList.map s.ev ++ post) fn.ntmps,s.heap,s.heap.length⟩ { tmps:=(va ++ as.map a.eval ++ vb) ++ Array.replicate (fn.ntmps - (va ++ as.map a.eval ++ vb).size) undef,defers:=[] } w :=
      ⟨⟨μ,I,hr,enter_rep (by rw [hvl]; exact hall) _,Ext.refl _ _ _ _ _⟩,rfl,rfl,Nat.le_refl _⟩
     refine calls_of_wp (hE.inls K fn hinl) hb (wp_mono (ihc F' body _ _ r (hC K fn body hinl hb) (hE.wi _ _ _ _ hx.keeps hw0) h2 _ w hrel') ?_)
     rintro e a' w' ⟨x,s',hk,hm,hrel2⟩
     have fin:(match resAll E s' fn.results.toList with
        | some l=>(fun s2=>if freesOk s2.heap rest then eval E lr n (.ops all false rest []) s2 k else none) (gc (({ tmps:=s.tmps,heap:=s'.heap,hb:=s.hb }:St).put o.dst (avOfRes l)))
        | none=>none) = some r →
       a'.defers = [] ∧ ∃ v,(results fn a'.tmps).run P w' = .ok v w' ∧ wpOps P all (PostK F k r) (List.range' (i + 1) (all.size - (i + 1))) (a.put o.dst v) w':=by
      intro hk
      obtain ⟨⟨μ',I',hr',ht',hx'⟩,hd',_,hlen'⟩:=hrel2
      refine ⟨hd',?_⟩
      split at hk
      ·rename_i l hres
       simp only at hk
       split at hk
       ·rename_i hfo
        obtain ⟨vs,k1,k2⟩:=C77 hE hr' ht' hres
        refine ⟨_,k1,?_⟩
        refine iho F all rest (i + 1) [] _ k r hw0 hrest (hfr.2.2.all (freesOk_spec hfo)) hk (a.put o.dst (handed vs)) w' (Rel.gc ?_)
        have ht2:=w23 hx' (Nat.le_refl _) ht
        refine ⟨⟨μ',I',?_,?_,?_⟩,?_,?_,?_⟩
        ·unfold St.put; split <;> exact hr'
        ·unfold St.put Act.put
         cases o.dst with
         | none=>exact ht2
         | some d=>simpa using ht2.set d _ _ (handed_rep k2)
        ·have:=hx.trans (hx'.mono hlen)
         unfold St.put; split <;> exact this
        ·unfold Act.put; split <;> exact hd
        ·unfold St.put; split <;> exact hhb
        ·unfold St.put; split <;> exact Nat.le_trans hlen hlen'
       ·cases hk
      ·cases hk
     cases x with
     | norm=>cases e <;> first | exact fin hk | exact hm.elim
     | ret=>cases e <;> first | exact fin hk | exact hm.elim
     | exit i=>cases hk
def LoopOk (P:Program) (c:Code) (Q:Exit → Act → World → Prop):Nat → Act → World → Prop
 | 0,_,_=>False
 | m + 1,a,w=>c.wp P (Exit.then (LoopOk P c Q m) Q) a w
theorem least (p:Nat → Prop) (h:∃ n,p n):∃ n,p n ∧ ∀ m,p m → n ≤ m:=by
 obtain ⟨n,hn⟩:=h
 induction n using Nat.strongRecOn with
 | _ n ih =>
  by_cases hex:∃ m,m < n ∧ p m
  ·obtain ⟨m,hm,hp⟩:=hex
   exact ih m hm hp
  ·refine ⟨n,hn,fun m hp=>?_⟩
   rcases Nat.lt_or_ge m n with hlt | hge
   ·exact absurd ⟨m,hlt,hp⟩ hex
   ·exact hge
open Classical in
theorem loop_of {c:Code} {Q:Exit → Act → World → Prop} {m:Nat} {a:Act} {w:World} (h:LoopOk P c Q m a w):(Code.loop c).wp P Q a w:=by
 refine wp_loop (fun a w=>∃ m,LoopOk P c Q m a w) (fun a w=>if h:∃ m,LoopOk P c Q m a w then Classical.choose (least _ h) else 0) ⟨m,h⟩ ?_
 intro a w hI
 rw [dif_pos hI]
 have hs:=Classical.choose_spec (least _ hI)
 generalize Classical.choose (least _ hI) = m at hs
 obtain ⟨hs,_⟩:=hs
 cases m with
 | zero=>exact hs.elim
 | succ m =>
  refine wp_mono hs ?_
  intro e a' w' hq
  cases e with
  | normal =>
   have hI':∃ m,LoopOk P c Q m a' w':=⟨m,hq⟩
   refine ⟨hI',?_⟩
   rw [dif_pos hI']
   have:=(Classical.choose_spec (least _ hI')).2 m hq
   omega
  | _=>exact hq
structure Good (E:Env) (C:Code → Prop) (L:Nat → Code → St → (X → St → Option R) → Option R):Prop where
 zero:∀ c s k r,C c → L 0 c s k ≠ some r
 step:∀ m c s k r,C c → L (m + 1) c s k = some r → eval E (L m) big (.code c) s (fun x s=>match x with
  | .norm=>L m c (head (loopAnn E c) s) k
  | .ret=>k .ret (tidy (loopAnn E c) s)
  | .exit i=>k (.exit i) (tidy (loopAnn E c) s)) = some r
 sub:∀ c,C c → ∀ c' ∈ loopsOf c,C c'
theorem good_sound {C:Code → Prop} {L:Nat → Code → St → (X → St → Option R) → Option R} (hE:EnvOk P E WI) (hC:∀ K fn body,E.inl K = some fn → fn.body = some body → ∀ c' ∈ loopsOf body,C c')
  (hL:Good E C L):∀ m,LrSound P WI C (L m):=by
 have key:∀ m,LrSound P WI C (L m) ∧ ∀ (F:Fix) (c:Code) (s:St) (k:X → St → Option R) (r:R),C c → WI F.v0 F.I0 → L m c s k = some r → ∀ a w,Rel F s a w → LoopOk P c (PostK F k r) m a w:=by
  intro m
  induction m with
  | zero=>exact ⟨fun F c s k r hc _ h=>absurd h (hL.zero c s k r hc),fun F c s k r hc _ h=>absurd h (hL.zero c s k r hc)⟩
  | succ m ih =>
   have step:∀ (F:Fix) (c:Code) (s:St) (k:X → St → Option R) (r:R),C c → WI F.v0 F.I0 → L (m + 1) c s k = some r → ∀ a w,Rel F s a w → LoopOk P c (PostK F k r) (m + 1) a w:=by
    intro F c s k r hc hw0 h a w hrel
    refine wp_mono ((D02 hE hC ih.1 big).1 F c s _ r (hL.sub c hc) hw0 (hL.step m c s k r hc h) a w hrel) ?_
    rintro e a' w' ⟨z,s',hk,hm,hrel'⟩
    cases z with
    | norm=>cases e <;> first | exact ih.2 F c _ k r hc hw0 hk a' w' (hrel'.head _) | exact hm.elim
    | ret=>cases e <;> first | exact ⟨.ret,_,hk,trivial,hrel'.tidy _⟩ | exact hm.elim
    | exit i=>cases e <;> first | (cases hm; exact ⟨.exit _,_,hk,rfl,hrel'.tidy _⟩) | exact hm.elim
   exact ⟨fun F c s k r hc hw0 h a w hrel=>loop_of (step F c s k r hc hw0 h a w hrel),step⟩
 exact fun m=>(key m).1
theorem handed_one {v:Value}:handed [v] = v:=rfl
theorem out_of_args:∀ (ts:List Ty) {y:Args ts} {vs:List Value},RepArgs w I ts y vs → RepOut w I ts y (handed vs)
 | [],y,vs,h=>by
  have:vs = []:=h
  subst this
  exact ⟨#[],rfl,rfl⟩
 | [t],y,vs,⟨v,us,e,h1,h2⟩=>by
  have:us = []:=h2
  subst this; subst e
  exact h1
 | t :: t' :: ts,y,vs,h=>by
  obtain ⟨v,us,e,h1,v',us',e',h2⟩:=h
  subst e; subst e'
  exact ⟨_,rfl,v,v' :: us',rfl,h1,v',us',rfl,h2⟩
end
section
variable {P:Program} {E:Env} {WI:World → Cells → Prop} {w w':World} {I I':Cells} {H:List Blk} {μ:Mu} {w0:Base} {B:Nat}
theorem RepOut.mono (h:Keeps w w' I I'):∀ (ts:List Ty) {x:Args ts} {v:Value},RepOut w I ts x v → RepOut w' I' ts x v:=by
 have args:∀ (ts:List Ty) {x:Args ts} {vs:List Value},RepArgs w I ts x vs → RepArgs w' I' ts x vs:=by
  intro ts
  induction ts with
  | nil=>intro x vs hr; exact hr
  | cons t ts ih =>
   intro x vs hr
   obtain ⟨v,us,e,h1,h2⟩:=hr
   exact ⟨v,us,e,h1.mono h,ih h2⟩
 intro ts x v hr
 match ts,x,hr with
 | [],x,⟨vs,e,hr⟩=>exact ⟨vs,e,args [] hr⟩
 | [t],x,hr=>exact RepV.mono h hr
 | t :: t' :: ts,x,⟨vs,e,hr⟩=>exact ⟨vs,e,args (t :: t' :: ts) hr⟩
theorem fz_one {ts:List Ty} {s:Sc} {y:Args ts} (h:fzArgs H ts [.one (.sc s)] = some y):∃ t x,∃ e:ts = [t],t.flat = true ∧ fz H t s = some x ∧ y = e ▸ ((x,()):Args [t]):=by
 match ts,y,h with
 | [],y,h=>cases h
 | t :: t' :: ts,y,h =>
  simp only [fzArgs] at h
  split at h <;> cases h
 | [t],y,h =>
  simp only [fzArgs] at h
  split at h
  ·rename_i x hx
   cases h
   unfold fzA at hx
   split at hx
   ·cases hx
   ·rename_i hf
    have hflat:t.flat = true:=by
     cases ht:t.flat
     ·rw [ht] at hf; exact absurd rfl hf
     ·rfl
    refine ⟨t,x,rfl,hflat,?_,rfl⟩
    split at hx
    ·rename_i z hz
     cases hx
     simp only [A1.cells] at hz
     rw [C91 hflat] at hz
     split at hz
     ·rename_i z' hz'; cases hz; exact hz'
     ·cases hz
    ·cases hx
  ·cases h
theorem finish_ok (hr:HeapRel B w0 H μ w' I') (hw:w0.w = w) (hI:w0.I = I) (hB:B = w.heap.size) (hkeep:Keeps w w' I I') {sg:Sig} {l:List A1}
  {y:Args sg.res} (h:(match sg.fresh,l with
  | false,_=>fzArgs H sg.res (l.map .one)
  | true,[.sc (.own id _)]=>match H[id]? with
   | some (.row _ true _ _)=>fzArgs H sg.res (l.map .one)
   | _=>none
  | true,[.sc .nilS]=>fzArgs H sg.res (l.map .one)
  | true,_=>none) = some y) {vs:List Value} (hv:Each (RepA1 H μ w' I') l vs):∃ J,(∀ b o,J b o → w.heap.size ≤ b ∧ b < w'.heap.size) ∧ RepRes w w' I J sg y (handed vs):=by
 subst hB hI hw
 have hle:∀ {I2:Cells},(∀ b o,I2 b o → w0.I b o ∨ w0.w.heap.size ≤ b) → Keeps w' w' I2 (orCells w0.I (fun b o=>I2 b o ∧ w0.w.heap.size ≤ b)) :=
  fun hf=>⟨fun b o hi=>⟨(hf b o hi).elim .inl fun hb=>.inr ⟨hi,hb⟩,rfl⟩⟩
 have hmap:Each (RepAV H μ w' I') (l.map .one) vs:=Each.map AV.one (hv.mono fun _ _ _ hq=>hq)
 have plain:fzArgs H sg.res (l.map .one) = some y → sg.fresh = false → ∃ J,(∀ b o,J b o → w0.w.heap.size ≤ b ∧ b < w'.heap.size) ∧ RepRes w0.w w' w0.I J sg y (handed vs):=by
  intro hf hfr
  obtain ⟨I1,r1,x1,s1,con1⟩:=HeapRel.shows (H0:=H) (argRows (l.map .one)) hr (Shows.refl H) rfl
  have hargs:=B73 (I':=I1) hr x1.keeps sg.res hf hmap con1
  refine ⟨fun b o=>I1 b o ∧ w0.w.heap.size ≤ b,fun b o hj=>⟨hj.2,(r1.imm b o hj.1).1⟩,?_⟩
  unfold RepRes
  rw [hfr]
  exact RepOut.mono (hle r1.fresh) _ (out_of_args _ hargs)
 have noJ:(∀ b o,(fun b o=>I' b o ∧ w0.w.heap.size ≤ b) b o → w0.w.heap.size ≤ b ∧ b < w'.heap.size):=fun b o hj=>⟨hj.2,(hr.imm b o hj.1).1⟩
 split at h
 ·rename_i hfr; exact plain h hfr
 ·rename_i id ver hfr
  split at h
  ·rename_i e vr rl hid
   obtain ⟨t,x,ht,hflat,hfz,hy⟩:=fz_one h
   simp only [fz,hid] at hfz
   split at hfz
   ·rename_i hver
    obtain ⟨he,hx⟩:=cast?_some hfz
    obtain ⟨v,hve,hrep⟩:∃ v,vs = [v] ∧ RepSc H μ w' I' (.own id ver) v:=by
     match vs,hv with
     | [v],hv=>exact ⟨v,rfl,hv.1⟩
     | [],hv=>exact hv.elim
     | _ :: _ :: _,hv=>exact hv.2.elim
    subst hve
    obtain ⟨⟨e2,x2,vr2,l2,g1,g2,g3⟩,_⟩:=hrep
    rw [hid] at g1; cases g1
    have hown:=g3 hver.symm
    refine ⟨_,noJ,?_⟩
    unfold RepRes
    rw [hfr]
    refine ⟨e,rl,?_,?_⟩
    ·obtain ⟨a1,a2,a3,a4,a5⟩:=sg
     simp only at ht hy ⊢
     subst ht
     subst he
     simp only at hy hx
     subst hy hx
     rfl
    ·have hb:=hr.blk id _ hid
     simp only [BlkOk] at hb
     cases hm:μ id with
     | none =>
      rw [hm] at hown
      exact .inl hown
     | some p =>
      obtain ⟨b,n⟩:=p
      rw [hm] at hown hb
      obtain ⟨cap,rfl,hc1,hc2,hc3⟩:=hown
      obtain ⟨c,el,us,k1,k2,k3,k4⟩:=hb
      refine .inr ⟨b,cap,c,el,us,rfl,hr.low id _ b n hid rfl hm,k1,hc1,hc2,by rw [hc3,k2],k3.mono fun _ _ hq=>RepC.mono (hle hr.fresh) _ _ _ hq,k4,fun o hj=>?_⟩
      obtain ⟨e',vr',l',hq,_⟩:=(hr.imm b o hj.1).2 id _ n hid rfl hm
      cases hq
   ·cases hfz
  ·cases h
 ·rename_i hfr
  obtain ⟨t,x,ht,hflat,hfz,hy⟩:=fz_one h
  obtain ⟨v,hve,hrep⟩:∃ v,vs = [v] ∧ RepSc H μ w' I' .nilS v:=by
   match vs,hv with
   | [v],hv=>exact ⟨v,rfl,hv.1⟩
   | [],hv=>exact hv.elim
   | _ :: _ :: _,hv=>exact hv.2.elim
  subst hve
  have hvn:v = .slice none 0 0:=hrep
  subst hvn
  refine ⟨_,noJ,?_⟩
  unfold RepRes
  rw [hfr]
  cases t with
  | slice e =>
   simp only [fz,Option.some.injEq] at hfz
   refine ⟨e,[],?_,.inl ⟨rfl,_,rfl⟩⟩
   obtain ⟨a1,a2,a3,a4,a5⟩:=sg
   simp only at ht hy ⊢
   subst ht
   simp only at hy
   subst hy hfz
   rfl
  | _=>simp [fz] at hfz
 ·cases h
theorem C43 {C:Code → Prop} (hE:EnvOk P E WI) {K:FuncId} {fn:Func} (hf:P.funcs[K]? = some fn) (sg:Sig)
  {L:Nat → Code → St → (X → St → Option (Args sg.res)) → Option (Args sg.res)} (hL:Good E C L) (hC:∀ body,fn.body = some body → ∀ c' ∈ loopsOf body,C c')
  (hCi:∀ K fn body,E.inl K = some fn → fn.body = some body → ∀ c' ∈ loopsOf body,C c')
  (h:∀ x,sg.dom x = true → ∃ m,runFn E fn sg.args sg.res sg.fresh (L m) x = some (sg.val x)):Contract P WI K sg:=by
 intro w I vals x hw hI hargs hdom
 obtain ⟨m,hm⟩:=h x hdom
 unfold runFn at hm
 split at hm
 ·cases hm
 ·rename_i body hb
  let F:Fix:=⟨w.heap.size,⟨w,I⟩,[],fun _=>none,w,I⟩
  have hheap:HeapRel w.heap.size ⟨w,I⟩ [] (fun _=>none) w I :=
   ⟨fun id b hx=>by simp at hx,fun id id' x x' b n n' hx=>by simp at hx,fun id x b n hx=>by simp at hx,fun b o hi=>⟨hI b o hi,fun id x n hx=>by simp at hx⟩,Below.refl _ _,fun b o hi=>.inl hi,Nat.le_refl _⟩
  have hrel:Rel F ⟨enter (argAVs sg.args x) fn.ntmps,[],0⟩ { tmps:=vals.toArray ++ Array.replicate (fn.ntmps - vals.toArray.size) undef,defers:=[] } w :=
   ⟨⟨_,I,hheap,enter_rep (by simpa using D03 (H:=[]) (μ:=fun _=>none) sg.args hargs) _,Ext.refl _ _ _ _ _⟩,rfl,rfl,Nat.le_refl _⟩
  refine calls_of_wp hf hb (wp_mono ((D02 hE hCi (good_sound hE hCi hL m) big).1 F body _ _ _ (hC body hb) hw hm _ w hrel) ?_)
  rintro e a' w' ⟨z,s',hk,hx,hrel'⟩
  have fin:finish E fn.results.toList sg.res sg.fresh s' = some (sg.val x) →
    a'.defers = [] ∧ ∃ v,(results fn a'.tmps).run P w' = .ok v w' ∧ ∃ v_1 J,Ending.returned v = .returned v_1 ∧ Below w.heap.size w w' ∧ (∀ b o,J b o → w.heap.size ≤ b ∧ b < w'.heap.size) ∧ RepRes w w' I J sg (sg.val x) v_1:=by
   intro hk
   obtain ⟨⟨μ',I',hr',ht',hx'⟩,hd',_,_⟩:=hrel'
   refine ⟨hd',?_⟩
   unfold finish at hk
   split at hk
   ·cases hk
   ·rename_i l hres
    obtain ⟨vs,k1,k2⟩:=C77 hE hr' ht' hres
    obtain ⟨J,j1,j2⟩:=finish_ok (w:=w) (I:=I) (sg:=sg) hr' rfl rfl rfl hx'.keeps hk k2
    exact ⟨_,k1,_,J,rfl,hr'.below,j1,j2⟩
  cases z with
  | norm=>cases e <;> first | exact fin hk | exact hx.elim
  | ret=>cases e <;> first | exact fin hk | exact hx.elim
  | exit i=>cases hk
end
end Go.Am
end
section
namespace Go.Am
abbrev nl (α:Type):List α:=[]
def scMatch:Sc → Sc → Option (List Leaf)
 | .lf .fn x,.lf .fn y=>match (show Option Nat from x) with
  | none=>some [⟨.fn,y⟩]
  | some k=>if (show Option Nat from y) = some k then some [] else none
 | .lf t _,.lf t' y=>if t = t' then some [⟨t',y⟩] else none
 | .nilS,.nilS=>some []
 | .capd e _,.capd e' l=>if e = e' then some [⟨.slice e',l⟩] else none
 | .own i v,.own i' v'=>if i = i' ∧ v = v' then some [] else none
 | .ptr i o,.ptr i' o'=>if i = i' ∧ o = o' then some [] else none
 | .eptr i v j o,.eptr i' v' j' o'=>if i = i' ∧ v = v' ∧ j = j' ∧ o = o' then some [] else none
 | .clo f a c,.clo f' a' c'=>if f = f' ∧ a = a' ∧ c = c' then some [] else none
 | .nilI,.nilI=>some []
 | .junk,.junk=>some []
 | _,_=>none
def scFill:Sc → List Leaf → Sc × List Leaf
 | .lf .fn x,ls=>match (show Option Nat from x),ls with
  | some k,ls=>(.lf .fn (some k),ls)
  | none,l :: ls=>(.lf l.t l.x,ls)
  | none,[]=>(.lf .fn none,[])
 | .lf _ _,l :: ls=>(.lf l.t l.x,ls)
 | .capd e _,l :: ls=>match cast? l.t (.slice e) l.x with
  | some x=>(.capd e x,ls)
  | none=>(.junk,ls)
 | s,ls=>(s,ls)
theorem B24 {a b:Sc} {ls:List Leaf} (h:scMatch a b = some ls) (r:List Leaf):scFill a (ls ++ r) = (b,r):=by
 unfold scMatch at h
 split at h
 ·rename_i x y
  match (x:Option Nat),h with
  | none,h=>cases h; rfl
  | some k,h =>
   simp only at h
   split at h <;> cases h
   rename_i hy
   rw [show y = some k from hy]
   rfl
 ·rename_i t x t' y hn
  split at h <;> cases h
  rename_i ht
  subst ht
  cases t <;> first | rfl | exact (hn _ _ rfl HEq.rfl rfl HEq.rfl).elim
 ·cases h; rfl
 ·split at h <;> cases h
  rename_i he
  subst he
  simp [scFill,cast?]
 ·split at h <;> cases h
  rename_i hq; obtain ⟨rfl,rfl⟩:=hq; rfl
 ·split at h <;> cases h
  rename_i hq; obtain ⟨rfl,rfl⟩:=hq; rfl
 ·split at h <;> cases h
  rename_i hq; obtain ⟨rfl,rfl,rfl,rfl⟩:=hq; rfl
 ·split at h <;> cases h
  rename_i hq; obtain ⟨rfl,rfl,rfl⟩:=hq; rfl
 ·cases h; rfl
 ·cases h; rfl
 ·cases h
def lMatch {α:Type} (f:α → α → Option (List Leaf)):List α → List α → Option (List Leaf)
 | [],[]=>some []
 | a :: l,b :: m=>match f a b with
  | some x=>match lMatch f l m with
   | some y=>some (x ++ y)
   | none=>none
  | none=>none
 | _,_=>none
def lFill {α:Type} (f:α → List Leaf → α × List Leaf):List α → List Leaf → List α × List Leaf
 | [],ls=>([],ls)
 | a :: l,ls=>((f a ls).1 :: (lFill f l (f a ls).2).1,(lFill f l (f a ls).2).2)
theorem w29 {α:Type} {f:α → α → Option (List Leaf)} {g:α → List Leaf → α × List Leaf} (hf:∀ a b ls,f a b = some ls → ∀ r,g a (ls ++ r) = (b,r)) :
  ∀ (l m:List α) {ls:List Leaf},lMatch f l m = some ls → ∀ r,lFill g l (ls ++ r) = (m,r)
 | [],[],_,h,r=>by cases h; rfl
 | [],_ :: _,_,h,_=>by cases h
 | _ :: _,[],_,h,_=>by cases h
 | a :: l,b :: m,ls,h,r=>by
  simp only [lMatch] at h
  split at h
  ·rename_i x hx
   split at h
   ·rename_i y hy
    cases h
    simp only [lFill,List.append_assoc,hf a b x hx,w29 hf l m hy]
   ·cases h
  ·cases h
def a1Match:A1 → A1 → Option (List Leaf)
 | .sc a,.sc b=>scMatch a b
 | .agg l,.agg m=>lMatch scMatch l m
 | _,_=>none
def a1Fill:A1 → List Leaf → A1 × List Leaf
 | .sc a,ls=>(.sc (scFill a ls).1,(scFill a ls).2)
 | .agg l,ls=>(.agg (lFill scFill l ls).1,(lFill scFill l ls).2)
theorem C12 {a b:A1} {ls:List Leaf} (h:a1Match a b = some ls) (r:List Leaf):a1Fill a (ls ++ r) = (b,r):=by
 unfold a1Match at h
 split at h
 ·simp only [a1Fill,B24 h]
 ·simp only [a1Fill,w29 (f:=scMatch) (g:=scFill) (fun a b ls h r=>B24 h r) _ _ h]
 ·cases h
def avMatch:AV → AV → Option (List Leaf)
 | .one a,.one b=>a1Match a b
 | .tup l,.tup m=>lMatch a1Match l m
 | _,_=>none
def avFill:AV → List Leaf → AV × List Leaf
 | .one a,ls=>(.one (a1Fill a ls).1,(a1Fill a ls).2)
 | .tup l,ls=>(.tup (lFill a1Fill l ls).1,(lFill a1Fill l ls).2)
theorem avMatch_fill {a b:AV} {ls:List Leaf} (h:avMatch a b = some ls) (r:List Leaf):avFill a (ls ++ r) = (b,r):=by
 unfold avMatch at h
 split at h
 ·simp only [avFill,C12 h]
 ·simp only [avFill,w29 (f:=a1Match) (g:=a1Fill) (fun a b ls h r=>C12 h r) _ _ h]
 ·cases h
def B83:Blk → Blk → Option (List Leaf)
 | .free,.free=>some []
 | .cells l,.cells m=>lMatch scMatch l m
 | .row e x v _,.row e' x' v' l=>if e = e' ∧ x = x' ∧ v = v' then some [⟨.slice e',l⟩] else none
 | _,_=>none
def blkFill:Blk → List Leaf → Blk × List Leaf
 | .free,ls=>(.free,ls)
 | .cells l,ls=>(.cells (lFill scFill l ls).1,(lFill scFill l ls).2)
 | .row e x v _,l :: ls=>match cast? l.t (.slice e) l.x with
  | some y=>(.row e x v y,ls)
  | none=>(.free,ls)
 | b,[]=>(b,[])
theorem blkMatch_fill {a b:Blk} {ls:List Leaf} (h:B83 a b = some ls) (r:List Leaf):blkFill a (ls ++ r) = (b,r):=by
 unfold B83 at h
 split at h
 ·cases h; rfl
 ·simp only [blkFill,w29 (f:=scMatch) (g:=scFill) (fun a b ls h r=>B24 h r) _ _ h]
 ·split at h <;> cases h
  rename_i hq
  obtain ⟨rfl,rfl,rfl⟩:=hq
  simp [blkFill,cast?]
 ·cases h
def stMatch (t s:St):Option (List Leaf) :=
 if t.hb = s.hb then match lMatch avMatch t.tmps s.tmps with
  | some x=>match lMatch B83 t.heap s.heap with
   | some y=>some (x ++ y)
   | none=>none
  | none=>none
 else none
def stFill (t:St) (ls:List Leaf):St :=
 ⟨(lFill avFill t.tmps ls).1,(lFill blkFill t.heap (lFill avFill t.tmps ls).2).1,t.hb⟩
theorem stMatch_fill {t s:St} {ls:List Leaf} (h:stMatch t s = some ls):stFill t ls = s:=by
 unfold stMatch at h
 split at h
 ·rename_i hb
  split at h
  ·rename_i x hx
   split at h
   ·rename_i y hy
    cases h
    have h1:=w29 (f:=avMatch) (g:=avFill) (fun a b ls h r=>avMatch_fill h r) _ _ hx y
    have h2:=w29 (f:=B83) (g:=blkFill) (fun a b ls h r=>blkMatch_fill h r) _ _ hy []
    rw [List.append_nil] at h2
    unfold stFill
    rw [h1]
    simp only [h2,hb]
   ·cases h
  ·cases h
 ·cases h
def takeT:(t:Ty) → List Leaf → Option (t.den × List Leaf)
 | .pair a b,ls=>match takeT a ls with
  | some (x,r)=>match takeT b r with
   | some (y,r')=>some ((x,y),r')
   | none=>none
  | none=>none
 | .unit,ls=>some ((),ls)
 | .int k,l :: ls=>match cast? l.t (.int k) l.x with | some x=>some (x,ls) | none=>none
 | .bool,l :: ls=>match cast? l.t .bool l.x with | some x=>some (x,ls) | none=>none
 | .str,l :: ls=>match cast? l.t .str l.x with | some x=>some (x,ls) | none=>none
 | .fn,l :: ls=>match cast? l.t .fn l.x with | some x=>some (x,ls) | none=>none
 | .slice e,l :: ls=>match cast? l.t (.slice e) l.x with | some x=>some (x,ls) | none=>none
 | .int _,[]=>none
 | .bool,[]=>none
 | .str,[]=>none
 | .fn,[]=>none
 | .slice _,[]=>none
theorem w87 {l:Leaf} {t:Ty} {x:t.den} (h:cast? l.t t l.x = some x):l = ⟨t,x⟩:=by
 obtain ⟨t',x'⟩:=l
 obtain ⟨he,hx⟩:=cast?_some h
 simp only at he hx
 subst he
 subst hx
 rfl
theorem B07:∀ (t:Ty) {ls r:List Leaf} {x:t.den},takeT t ls = some (x,r) → ls = leaves t x ++ r
 | .unit,ls,r,x,h=>by simp only [takeT,Option.some.injEq,Prod.mk.injEq] at h; rw [h.2]; rfl
 | .pair a b,ls,r,x,h=>by
  simp only [takeT] at h
  split at h
  ·rename_i y q hq
   split at h
   ·rename_i z q' hq'
    simp only [Option.some.injEq,Prod.mk.injEq] at h
    obtain ⟨rfl,rfl⟩:=h
    rw [B07 a hq,B07 b hq']
    simp [leaves]
   ·cases h
  ·cases h
 | .int k,l :: ls,r,x,h=>by simp only [takeT] at h; split at h <;> cases h; rename_i hc; rw [w87 hc]; rfl
 | .bool,l :: ls,r,x,h=>by simp only [takeT] at h; split at h <;> cases h; rename_i hc; rw [w87 hc]; rfl
 | .str,l :: ls,r,x,h=>by simp only [takeT] at h; split at h <;> cases h; rename_i hc; rw [w87 hc]; rfl
 | .fn,l :: ls,r,x,h=>by simp only [takeT] at h; split at h <;> cases h; rename_i hc; rw [w87 hc]; rfl
 | .slice e,l :: ls,r,x,h=>by simp only [takeT] at h; split at h <;> cases h; rename_i hc; rw [w87 hc]; rfl
 | .int k,[],_,_,h=>by simp [takeT] at h
 | .bool,[],_,_,h=>by simp [takeT] at h
 | .str,[],_,_,h=>by simp [takeT] at h
 | .fn,[],_,_,h=>by simp [takeT] at h
 | .slice e,[],_,_,h=>by simp [takeT] at h
def argsOf:(ts:List Ty) → List Leaf → Option (Args ts)
 | [],[]=>some ()
 | [],_ :: _=>none
 | t :: ts,ls=>match takeT t ls with
  | some (x,r)=>match argsOf ts r with
   | some y=>some (x,y)
   | none=>none
  | none=>none
def leavesA:(ts:List Ty) → Args ts → List Leaf
 | [],_=>[]
 | t :: ts,x=>leaves t x.1 ++ leavesA ts x.2
theorem B89:∀ (ts:List Ty) {ls:List Leaf} {x:Args ts},argsOf ts ls = some x → leavesA ts x = ls
 | [],[],_,_=>rfl
 | [],_ :: _,_,h=>by cases h
 | t :: ts,ls,x,h=>by
  simp only [argsOf] at h
  split at h
  ·rename_i y r hy
   split at h
   ·rename_i z hz
    cases h
    simp only [leavesA,B89 ts hz]
    exact (B07 t hy).symm
   ·cases h
  ·cases h
def mkSt (t:St) (ts:List Ty) (x:Args ts):St:=stFill t (leavesA ts x)
def unSt (t:St) (ts:List Ty) (s:St):Option (Args ts) :=
 match stMatch t s with
 | some ls=>argsOf ts ls
 | none=>none
theorem O8 {t:St} {ts:List Ty} {s:St} {x:Args ts} (h:unSt t ts s = some x):s = mkSt t ts x:=by
 unfold unSt at h
 split at h
 ·rename_i ls hls
  unfold mkSt
  rw [B89 ts h,stMatch_fill hls]
 ·cases h
def roundOf (E:Env) {R:Type} (lr:Code → St → (X → St → Option R) → Option R) (c:Code) (s:St) (rec:St → Option R) (k:X → St → Option R):Option R :=
 eval E lr big (.code c) s fun x s=>match x with
  | .norm=>rec (head (loopAnn E c) s)
  | .ret=>k .ret (tidy (loopAnn E c) s)
  | .exit i=>k (.exit i) (tidy (loopAnn E c) s)
theorem loops_sub:∀ (b:Code) {c c':Code},c ∈ loopsOf b → c' ∈ loopsOf c → c' ∈ loopsOf b:=by
 intro b
 induction b with
 | seq x y ihx ihy =>
  intro c c' h h'
  simp only [loopsOf,List.mem_append] at h ⊢
  exact h.imp (fun h=>ihx h h') (fun h=>ihy h h')
 | cond t x y ihx ihy =>
  intro c c' h h'
  simp only [loopsOf,List.mem_append] at h ⊢
  exact h.imp (fun h=>ihx h h') (fun h=>ihy h h')
 | block id x ih=>intro c c' h h'; exact ih h h'
 | loop x ih =>
  intro c c' h h'
  simp only [loopsOf,List.mem_cons] at h ⊢
  rcases h with rfl | h
  ·exact .inr h'
  ·exact .inr (ih h h')
 | _=>intro c c' h; cases h
end Go.Am
end
end
