import PyProof.Rows.All
import Wide.All
import OpenK.AllK
import Wide.FinOn
import HandS.ForMost
import HandS.ForExc
import HandS.Wide
import HandS.Walk
import HandS.Flow
import HandS.IsInst
import HandS.Defaults
import HandS.WideBits
import HandS.Head0
import HandS.Head1
import HandS.Head2
import HandS.HeadEnd
import HandS.HeadHook1
import HandS.HeadHook2
import HandS.Zip
import HandS.HeadHook4
import HandS.SortInts
import HandS.More
import HandS.Deep
import HandS.SetKeys
import HandS.ExcOwn
import HandS.ExcIs
import HandS.TryOnly
import HandS.TryMany
import HandS.TryElse
import HandS.WordsExc
import KE.DatumOrd
import HandS.SortKw
import HandS.Iter
import HandS.Conv
import PyProof.ListRange
import KE.KIndexOf
import PyProof.SeqIndex
import HandS.DictComp
import HandS.SortRule
import HandS.ExcInit
import HandS.ExcField
import PyProof.P3Eq
import HandS.Lambda
import HandS.Keys
import HandS.EndTab
import HandS.HeadWalk
import HandS.HotCalls
import HandS.TupAny
import KE.SortKeyHeap
import PySem.Challenge.RW_volumemend_k63_folders_listed
set_option Elab.async false
set_option linter.all false
set_option maxRecDepth 100000
set_option maxHeartbeats 4000000
set_option synthInstance.maxHeartbeats 2000000
set_option synthInstance.maxSize 100000
section
namespace VM
open PySem PySem.Spec L2
open PyProof.Rows hiding St

/-! ### the ledger: the heap as a list of chunks of cells -/
abbrev Cell := Addr × HO
abbrev Chunk := List Cell
abbrev Lg := List Chunk
def keys (L : Lg) : List Addr := L.flatten.map Prod.fst
structure Led (H : Hp) (L : Lg) : Prop where
  get : ∀ c ∈ L, ∀ x ∈ c, H x.1 = some x.2
  nd : (keys L).Nodup
def Lic (L L' : Lg) : Prop := ∀ H, Led H L → Led H L'
theorem Lic.refl {L : Lg} : Lic L L := fun _ h => h
theorem Lic.trans {L L' L'' : Lg} (a : Lic L L') (b : Lic L' L'') : Lic L L'' := fun H h => b H (a H h)
theorem mem_keys {L : Lg} {p : Addr} : p ∈ keys L ↔ ∃ c ∈ L, ∃ x ∈ c, x.1 = p := by
  unfold keys
  rw [List.mem_map]
  constructor
  · rintro ⟨x, hx, rfl⟩
    obtain ⟨c, hc, hxc⟩ := List.mem_flatten.mp hx
    exact ⟨c, hc, x, hxc, rfl⟩
  · rintro ⟨c, hc, x, hx, rfl⟩
    exact ⟨x, List.mem_flatten.mpr ⟨c, hc, hx⟩, rfl⟩
theorem Led.some_of {H : Hp} {L : Lg} {p : Addr} (h : Led H L) (hp : p ∈ keys L) : ∃ o, H p = some o := by
  obtain ⟨c, hc, x, hx, rfl⟩ := mem_keys.mp hp
  exact ⟨_, h.get c hc x hx⟩
theorem Led.fresh {H : Hp} {L : Lg} {p : Addr} (h : Led H L) (hp : H p = none) : p ∉ keys L := fun hm => by
  obtain ⟨o, e⟩ := h.some_of hm
  rw [hp] at e
  cases e
theorem keys_cons (c : Chunk) (L : Lg) : keys (c :: L) = c.map Prod.fst ++ keys L := by
  unfold keys
  rw [List.flatten_cons, List.map_append]
theorem keys_append (L L' : Lg) : keys (L ++ L') = keys L ++ keys L' := by
  unfold keys
  rw [List.flatten_append, List.map_append]
theorem Led.nil {H : Hp} : Led H [] := ⟨(fun _ h => nomatch h), List.nodup_nil⟩
theorem Led.new {H : Hp} {L : Lg} {p : Addr} {o : HO} (h : Led H L) (hp : H p = none) : Led (upd H p o) ([(p, o)] :: L) := by
  refine ⟨fun c hc x hx => ?_, ?_⟩
  · rcases List.mem_cons.mp hc with rfl | hc
    · obtain rfl := List.mem_singleton.mp hx
      exact upd_same
    · have e := h.get c hc x hx
      rw [upd_ne (ne_of_none e hp)]
      exact e
  · rw [keys_cons]
    exact List.nodup_cons.mpr ⟨h.fresh hp, h.nd⟩
theorem Led.none_new {H : Hp} {L : Lg} {p : Addr} {o : HO} (h : Led H L) (hp : p ∉ keys L) : Led (upd H p o) ([(p, o)] :: L) := by
  refine ⟨fun c hc x hx => ?_, ?_⟩
  · rcases List.mem_cons.mp hc with rfl | hc
    · obtain rfl := List.mem_singleton.mp hx
      exact upd_same
    · have e := h.get c hc x hx
      have ne : x.1 ≠ p := fun q => hp (q ▸ mem_keys.mpr ⟨c, hc, x, hx, rfl⟩)
      rw [upd_ne ne]
      exact e
  · rw [keys_cons]
    exact List.nodup_cons.mpr ⟨hp, h.nd⟩
/-- a ledger that holds no more -/
theorem Led.sub {H : Hp} {L L' : Lg} (h : Led H L) (hm : ∀ c ∈ L', ∀ x ∈ c, ∃ d ∈ L, x ∈ d) (nd : (keys L').Nodup) : Led H L' :=
  ⟨fun c hc x hx => let ⟨d, hd, hx'⟩ := hm c hc x hx; h.get d hd x hx', nd⟩
theorem flat_sub : ∀ {L L' : Lg}, L'.Sublist L → (L'.flatten).Sublist L.flatten := by
  intro L L' s
  induction s with
  | slnil => exact .refl _
  | cons a _ ih => rw [List.flatten_cons]; exact ih.trans (List.sublist_append_right _ _)
  | cons_cons a _ ih => rw [List.flatten_cons, List.flatten_cons]; exact (List.Sublist.refl a).append ih
theorem Lic.sublist {L L' : Lg} (s : L'.Sublist L) : Lic L L' := fun H h =>
  h.sub (fun c hc x hx => ⟨c, s.subset hc, hx⟩) (List.Sublist.nodup (by unfold keys; exact (flat_sub s).map Prod.fst) h.nd)
theorem Lic.perm {L L' : Lg} (s : L'.Perm L) : Lic L L' := fun H h =>
  h.sub (fun c hc x hx => ⟨c, s.mem_iff.mp hc, hx⟩) (((List.Perm.flatten s).map Prod.fst).nodup_iff.mpr h.nd)
theorem Lic.flat {L L' : Lg} (s : L'.flatten = L.flatten) : Lic L L' := fun H h => by
  refine h.sub (fun c hc x hx => ?_) (by unfold keys; rw [s]; exact h.nd)
  have hm : x ∈ L.flatten := s ▸ List.mem_flatten.mpr ⟨c, hc, hx⟩
  obtain ⟨d, hd, hx'⟩ := List.mem_flatten.mp hm
  exact ⟨d, hd, hx'⟩
theorem Lic.permFlat {L L' : Lg} (s : L'.flatten.Perm L.flatten) : Lic L L' := fun H h => by
  refine h.sub (fun c hc x hx => ?_) ((s.map Prod.fst).nodup_iff.mpr h.nd)
  have hm : x ∈ L.flatten := s.mem_iff.mp (List.mem_flatten.mpr ⟨c, hc, hx⟩)
  obtain ⟨d, hd, hx'⟩ := List.mem_flatten.mp hm
  exact ⟨d, hd, hx'⟩
theorem Lic.tail {c : Chunk} {L : Lg} : Lic (c :: L) L := Lic.sublist (List.sublist_cons_self c L)
theorem Lic.cons {c : Chunk} {L L' : Lg} (s : L'.Sublist L) : Lic (c :: L) (c :: L') := Lic.sublist (s.cons_cons c)
theorem Lic.swap {c d : Chunk} {L : Lg} : Lic (c :: d :: L) (d :: c :: L) := Lic.perm (List.Perm.swap c d L)
/-- the chunk at place i comes to the front -/
theorem Lic.pull {L : Lg} (i : Nat) {c : Chunk} (h : L[i]? = some c) : Lic L (c :: L.eraseIdx i) := by
  refine Lic.perm ?_
  obtain ⟨hi, e⟩ := List.getElem?_eq_some_iff.mp h
  have e2 : L = L.take i ++ c :: L.drop (i + 1) := by
    rw [← e]
    simp
  have e3 : L.eraseIdx i = L.take i ++ L.drop (i + 1) := List.eraseIdx_eq_take_drop_succ L i
  rw [e3]
  conv => rhs; rw [e2]
  exact List.perm_middle.symm
/-- a cell is written: its chunk stands at place i -/
theorem Led.put {H : Hp} {L : Lg} {i : Nat} {A B : Chunk} {p : Addr} {o o' : HO} (h : Led H L) (hi : L[i]? = some (A ++ (p, o) :: B)) : Led (upd H p o') (L.set i (A ++ (p, o') :: B)) := by
  have hlt : i < L.length := (List.getElem?_eq_some_iff.mp hi).1
  have hc : (A ++ (p, o) :: B) ∈ L := List.mem_of_getElem? hi
  have hk : keys (L.set i (A ++ (p, o') :: B)) = keys L := by
    have e1 : L = L.take i ++ (A ++ (p, o) :: B) :: L.drop (i + 1) := by
      have := (List.getElem?_eq_some_iff.mp hi).2
      rw [← this]
      simp
    have e2 : L.set i (A ++ (p, o') :: B) = L.take i ++ (A ++ (p, o') :: B) :: L.drop (i + 1) := by
      rw [List.set_eq_take_append_cons_drop, if_pos hlt]
    rw [e2]
    conv => rhs; rw [e1]
    simp [keys_append, keys_cons]
  have hnd := h.nd
  refine ⟨fun c hcm x hx => ?_, by rw [hk]; exact hnd⟩
  -- the only place of p
  have uniq : ∀ j d, L[j]? = some d → p ∈ d.map Prod.fst → j = i := by
    intro j d hj hpd
    have nd2 : (L.map fun c => c.map Prod.fst).flatten.Nodup := by
      have e : keys L = (L.map fun c => c.map Prod.fst).flatten := by
        unfold keys
        rw [List.map_flatten]
      rw [← e]
      exact hnd
    have pw := (List.pairwise_flatten.mp nd2).2
    rw [List.pairwise_map, List.pairwise_iff_getElem] at pw
    obtain ⟨jl, je⟩ := List.getElem?_eq_some_iff.mp hj
    obtain ⟨il, ie⟩ := List.getElem?_eq_some_iff.mp hi
    have hpi : p ∈ (L[i].map Prod.fst) := by rw [ie]; simp
    have hpj : p ∈ (L[j].map Prod.fst) := by rw [je]; exact hpd
    rcases Nat.lt_trichotomy j i with q | q | q
    · exact absurd rfl ((pw j i jl il q) p hpj p hpi)
    · exact q
    · exact absurd rfl ((pw i j il jl q) p hpi p hpj)
  have inner : ((A ++ (p, o) :: B).map Prod.fst).Nodup := by
    have sl : List.Sublist (A ++ (p, o) :: B) L.flatten := List.sublist_flatten_of_mem hc
    exact (sl.map Prod.fst).nodup hnd
  obtain ⟨j, hj⟩ := List.getElem?_of_mem hcm
  rw [List.getElem?_set] at hj
  split at hj
  · rename_i e
    have hj : A ++ (p, o') :: B = c := by first | exact Option.some.inj hj | (split at hj <;> first | exact Option.some.inj hj | cases hj)
    subst hj
    rcases List.mem_append.mp hx with hxA | hxB
    · have ne : x.1 ≠ p := by
        rintro rfl
        rw [List.map_append, List.map_cons] at inner
        exact (List.nodup_append.mp inner).2.2 _ (List.mem_map_of_mem hxA) _ List.mem_cons_self rfl
      rw [upd_ne ne]
      exact h.get _ hc x (List.mem_append_left _ hxA)
    · rcases List.mem_cons.mp hxB with e2 | hxB2
      · subst e2
        exact upd_same
      · have ne : x.1 ≠ p := by
          intro e2
          rw [List.map_append, List.map_cons] at inner
          have hm : x.1 ∈ B.map Prod.fst := List.mem_map_of_mem hxB2
          rw [e2] at hm
          exact (List.nodup_cons.mp (List.nodup_append.mp inner).2.1).1 hm
        rw [upd_ne ne]
        exact h.get _ hc x (List.mem_append_right _ (List.mem_cons_of_mem _ hxB2))
  · rename_i ne'
    have ne : x.1 ≠ p := by
      rintro rfl
      exact ne' (uniq j c hj (List.mem_map_of_mem hx)).symm
    rw [upd_ne ne]
    exact h.get c (List.mem_of_getElem? hj) x hx
theorem Led.put1 {H : Hp} {L : Lg} {i : Nat} {p : Addr} {o o' : HO} (h : Led H L) (hi : L[i]? = some [(p, o)]) : Led (upd H p o') (L.set i [(p, o')]) := Led.put (A := []) (B := []) h hi
theorem Led.one {H : Hp} {L : Lg} {p : Addr} {o : HO} (h : Led H L) (hm : [(p, o)] ∈ L) : H p = some o := h.get _ hm _ List.mem_cons_self
theorem Led.cell {H : Hp} {L : Lg} {c : Chunk} {p : Addr} {o : HO} (h : Led H L) (hm : c ∈ L) (hx : (p, o) ∈ c) : H p = some o := h.get _ hm _ hx
end VM

end

section
namespace VM
open PySem PySem.Spec L2
open PyProof.Rows hiding St

/-! ### readings over ledgers -/
abbrev LVK := V → Lg → Prop
abbrev LTE := St → Lg → LVK → Prop
abbrev LTT := St → Lg → (Bool → Lg → Prop) → Prop
abbrev LTA := St → Lg → (List V → Lg → Prop) → Prop
abbrev LR2 := V → V → Lg → LVK → Prop
abbrev LR1 := V → Lg → LVK → Prop
abbrev LRC := List V → Lg → LVK → Prop
/-- a heap-wish that some ledger-wish gives -/
def Up {α : Type} (t : Lg → (α → Lg → Prop) → Prop) (H : Hp) (Q : α → Hp → Prop) : Prop := ∃ L QL, Led H L ∧ t L QL ∧ ∀ v L' H', QL v L' → Led H' L' → Q v H'
theorem Up.mk {α : Type} {t : Lg → (α → Lg → Prop) → Prop} {H : Hp} {Q : α → Hp → Prop} {L : Lg} {QL : α → Lg → Prop} (h : Led H L) (ht : t L QL) (k : ∀ v L' H', QL v L' → Led H' L' → Q v H') : Up t H Q := ⟨L, QL, h, ht, k⟩
/-- down: the heap's reading at every heap of the ledger -/
def Dn {α : Type} (r : Hp → (α → Hp → Prop) → Prop) (L : Lg) (Q : α → Lg → Prop) : Prop := ∀ H, Led H L → r H fun v H' => ∃ L', Led H' L' ∧ Q v L'
def LE (X : Cx) (e : Expr) (t : LTE) : Prop := PE X e fun σ H Q => Up (t σ) H Q
def LT (X : Cx) (e : Expr) (t : LTT) : Prop := PT X e fun σ H Q => Up (t σ) H Q
def LW (X : Cx) (e : Expr) (t : LTT) : Prop := PW X e fun σ H Q => Up (t σ) H Q
def LA (X : Cx) (es : List Expr) (t : LTA) : Prop := PA X es fun σ H Q => Up (t σ) H Q
def OpL (X : Cx) (f : Value → Value → Sem Value) (r : LR2) : Prop := OpR X f fun x y H Q => Up (r x y) H Q
def UnL (X : Cx) (f : Value → Sem Value) (r : LR1) : Prop := UnR X f fun x H Q => Up (r x) H Q
def CallL (X : Cx) (f : Value) (r : LRC) : Prop := CallR X f fun xs H Q => Up (r xs) H Q
def IxL (X : Cx) (r : LR2) : Prop := IxR X fun x y H Q => Up (r x y) H Q
def MtL (X : Cx) (id : String) (r : V → LRC) : Prop := MtR X id fun x xs H Q => Up (r x xs) H Q
def SlL (X : Cx) (r : V → Option Int → Option Int → Lg → LVK → Prop) : Prop := SlR X fun x lo hi H Q => Up (r x lo hi) H Q
def TruL (X : Cx) (r : V → Lg → (Bool → Lg → Prop) → Prop) : Prop := TruR X fun x H Q => Up (r x) H Q

theorem EP.mono {X : Cx} {pins : List (Addr × Obj)} {σ : St} {Q Q' : VK} {u : Value} {s' : Shared} (h : ∀ v H, Q v H → Q' v H) (e : EP X pins σ Q u s') : EP X pins σ Q' u s' := by
  obtain ⟨v, H', I, r, q⟩ := e
  exact ⟨v, H', I, r, h _ _ q⟩
theorem TP.mono {X : Cx} {pins : List (Addr × Obj)} {σ : St} {Q Q' : Bool → Hp → Prop} {u : Bool} {s' : Shared} (h : ∀ v H, Q v H → Q' v H) (e : TP X pins σ Q u s') : TP X pins σ Q' u s' := by
  obtain ⟨H', I, q⟩ := e
  exact ⟨H', I, h _ _ q⟩
theorem AP.mono {X : Cx} {pins : List (Addr × Obj)} {σ : St} {Q Q' : List V → Hp → Prop} {u : List Value} {s' : Shared} (h : ∀ v H, Q v H → Q' v H) (e : AP X pins σ Q u s') : AP X pins σ Q' u s' := by
  obtain ⟨v, H', I, r, q⟩ := e
  exact ⟨v, H', I, r, h _ _ q⟩
section
variable {X : Cx}
theorem PE.imp {e : Expr} {t t' : TE} (p : PE X e t) (h : ∀ σ H Q, t' σ H Q → t σ H Q) : PE X e t' := ⟨fun pins s σ H Q I q => p.run pins s σ H Q I (h _ _ _ q)⟩
theorem PT.imp {e : Expr} {t t' : TT} (p : PT X e t) (h : ∀ σ H Q, t' σ H Q → t σ H Q) : PT X e t' := ⟨fun pins s σ H Q I q => p.run pins s σ H Q I (h _ _ _ q)⟩
theorem PW.imp {e : Expr} {t t' : TT} (p : PW X e t) (h : ∀ σ H Q, t' σ H Q → t σ H Q) : PW X e t' := ⟨fun wh pins s σ H Q I q => p.run wh pins s σ H Q I (h _ _ _ q)⟩
theorem PA.imp {e : List Expr} {t t' : TA} (p : PA X e t) (h : ∀ σ H Q, t' σ H Q → t σ H Q) : PA X e t' := ⟨fun pos pins s σ H Q I q => p.run pos pins s σ H Q I (h _ _ _ q)⟩
/-- every rule over the heap is one over ledgers -/
theorem OpL.of {f : Value → Value → Sem Value} {r : R2} (h : OpR X f r) : OpL X f (fun x y L Q => Dn (r x y) L Q) := by
  intro pins s σ H x y v u Q I rx ry q
  obtain ⟨L, QL, hL, hd, k⟩ := q
  exact wpAny_mono (h pins s σ H x y v u _ I rx ry (hd H hL)) (fun a s' e => EP.mono (fun v H' ⟨L', h1, h2⟩ => k v L' H' h2 h1) e) fun _ _ z => z
theorem UnL.of {f : Value → Sem Value} {r : V → Hp → VK → Prop} (h : UnR X f r) : UnL X f (fun x L Q => Dn (r x) L Q) := by
  intro pins s σ H x v Q I rx q
  obtain ⟨L, QL, hL, hd, k⟩ := q
  exact wpAny_mono (h pins s σ H x v _ I rx (hd H hL)) (fun a s' e => EP.mono (fun v H' ⟨L', h1, h2⟩ => k v L' H' h2 h1) e) fun _ _ z => z
theorem CallL.of {f : Value} {r : List V → Hp → VK → Prop} (h : CallR X f r) : CallL X f (fun x L Q => Dn (r x) L Q) := by
  intro pins s σ H x v Q I rx q
  obtain ⟨L, QL, hL, hd, k⟩ := q
  exact wpAny_mono (h pins s σ H x v _ I rx (hd H hL)) (fun a s' e => EP.mono (fun v H' ⟨L', h1, h2⟩ => k v L' H' h2 h1) e) fun _ _ z => z
theorem IxL.of {r : R2} (h : IxR X r) : IxL X (fun x y L Q => Dn (r x y) L Q) := by
  intro value slice pins s σ H x y v u Q I rx ry q hs
  obtain ⟨L, QL, hL, hd, k⟩ := q
  exact wpAny_mono (h value slice pins s σ H x y v u _ I rx ry (hd H hL) hs) (fun a s' e => EP.mono (fun v H' ⟨L', h1, h2⟩ => k v L' H' h2 h1) e) fun _ _ z => z
theorem MtL.of {id : String} {r : V → List V → Hp → VK → Prop} (h : MtR X id r) : MtL X id (fun x xs L Q => Dn (r x xs) L Q) := by
  intro pins s σ H x y v u Q I rx ry q
  obtain ⟨L, QL, hL, hd, k⟩ := q
  exact wpAny_mono (h pins s σ H x y v u _ I rx ry (hd H hL)) (fun a s' e => EP.mono (fun v H' ⟨L', h1, h2⟩ => k v L' H' h2 h1) e) fun _ _ z => z
theorem SlL.of {r : V → Option Int → Option Int → Hp → VK → Prop} (h : SlR X r) : SlL X (fun x lo hi L Q => Dn (r x lo hi) L Q) := by
  intro pins s σ H x v vl vu lo hi sl Q I rx hs pl pu q
  obtain ⟨L, QL, hL, hd, k⟩ := q
  obtain ⟨T, id, h1, h2, h3⟩ := h pins s σ H x v vl vu lo hi sl _ I rx hs pl pu (hd H hL)
  exact ⟨T, id, h1, h2, wpAny_mono h3 (fun a s' e => EP.mono (fun v H' ⟨L', h1, h2⟩ => k v L' H' h2 h1) e) fun _ _ z => z⟩
theorem TruL.of {r : V → Hp → (Bool → Hp → Prop) → Prop} (h : TruR X r) : TruL X (fun x L Q => Dn (r x) L Q) := by
  intro pins s σ H x v Q I rx q
  obtain ⟨L, QL, hL, hd, k⟩ := q
  exact wpAny_mono (h pins s σ H x v _ I rx (hd H hL)) (fun a s' e => TP.mono (fun v H' ⟨L', h1, h2⟩ => k v L' H' h2 h1) e) fun _ _ z => z
/-- two rules for one operation -/
theorem OpL.or {f : Value → Value → Sem Value} {r r' : LR2} (h : OpL X f r) (h' : OpL X f r') : OpL X f (fun x y L Q => r x y L Q ∨ r' x y L Q) := by
  intro pins s σ H x y v u Q I rx ry q
  obtain ⟨L, QL, hL, hd, k⟩ := q
  rcases hd with hd | hd
  · exact h pins s σ H x y v u Q I rx ry ⟨L, QL, hL, hd, k⟩
  · exact h' pins s σ H x y v u Q I rx ry ⟨L, QL, hL, hd, k⟩
theorem CallL.or {f : Value} {r r' : LRC} (h : CallL X f r) (h' : CallL X f r') : CallL X f (fun x L Q => r x L Q ∨ r' x L Q) := by
  intro pins s σ H x v Q I rx q
  obtain ⟨L, QL, hL, hd, k⟩ := q
  rcases hd with hd | hd
  · exact h pins s σ H x v Q I rx ⟨L, QL, hL, hd, k⟩
  · exact h' pins s σ H x v Q I rx ⟨L, QL, hL, hd, k⟩
theorem IxL.or {r r' : LR2} (h : IxL X r) (h' : IxL X r') : IxL X (fun x y L Q => r x y L Q ∨ r' x y L Q) := by
  intro value slice pins s σ H x y v u Q I rx ry q hs
  obtain ⟨L, QL, hL, hd, k⟩ := q
  rcases hd with hd | hd
  · exact h value slice pins s σ H x y v u Q I rx ry ⟨L, QL, hL, hd, k⟩ hs
  · exact h' value slice pins s σ H x y v u Q I rx ry ⟨L, QL, hL, hd, k⟩ hs
theorem MtL.or {id : String} {r r' : V → LRC} (h : MtL X id r) (h' : MtL X id r') : MtL X id (fun x xs L Q => r x xs L Q ∨ r' x xs L Q) := by
  intro pins s σ H x y v u Q I rx ry q
  obtain ⟨L, QL, hL, hd, k⟩ := q
  rcases hd with hd | hd
  · exact h pins s σ H x y v u Q I rx ry ⟨L, QL, hL, hd, k⟩
  · exact h' pins s σ H x y v u Q I rx ry ⟨L, QL, hL, hd, k⟩
theorem SlL.or {r r' : V → Option Int → Option Int → Lg → LVK → Prop} (h : SlL X r) (h' : SlL X r') : SlL X (fun x lo hi L Q => r x lo hi L Q ∨ r' x lo hi L Q) := by
  intro pins s σ H x v vl vu lo hi sl Q I rx hs pl pu q
  obtain ⟨L, QL, hL, hd, k⟩ := q
  rcases hd with hd | hd
  · exact h pins s σ H x v vl vu lo hi sl Q I rx hs pl pu ⟨L, QL, hL, hd, k⟩
  · exact h' pins s σ H x v vl vu lo hi sl Q I rx hs pl pu ⟨L, QL, hL, hd, k⟩
end

/-! ### expressions -/
section
variable {X : Cx} {a b c e : Expr} {es rest : List Expr} {ta tb tc te : LTE} {t u : LTT} {tr : LTA} {pos : Pos}
def lVar (i : Nat) : LTE := fun σ L Q => ∃ v, σ[i]? = some (some v) ∧ Q v L
def lC (v : V) : LTE := fun _ L Q => Q v L
theorem lv (i : Nat) {x : Str} {pos : Pos} (hN : X.N[i]? = some x := by rfl) (hv : Vis X.env.scope x := by first | exact Or.inl rfl | exact Or.inr (Or.inl rfl) | exact Or.inr (Or.inr rfl)) (hd : (x == ("__debug__" : Str)) = false := by decide)
    (hcd : (x == ("__classdict__" : Str)) = false := by decide) : LE X (.Name x pos) (lVar i) :=
  PE.imp (pv i hN hv hd hcd) fun _ H _ ⟨_, _, hL, ⟨v, e, q⟩, k⟩ => ⟨v, e, k _ _ _ q hL⟩
theorem lc_of {v : V} (h : PE X e (tC v)) : LE X e (lC v) := PE.imp h fun _ _ _ ⟨_, _, hL, q, k⟩ => k _ _ _ q hL
theorem lint {i j pos} : LE X (.Constant (.int i) j pos) (lC (.int i)) := lc_of pe_int
theorem lbl {b j pos} : LE X (.Constant (.bool b) j pos) (lC (.bl b)) := lc_of pe_bl
theorem lnon {j pos} : LE X (.Constant .none j pos) (lC .non) := lc_of pe_non
theorem lstr {x j pos} : LE X (.Constant (.str x) j pos) (lC (.str x)) := lc_of pe_str
theorem lglob {x : Str} {v : V} {u : Value} {pos : Pos} (hg : Gl X x) (hm : X.mg x = some u) (r : RelV v u) (hd : (x == ("__debug__" : Str)) = false := by decide) : LE X (.Name x pos) (lC v) := lc_of (pe_glob hg hm r hd)
theorem lglobI {x : Str} {i : Int} {pos : Pos} (hg : Gl X x) (hm : ∃ t, X.mg x = some (.int i t)) (hd : (x == ("__debug__" : Str)) = false := by decide) : LE X (.Name x pos) (lC (.int i)) := by
  obtain ⟨t, e⟩ := hm
  exact lglob hg e ⟨t, rfl⟩ hd
theorem lbltn {x : Str} {v : V} {u : Value} {pos : Pos} (hg : Gl X x) (hm : X.mg x = none) (hv : bootBuiltins x = some u) (r : RelV v u) (hn : x ≠ "__name__" := by decide) (hd : (x == ("__debug__" : Str)) = false := by decide) : LE X (.Name x pos) (lC v) := lc_of (pe_bltn hg hm hv r hn hd)
def lOp (r : LR2) (ta tb : LTE) : LTE := fun σ L Q => ta σ L fun x L1 => tb σ L1 fun y L2 => r x y L2 Q
def lUn (r : LR1) (ta : LTE) : LTE := fun σ L Q => ta σ L fun x L1 => r x L1 Q
theorem up_op {r : LR2} {σ : St} {H : Hp} {Q : VK} (h : Up (lOp r ta tb σ) H Q) : Up (ta σ) H fun x H1 => Up (tb σ) H1 fun y H2 => Up (r x y) H2 Q := by
  obtain ⟨L, QL, hL, h, k⟩ := h
  exact ⟨L, _, hL, h, fun x L1 H1 h1 hL1 => ⟨L1, _, hL1, h1, fun y L2 H2 h2 hL2 => ⟨L2, QL, hL2, h2, k⟩⟩⟩
theorem up_un {r : LR1} {σ : St} {H : Hp} {Q : VK} (h : Up (lUn r ta σ) H Q) : Up (ta σ) H fun x H1 => Up (r x) H1 Q := by
  obtain ⟨L, QL, hL, h, k⟩ := h
  exact ⟨L, _, hL, h, fun x L1 H1 h1 hL1 => ⟨L1, QL, hL1, h1, k⟩⟩
theorem lop {op : Operator} {r : LR2} (ho : OpL X (binaryOp op) r) (ha : LE X a ta) (hb : LE X b tb) : LE X (.BinOp a op b pos) (lOp r ta tb) := PE.imp (pe_op ho ha hb) fun _ _ _ h => up_op h
theorem lun {op : UnaryOp} {r : LR1} (ho : UnL X (unaryOp op) r) (ha : LE X a ta) : LE X (.UnaryOp op a pos) (lUn r ta) := PE.imp (pe_un ho ha) fun _ _ _ h => up_un h
theorem lcmp {op : CmpOp} {r : LR2} (ho : OpL X (compareOp op) r) (ha : LE X a ta) (hb : LE X b tb) (hm : behindInMarks op b = false) : LE X (.Compare a [op] [b] pos) (lOp r ta tb) := PE.imp (pe_cmpR ho ha hb hm) fun _ _ _ h => up_op h
/-- a value as a test -/
def BlK (Q : Bool → Lg → Prop) : V → Lg → Prop := fun x L => ∃ k, x = .bl k ∧ Q k L
def lTest (t : LTE) : LTT := fun σ L Q => t σ L (BlK Q)
theorem lt_cmp {op : CmpOp} {r : LR2} (ho : OpL X (compareOp op) r) (ha : LE X a ta) (hb : LE X b tb) (hm : behindInMarks op b = false) : LT X (.Compare a [op] [b] pos) (lTest (lOp r ta tb)) := by
  refine PT.imp (pt_cmpR ho ha hb hm) fun σ H Q h => ?_
  obtain ⟨L, QL, hL, h, k⟩ := h
  refine up_op (r := r) (ta := ta) (tb := tb) (Q := fun x H' => ∃ k, x = .bl k ∧ Q k H') ⟨L, _, hL, h, ?_⟩
  rintro v L' H' ⟨b, rfl, q⟩ hL'
  exact ⟨b, rfl, k _ _ _ q hL'⟩
/-- chains -/
def lChain (r r' : LR2) (ta tb tc : LTE) : LTE := fun σ L Q => ta σ L fun x L1 => tb σ L1 fun y L2 => r x y L2 fun z L3 => ∃ k, z = .bl k ∧ (if k = true then tc σ L3 fun w' L4 => r' y w' L4 Q else Q (.bl false) L3)
theorem up_chain {r r' : LR2} {σ : St} {H : Hp} {Q : VK} (h : Up (lChain r r' ta tb tc σ) H Q) : Up (ta σ) H fun x H1 => Up (tb σ) H1 fun y H2 => Up (r x y) H2 fun z H3 => ∃ k, z = .bl k ∧ (if k = true then Up (tc σ) H3 fun w' H4 => Up (r' y w') H4 Q else Q (.bl false) H3) := by
  obtain ⟨L, QL, hL, h, k⟩ := h
  refine ⟨L, _, hL, h, fun x L1 H1 h1 hL1 => ⟨L1, _, hL1, h1, fun y L2 H2 h2 hL2 => ⟨L2, _, hL2, h2, ?_⟩⟩⟩
  rintro z L3 H3 ⟨b, rfl, q⟩ hL3
  refine ⟨b, rfl, ?_⟩
  cases b with
  | true => exact ⟨L3, _, hL3, q, fun w' L4 H4 h4 hL4 => ⟨L4, QL, hL4, h4, k⟩⟩
  | false => exact k _ _ _ q hL3
theorem lchain {op op' : CmpOp} {r r' : LR2} (ho : OpL X (compareOp op) r) (ho' : OpL X (compareOp op') r') (ha : LE X a ta) (hb : LE X b tb) (hc : LE X c tc) (hm : lastMarks [op, op'] [b, c] = false := by with_unfolding_all rfl) : LE X (.Compare a [op, op'] [b, c] pos) (lChain r r' ta tb tc) :=
  PE.imp (pe_chain ho ho' ha hb hc hm) fun _ _ _ h => up_chain h
theorem lt_chain {op op' : CmpOp} {r r' : LR2} (ho : OpL X (compareOp op) r) (ho' : OpL X (compareOp op') r') (ha : LE X a ta) (hb : LE X b tb) (hc : LE X c tc) (hm : lastMarks [op, op'] [b, c] = false := by with_unfolding_all rfl) : LT X (.Compare a [op, op'] [b, c] pos) (lTest (lChain r r' ta tb tc)) := by
  refine PT.imp (pt_chain ho ho' ha hb hc hm) fun σ H Q h => ?_
  obtain ⟨L, QL, hL, h, k⟩ := h
  refine up_chain (r := r) (r' := r') (ta := ta) (tb := tb) (tc := tc) (Q := fun x H' => ∃ k, x = .bl k ∧ Q k H') ⟨L, _, hL, h, ?_⟩
  rintro v L' H' ⟨b, rfl, q⟩ hL'
  exact ⟨b, rfl, k _ _ _ q hL'⟩
/-- an expression whose value is a bool, as a test -/
theorem lt_val (h : LE X e te) (he : ∀ whole, isTrue e X.env whole = (do let v ← whole; standAt e.pos; holding [v] (truthy v)) := by intro _; rfl) : LT X e (lTest te) := by
  refine PT.imp (pt_val h he) fun σ H Q h => ?_
  obtain ⟨L, QL, hL, h, k⟩ := h
  refine ⟨L, _, hL, h, ?_⟩
  rintro v L' H' ⟨b, rfl, q⟩ hL'
  exact ⟨b, rfl, k _ _ _ q hL'⟩
/-! and, or, not as tests -/
def lAnd (t u : LTT) : LTT := fun σ L Q => t σ L fun c L1 => if c = true then u σ L1 Q else Q false L1
def lOr (t u : LTT) : LTT := fun σ L Q => t σ L fun c L1 => if c = true then Q true L1 else u σ L1 Q
def lNot (t : LTT) : LTT := fun σ L Q => t σ L fun c L1 => Q (!c) L1
theorem lw_and1 (ha : LT X a t) : LW X (.BoolOp .And [a] pos) t := pw_and1 ha
theorem lw_or1 (ha : LT X a t) : LW X (.BoolOp .Or [a] pos) t := pw_or1 ha
theorem lw_and (ha : LT X a t) (hb : LW X (.BoolOp .And (b :: rest) pos) u) : LW X (.BoolOp .And (a :: b :: rest) pos) (lAnd t u) := by
  refine PW.imp (pw_and ha hb) fun σ H Q h => ?_
  obtain ⟨L, QL, hL, h, k⟩ := h
  refine ⟨L, _, hL, h, fun c L1 H1 h1 hL1 => ?_⟩
  cases c with
  | true => exact ⟨L1, QL, hL1, h1, k⟩
  | false => exact k _ _ _ h1 hL1
theorem lw_or (ha : LT X a t) (hb : LW X (.BoolOp .Or (b :: rest) pos) u) : LW X (.BoolOp .Or (a :: b :: rest) pos) (lOr t u) := by
  refine PW.imp (pw_or ha hb) fun σ H Q h => ?_
  obtain ⟨L, QL, hL, h, k⟩ := h
  refine ⟨L, _, hL, h, fun c L1 H1 h1 hL1 => ?_⟩
  cases c with
  | true => exact k _ _ _ h1 hL1
  | false => exact ⟨L1, QL, hL1, h1, k⟩
theorem LW.pt (h : LW X e t) : LT X e t := PW.pt h
theorem lt_not (ha : LT X a t) : LT X (.UnaryOp .Not a pos) (lNot t) := by
  refine PT.imp (pt_not ha) fun σ H Q h => ?_
  obtain ⟨L, QL, hL, h, k⟩ := h
  exact ⟨L, _, hL, h, fun c L1 H1 h1 hL1 => k _ _ _ h1 hL1⟩
/-! .. as values -/
def lAndV (ta tb : LTE) : LTE := fun σ L Q => ta σ L (BlK fun c L1 => if c = true then tb σ L1 Q else Q (.bl false) L1)
def lOrV (ta tb : LTE) : LTE := fun σ L Q => ta σ L (BlK fun c L1 => if c = true then Q (.bl true) L1 else tb σ L1 Q)
def lNotV (ta : LTE) : LTE := fun σ L Q => ta σ L (BlK fun c L1 => Q (.bl (!c)) L1)
theorem lone {op} (h : LE X a te) : LE X (.BoolOp op [a] pos) te := pe_one h
theorem land (ha : LE X a ta) (hb : LE X (.BoolOp .And (b :: rest) pos) tb) : LE X (.BoolOp .And (a :: b :: rest) pos) (lAndV ta tb) := by
  refine PE.imp (pe_and ha hb) fun σ H Q h => ?_
  obtain ⟨L, QL, hL, h, k⟩ := h
  refine ⟨L, _, hL, h, ?_⟩
  rintro v L' H' ⟨c, rfl, q⟩ hL'
  refine ⟨c, rfl, ?_⟩
  cases c with
  | true => exact ⟨L', QL, hL', q, k⟩
  | false => exact k _ _ _ q hL'
theorem lor (ha : LE X a ta) (hb : LE X (.BoolOp .Or (b :: rest) pos) tb) : LE X (.BoolOp .Or (a :: b :: rest) pos) (lOrV ta tb) := by
  refine PE.imp (pe_or ha hb) fun σ H Q h => ?_
  obtain ⟨L, QL, hL, h, k⟩ := h
  refine ⟨L, _, hL, h, ?_⟩
  rintro v L' H' ⟨c, rfl, q⟩ hL'
  refine ⟨c, rfl, ?_⟩
  cases c with
  | true => exact k _ _ _ q hL'
  | false => exact ⟨L', QL, hL', q, k⟩
theorem lnot (ha : LE X a ta) : LE X (.UnaryOp .Not a pos) (lNotV ta) := by
  refine PE.imp (pe_not ha) fun σ H Q h => ?_
  obtain ⟨L, QL, hL, h, k⟩ := h
  refine ⟨L, _, hL, h, ?_⟩
  rintro v L' H' ⟨c, rfl, q⟩ hL'
  exact ⟨c, rfl, k _ _ _ q hL'⟩
def lIfE (t : LTT) (ta tb : LTE) : LTE := fun σ L Q => t σ L fun c L1 => if c = true then ta σ L1 Q else tb σ L1 Q
theorem lifExp (hc : LT X c t) (ha : LE X a ta) (hb : LE X b tb) : LE X (.IfExp c a b pos) (lIfE t ta tb) := by
  refine PE.imp (pe_ifExp hc ha hb) fun σ H Q h => ?_
  obtain ⟨L, QL, hL, h, k⟩ := h
  refine ⟨L, _, hL, h, fun d L1 H1 h1 hL1 => ?_⟩
  cases d with
  | true => exact ⟨L1, QL, hL1, h1, k⟩
  | false => exact ⟨L1, QL, hL1, h1, k⟩
/-! arguments, displays -/
def lNil : LTA := fun _ L Q => Q [] L
def lCons (ta : LTE) (tr : LTA) : LTA := fun σ L Q => ta σ L fun x L1 => tr σ L1 fun xs L2 => Q (x :: xs) L2
theorem la_nil : LA X [] lNil := PA.imp pa_nil fun _ _ _ ⟨_, _, hL, q, k⟩ => k _ _ _ q hL
theorem la_cons (ha : LE X e te) (hr : LA X es tr) (hs : starEach (e :: es) X.env = (false, eval e X.env) :: starEach es X.env := by rfl) : LA X (e :: es) (lCons te tr) := by
  refine PA.imp (pa_cons ha hr hs) fun σ H Q h => ?_
  obtain ⟨L, QL, hL, h, k⟩ := h
  exact ⟨L, _, hL, h, fun x L1 H1 h1 hL1 => ⟨L1, _, hL1, h1, fun xs L2 H2 h2 hL2 => k _ _ _ h2 hL2⟩⟩
def lTup (t : LTA) : LTE := fun σ L Q => t σ L fun xs L1 => xs.length ≤ sizeLine ∧ ∀ p, p ∉ keys L1 → Q (.ref p) ([(p, .tup xs)] :: L1)
def lLst (t : LTA) : LTE := fun σ L Q => t σ L fun xs L1 => xs.length ≤ sizeLine ∧ ∀ p, p ∉ keys L1 → Q (.ref p) ([(p, .lst xs)] :: L1)
theorem ltup {x1} (h : LA X es tr) : LE X (.Tuple es x1 pos) (lTup tr) := by
  refine PE.imp (pe_tup h) fun σ H Q h => ?_
  obtain ⟨L, QL, hL, h, k⟩ := h
  exact ⟨L, _, hL, h, fun xs L1 H1 ⟨h1, h2⟩ hL1 => ⟨h1, fun p hp => k _ _ _ (h2 p (hL1.fresh hp)) (hL1.new hp)⟩⟩
theorem llst (h : LA X es tr) : LE X (.List es pos) (lLst tr) := by
  refine PE.imp (pe_lst h) fun σ H Q h => ?_
  obtain ⟨L, QL, hL, h, k⟩ := h
  exact ⟨L, _, hL, h, fun xs L1 H1 ⟨h1, h2⟩ hL1 => ⟨h1, fun p hp => k _ _ _ (h2 p (hL1.fresh hp)) (hL1.new hp)⟩⟩
/-! subscripts, slices -/
theorem lix {r : LR2} (hr : IxL X r) (ha : LE X a ta) (hb : LE X b tb) (hs : PlainIx b) : LE X (.Subscript a b pos) (lOp r ta tb) := PE.imp (pe_ix hr ha hb hs) fun _ _ _ h => up_op h
abbrev LTO := St → Lg → (Option Int → Lg → Prop) → Prop
def LO (X : Cx) (e : Option Expr) (t : LTO) : Prop := PO X e fun σ H Q => Up (t σ) H Q
def lNoPart : LTO := fun _ L Q => Q none L
def IntK (Q : Int → Lg → Prop) : V → Lg → Prop := fun x L => ∃ i, x = .int i ∧ Q i L
def lPart (t : LTE) : LTO := fun σ L Q => t σ L (IntK fun i L1 => Q (some i) L1)
theorem PO.imp {e : Option Expr} {t t' : TO} (p : PO X e t) (h : ∀ σ H Q, t' σ H Q → t σ H Q) : PO X e t' := ⟨fun pins s σ H Q I q => p.run pins s σ H Q I (h _ _ _ q)⟩
theorem lo_none : LO X none lNoPart := PO.imp po_none fun _ _ _ ⟨_, _, hL, q, k⟩ => k _ _ _ q hL
theorem lo_some (h : LE X e te) : LO X (some e) (lPart te) := by
  refine PO.imp (po_some h) fun σ H Q h => ?_
  obtain ⟨L, QL, hL, h, k⟩ := h
  refine ⟨L, _, hL, h, ?_⟩
  rintro v L' H' ⟨i, rfl, q⟩ hL'
  exact ⟨i, rfl, k _ _ _ q hL'⟩
def lSl (r : V → Option Int → Option Int → Lg → LVK → Prop) (te : LTE) (tl th : LTO) : LTE := fun σ L Q => te σ L fun x L1 => tl σ L1 fun l L2 => th σ L2 fun u L3 => r x l u L3 Q
theorem lslice {lo hi : Option Expr} {tl th : LTO} {p2 : Pos} {r : V → Option Int → Option Int → Lg → LVK → Prop} (hr : SlL X r) (he : LE X e te) (hl : LO X lo tl) (hu : LO X hi th) : LE X (.Subscript e (.Slice lo hi none p2) pos) (lSl r te tl th) := by
  refine PE.imp (pe_slice hr he hl hu) fun σ H Q h => ?_
  obtain ⟨L, QL, hL, h, k⟩ := h
  exact ⟨L, _, hL, h, fun x L1 H1 h1 hL1 => ⟨L1, _, hL1, h1, fun l L2 H2 h2 hL2 => ⟨L2, _, hL2, h2, fun u L3 H3 h3 hL3 => ⟨L3, QL, hL3, h3, k⟩⟩⟩⟩
/-! calls of built-ins -/
variable {x name : Str} {p apos cpos : Pos} {id T : String} {o : Expr} {to : LTE}
def lCB (r : LRC) (t : LTA) : LTE := fun σ L Q => t σ L fun vs L1 => r vs L1 Q
theorem up_cb {r : LRC} {σ : St} {H : Hp} {Q : VK} (h : Up (lCB r tr σ) H Q) : Up (tr σ) H fun vs H1 => Up (r vs) H1 Q := by
  obtain ⟨L, QL, hL, h, k⟩ := h
  exact ⟨L, _, hL, h, fun x L1 H1 h1 hL1 => ⟨L1, QL, hL1, h1, k⟩⟩
theorem lcallB {r : LRC} (hc : CallL X (.builtin id) r) (hg : Gl X x) (hm : X.mg x = none) (hv : bootBuiltins x = some (.builtin id)) (ha : LA X (e :: es) tr) (hn : x ≠ "__name__" := by decide) (hdb : (x == ("__debug__" : Str)) = false := by decide)
    (he : starEach (e :: es) X.env = (false, eval e X.env) :: starEach es X.env := by rfl) (hpl : (backTo pos (starEach es X.env)).any (·.1) = false := by rfl) : LE X (.Call (.Name x p) (e :: es) [] pos) (lCB r tr) :=
  PE.imp (pe_callB hc hg hm hv ha hn hdb he hpl) fun _ _ _ h => up_cb h
theorem lcallTy {r : LRC} (hc : CallL X (.type T) r) (hg : Gl X x) (hm : X.mg x = none) (hv : bootBuiltins x = some (.type T)) (ha : LA X (e :: es) tr) (hn : x ≠ "__name__" := by decide) (hdb : (x == ("__debug__" : Str)) = false := by decide)
    (he : starEach (e :: es) X.env = (false, eval e X.env) :: starEach es X.env := by rfl) (hpl : (backTo pos (starEach es X.env)).any (·.1) = false := by rfl) : LE X (.Call (.Name x p) (e :: es) [] pos) (lCB r tr) :=
  PE.imp (pe_callTy hc hg hm hv ha hn hdb he hpl) fun _ _ _ h => up_cb h
/-- the value is of that built-in type, by the ledger -/
def TyL (K : PySem.W.Frag) (T : String) (x : V) (L : Lg) : Prop := ∀ H, Led H L → tyV K T x H
def lBM0 (K : PySem.W.Frag) (T : String) (r : V → LRC) (to : LTE) : LTE := fun σ L Q => to σ L fun x L1 => TyL K T x L1 ∧ r x [] L1 Q
def lBM (K : PySem.W.Frag) (T : String) (r : V → LRC) (to : LTE) (t : LTA) : LTE := fun σ L Q => to σ L fun x L1 => TyL K T x L1 ∧ t σ L1 fun xs L2 => r x xs L2 Q
theorem lbm0 {r : V → LRC} (pa : PlainAttrs T) (slot : Slot T name id) (hty : typeOf (.builtin id) = pure (.type "method_descriptor")) (hm : MtL X id r) (ho : LE X o to)
    (hbase : attributeBase o name X.env (eval o X.env) = eval o X.env := by rfl) (hline : (apos.endLine == cpos.line) = true := by rfl) : LE X (.Call (.Attribute o name apos) [] [] cpos) (lBM0 X.K T r to) := by
  refine PE.imp (pe_bm0 pa slot hty hm ho hbase hline) fun σ H Q h => ?_
  obtain ⟨L, QL, hL, h, k⟩ := h
  exact ⟨L, _, hL, h, fun x L1 H1 ⟨h1, h2⟩ hL1 => ⟨h1 H1 hL1, L1, QL, hL1, h2, k⟩⟩
theorem lbm {r : V → LRC} (pa : PlainAttrs T) (slot : Slot T name id) (hty : typeOf (.builtin id) = pure (.type "method_descriptor")) (hm : MtL X id r) (ho : LE X o to) (ha : LA X (e :: es) tr)
    (hbase : attributeBase o name X.env (eval o X.env) = eval o X.env := by rfl)
    (hfew : ((backTo cpos (starEach (e :: es) X.env)).all (fun x => !x.1) && (backToKw cpos (keywordEach [] X.env)).all (fun x => x.1.isSome)
      && decide ((e :: es).length + ([] : List Keyword).length + (if ([] : List Keyword).isEmpty then 0 else 1) < 30)) = true := by rfl)
    (hline : (apos.endLine == cpos.line) = true := by rfl) (hs : starEach (e :: es) X.env = (false, eval e X.env) :: starEach es X.env := by rfl) (hplain : (backTo cpos (starEach es X.env)).any (·.1) = false := by rfl) :
    LE X (.Call (.Attribute o name apos) (e :: es) [] cpos) (lBM X.K T r to tr) := by
  refine PE.imp (pe_bm pa slot hty hm ho ha hbase hfew hline hs hplain) fun σ H Q h => ?_
  obtain ⟨L, QL, hL, h, k⟩ := h
  exact ⟨L, _, hL, h, fun x L1 H1 ⟨h1, h2⟩ hL1 => ⟨h1 H1 hL1, L1, _, hL1, h2, fun xs L2 H2 h2 hL2 => ⟨L2, QL, hL2, h2, k⟩⟩⟩
/-! fields -/
/-- x has the field f with the value v: an instance that stands in the ledger -/
def FldL (K : PySem.W.Frag) (f : Str) (x : V) (L : Lg) (Q : LVK) : Prop := Dn (fun H Q => ∃ a C dx fs v, x = .ref a ∧ H a = some (.ins C dx fs) ∧ Cls K C ∧ NoAttr K C f ∧ fs.lookup f = some v ∧ Q v H) L Q
def lFld (K : PySem.W.Frag) (ta : LTE) (f : Str) : LTE := fun σ L Q => ta σ L fun x L1 => FldL K f x L1 Q
theorem lfld {f : Str} (he : LE X e te) (hb : attributeBase e f X.env (eval e X.env) = eval e X.env := by rfl) : LE X (.Attribute e f pos) (lFld X.K te f) := by
  refine PE.imp (pe_fld he hb) fun σ H Q h => ?_
  obtain ⟨L, QL, hL, h, k⟩ := h
  refine ⟨L, _, hL, h, fun x L1 H1 h1 hL1 => ?_⟩
  obtain ⟨a, C, dx, fs, v, e1, e2, e3, e4, e5, L', h1, h2⟩ := h1 H1 hL1
  exact ⟨a, C, dx, fs, v, e1, e2, e3, e4, e5, k _ _ _ h2 h1⟩
/-! truth -/
def lTru (r : V → Lg → (Bool → Lg → Prop) → Prop) (ta : LTE) : LTT := fun σ L Q => ta σ L fun x L1 => r x L1 Q
def gTru (K : PySem.W.Frag) : V → Lg → (Bool → Lg → Prop) → Prop := fun x L Q => Dn (fun H Q => ∃ k, TruV K x H k ∧ Q k H) L Q
theorem lt_truth (ha : LE X a ta) (he : ∀ whole, isTrue a X.env whole = (do let v ← whole; standAt a.pos; holding [v] (truthy v)) := by intro _; rfl) : LT X a (lTru (gTru X.K) ta) := by
  refine PT.imp (pt_truth ha he) fun σ H Q h => ?_
  obtain ⟨L, QL, hL, h, k⟩ := h
  refine ⟨L, _, hL, h, fun x L1 H1 h1 hL1 => ?_⟩
  obtain ⟨b, h2, L', h3, h4⟩ := h1 H1 hL1
  exact ⟨b, h2, k _ _ _ h4 h3⟩
end
end VM

end

section
namespace VM
open PySem PySem.Spec L2
open PyProof.Rows hiding St

/-! ### calls of defs -/
abbrev LXK := Value → Option Addr → Lg → Prop
abbrev LSp := List V → Lg → LVK → LXK → Prop
def UpP (sp : LSp) : Sp := fun vs H Q E => ∃ L QL EL, Led H L ∧ sp vs L QL EL ∧ (∀ v L' H', QL v L' → Led H' L' → Q v H') ∧ (∀ c d L' H', EL c d L' → Led H' L' → E c d H')
def DnX (E : LXK) : XK := fun c d H => ∃ L, Led H L ∧ E c d L
def noX : LXK := fun _ _ _ => False
theorem UpP.len {sp : LSp} {n : Nat} (h : ∀ vs L Q E, sp vs L Q E → vs.length = n) : ∀ vs H Q E, UpP sp vs H Q E → vs.length = n := fun _ _ _ _ ⟨_, _, _, _, h1, _⟩ => h _ _ _ _ h1
/-- a def that lets nothing out may stand where one may -/
theorem FnOk.cx {P : Program} {w : World} {K : PySem.W.Frag} {mg : Str → Option Value} {base : Heap} {CX' : CXT} {k : Nat} {f : Addr} {fd : FuncData} {ps : List Str} {sp : Sp} (F : FnOk P w K mg base CX0 k f fd ps sp) : FnOk P w K mg base CX' k f fd ps sp :=
  ⟨F.len, fun A outer s H args us vs Q E hr e0 hb hv hs => codeAny_mono (F.run A outer s H args us vs Q E hr e0 hb hv hs) fun r s' q => by
    cases r with
    | ok fl => cases fl <;> exact q
    | error e => exact q.elim⟩
section
variable {X : Cx} {CXx : CXT} {k : Nat} {f C : Addr} {fd : FuncData} {ps : List Str} {sp : LSp} {dvs : List V} {ds : List Value} {E : LXK} {x m : Str} {p pos apos : Pos} {e o : Expr} {es : List Expr} {ta te : LTE} {t : LTA}
def lCall (sp : LSp) (dvs : List V) (E : LXK) (t : LTA) : LTE := fun σ L Q => t σ L fun vs L1 => sp (vs ++ dvs) L1 Q E
/-- x is an instance of C that has no attribute m of its own -/
def ObjL (C : Addr) (m : Str) (x : V) (L : Lg) : Prop := ∀ H, Led H L → ∃ a dx fs, x = .ref a ∧ H a = some (.ins C dx fs) ∧ fs.lookup m = none
def lMeth (C : Addr) (m : Str) (sp : LSp) (dvs : List V) (E : LXK) (ta : LTE) (t : LTA) : LTE := fun σ L Q => ta σ L fun x L1 => ObjL C m x L1 ∧ t σ L1 fun vs L2 => sp (x :: (vs ++ dvs)) L2 Q E
def lMake (C : Addr) (sp : LSp) (dvs : List V) (E : LXK) (t : LTA) : LTE := fun σ L Q => t σ L fun vs L1 => ∀ x dx, x ∉ keys L1 → sp (.ref x :: (vs ++ dvs)) ([(x, .ins C dx [])] :: L1) (fun v L2 => v = .non ∧ Q (.ref x) L2) E
theorem up_call {σ : St} {H : Hp} {Q : VK} (h : Up (lCall sp dvs E t σ) H Q) : Up (t σ) H fun vs H1 => UpP sp (vs ++ dvs) H1 Q (DnX E) := by
  obtain ⟨L, QL, hL, h, k⟩ := h
  exact ⟨L, _, hL, h, fun vs L1 H1 h1 hL1 => ⟨L1, QL, E, hL1, h1, k, fun c d L' H' q l => ⟨L', l, q⟩⟩⟩
theorem lcall (F : FnOk X.prog X.w X.K X.mg X.base CXx k f fd ps (UpP sp)) (hr : Room k X.A) (hg : Gl X x) (hm : X.mg x = some (.ref f)) (hk : PySem.W.keepIn X.K (.ref f) = true) (hb : Binds X.K fd ps ds) (hd : Vals dvs ds) (hx : Passes CXx X (DnX E))
    (ha : LA X (e :: es) t) (hdb : (x == ("__debug__" : Str)) = false := by decide) (he : starEach (e :: es) X.env = (false, eval e X.env) :: starEach es X.env := by rfl) (hpl : (backTo pos (starEach es X.env)).any (·.1) = false := by rfl) :
    LE X (.Call (.Name x p) (e :: es) [] pos) (lCall sp dvs E t) := PE.imp (pe_call F hr hg hm hk hb hd hx ha hdb he hpl) fun _ _ _ h => up_call h
theorem lcall0 (F : FnOk X.prog X.w X.K X.mg X.base CXx k f fd ps (UpP sp)) (hr : Room k X.A) (hg : Gl X x) (hm : X.mg x = some (.ref f)) (hk : PySem.W.keepIn X.K (.ref f) = true) (hb : Binds X.K fd ps ds) (hd : Vals dvs ds) (hx : Passes CXx X (DnX E))
    (hdb : (x == ("__debug__" : Str)) = false := by decide) : LE X (.Call (.Name x p) [] [] pos) (lCall sp dvs E lNil) := PE.imp (pe_call0 F hr hg hm hk hb hd hx hdb) fun σ H Q h => by
  obtain ⟨L, QL, hL, h, k⟩ := h
  exact ⟨L, QL, E, hL, h, k, fun c d L' H' q l => ⟨L', l, q⟩⟩
theorem passN {X : Cx} : Passes CX0 X (DnX E) := fun _ _ _ _ _ _ _ h => h.elim
theorem lmeth {pl : Sem Bool} (he : LE X o ta) (c : Cls X.K C) (hm : Meth X.K C m f) (F : FnOk X.prog X.w X.K X.mg X.base CXx k f fd ps (UpP sp)) (hr : Room k X.A) (hb : Binds X.K fd ps ds) (hd : Vals dvs ds) (hx : Passes CXx X (DnX E)) (ha : LA X (e :: es) t)
    (hst : starEach (e :: es) X.env = (false, eval e X.env) :: starEach es X.env := by rfl) (hpl : (backTo pos (starEach es X.env)).any (·.1) = false := by rfl)
    (ht : eval (.Call (.Attribute o m apos) (e :: es) [] pos) X.env = (do
      let ov ← eval o X.env
      standAt apos.atName
      let (f, first) ← holding [ov] (getMethod ov m pl)
      callWith pos f first (backTo pos (starEach (e :: es) X.env)) (backToKw pos (keywordEach [] X.env))) := by rfl) :
    LE X (.Call (.Attribute o m apos) (e :: es) [] pos) (lMeth C m sp dvs E ta t) := by
  refine PE.imp (pe_meth he c hm F hr hb hd hx ha hst hpl ht) fun σ H Q h => ?_
  obtain ⟨L, QL, hL, h, k⟩ := h
  refine ⟨L, _, hL, h, fun x L1 H1 ⟨h1, h2⟩ hL1 => ?_⟩
  obtain ⟨a, dx, fs, e1, e2, e3⟩ := h1 H1 hL1
  exact ⟨a, dx, fs, e1, e2, e3, L1, _, hL1, h2, fun vs L2 H2 h3 hL2 => ⟨L2, QL, E, hL2, h3, k, fun c d L' H' q l => ⟨L', l, q⟩⟩⟩
theorem lmeth0 {pl : Sem Bool} (he : LE X o ta) (c : Cls X.K C) (hm : Meth X.K C m f) (F : FnOk X.prog X.w X.K X.mg X.base CXx k f fd ps (UpP sp)) (hr : Room k X.A) (hb : Binds X.K fd ps ds) (hd : Vals dvs ds) (hx : Passes CXx X (DnX E))
    (ht : eval (.Call (.Attribute o m apos) [] [] pos) X.env = (do
      let ov ← eval o X.env
      standAt apos.atName
      let (f, first) ← holding [ov] (getMethod ov m pl)
      callWith pos f first (backTo pos (starEach [] X.env)) (backToKw pos (keywordEach [] X.env))) := by rfl) :
    LE X (.Call (.Attribute o m apos) [] [] pos) (lMeth C m sp dvs E ta lNil) := by
  refine PE.imp (pe_meth0 he c hm F hr hb hd hx ht) fun σ H Q h => ?_
  obtain ⟨L, QL, hL, h, k⟩ := h
  refine ⟨L, _, hL, h, fun x L1 H1 ⟨h1, h2⟩ hL1 => ?_⟩
  obtain ⟨a, dx, fs, e1, e2, e3⟩ := h1 H1 hL1
  exact ⟨a, dx, fs, e1, e2, e3, L1, QL, E, hL1, h2, k, fun c d L' H' q l => ⟨L', l, q⟩⟩
theorem led_ins {H1 : Hp} {L1 : Lg} {C x dx : Addr} (hL : Led H1 L1) (nx : H1 x = none) (nd : H1 dx = none) (ne : dx ≠ x) : Led (upd (upd H1 dx (.own x)) x (.ins C dx [])) ([(x, .ins C dx [])] :: L1) := by
  have h2 : Led (upd H1 dx (.own x)) L1 := Lic.tail _ (hL.new nd)
  exact h2.new (by rw [upd_ne (Ne.symm ne)]; exact nx)
theorem lmake (M : Mk X.K C f) (F : FnOk X.prog X.w X.K X.mg X.base CXx k f fd ps (UpP sp)) (hr : Room (k + 1) X.A) (hg : Gl X x) (hm : X.mg x = some (.ref C)) (hb : Binds X.K fd ps ds) (hd : Vals dvs ds) (hx : Passes CXx X (DnX E))
    (ha : LA X (e :: es) t) (hdb : (x == ("__debug__" : Str)) = false := by decide) (he : starEach (e :: es) X.env = (false, eval e X.env) :: starEach es X.env := by rfl) (hpl : (backTo pos (starEach es X.env)).any (·.1) = false := by rfl) :
    LE X (.Call (.Name x p) (e :: es) [] pos) (lMake C sp dvs E t) := by
  refine PE.imp (pe_make M F hr hg hm hb hd hx ha hdb he hpl) fun σ H Q h => ?_
  obtain ⟨L, QL, hL, h, k⟩ := h
  refine ⟨L, _, hL, h, fun vs L1 H1 h1 hL1 y dx ny nd ne => ?_⟩
  exact ⟨_, _, E, led_ins hL1 ny nd ne, h1 y dx (hL1.fresh ny), fun v L' H' ⟨q1, q2⟩ l => ⟨q1, k _ _ _ q2 l⟩, fun c d L' H' q l => ⟨L', l, q⟩⟩
end

/-! ### statements -/
structure LEnds where
  nx : St → Lg → Prop
  rt : LVK
  bk : St → Lg → Prop := fun _ _ => False
  ct : St → Lg → Prop := fun _ _ => False
abbrev LTS := LEnds → St → Lg → Prop
/-- the ledger may be told otherwise -/
def Wk (P : Lg → Prop) (L : Lg) : Prop := ∃ L', Lic L L' ∧ P L'
theorem Wk.go {P : Lg → Prop} {L : Lg} (h : P L) : Wk P L := ⟨L, .refl, h⟩
theorem Wk.by_ {P : Lg → Prop} {L L' : Lg} (l : Lic L L') (h : P L') : Wk P L := ⟨L', l, h⟩
def LEnds.lic (D : LEnds) : LEnds := ⟨fun σ => Wk (D.nx σ), fun v => Wk (D.rt v), fun σ => Wk (D.bk σ), fun σ => Wk (D.ct σ)⟩
structure EndsUp (DL : LEnds) (D : Ends) : Prop where
  nx : ∀ σ L H, DL.nx σ L → Led H L → D.nx σ H
  rt : ∀ v L H, DL.rt v L → Led H L → D.rt v H
  bk : ∀ σ L H, DL.bk σ L → Led H L → D.bk σ H
  ct : ∀ σ L H, DL.ct σ L → Led H L → D.ct σ H
theorem EndsUp.lic {DL : LEnds} {D : Ends} (k : EndsUp DL D) : EndsUp DL.lic D :=
  ⟨fun _ _ _ ⟨_, l, q⟩ h => k.nx _ _ _ q (l _ h), fun _ _ _ ⟨_, l, q⟩ h => k.rt _ _ _ q (l _ h), fun _ _ _ ⟨_, l, q⟩ h => k.bk _ _ _ q (l _ h), fun _ _ _ ⟨_, l, q⟩ h => k.ct _ _ _ q (l _ h)⟩
def UpS (t : LTS) : TS := fun D σ H => ∃ L DL, Led H L ∧ t DL σ L ∧ EndsUp DL D
def LS (X : Cx) (st : Stmt) (t : LTS) : Prop := PS X st (UpS t)
def LSs (X : Cx) (sts : List Stmt) (t : LTS) : Prop := PSs X sts (UpS t)
abbrev LTG := V → St → Lg → (St → Lg → Prop) → Prop
abbrev LTGs := List V → St → Lg → (St → Lg → Prop) → Prop
def UpG {α : Type} (g : α → St → Lg → (St → Lg → Prop) → Prop) : α → St → Hp → (St → Hp → Prop) → Prop := fun v σ H Q => ∃ L QL, Led H L ∧ g v σ L QL ∧ ∀ σ' L' H', QL σ' L' → Led H' L' → Q σ' H'
def LG (X : Cx) (tg : Expr) (g : LTG) : Prop := PG X tg (UpG g)
def LGs (X : Cx) (tgs : List Expr) (g : LTGs) : Prop := PGs X tgs (UpG g)
section
variable {X : Cx} {st : Stmt} {rest sts : List Stmt} {t u : LTS} {e : Expr} {te : LTE} {pos : Pos} {g : LTG} {gs : LTGs}
theorem PS.imp {t t' : TS} (p : PS X st t) (h : ∀ D σ H, t' D σ H → t D σ H) : PS X st t' := ⟨fun pins s σ H D I q => p.run pins s σ H D I (h _ _ _ q)⟩
theorem PSs.imp {t t' : TS} (p : PSs X sts t) (h : ∀ D σ H, t' D σ H → t D σ H) : PSs X sts t' := ⟨fun pins s σ H D I q => p.run pins s σ H D I (h _ _ _ q)⟩
theorem PG.imp {tg : Expr} {t t' : TG} (p : PG X tg t) (h : ∀ v σ H Q, t' v σ H Q → t v σ H Q) : PG X tg t' := ⟨fun pins s σ H v u Q I r q => p.run pins s σ H v u Q I r (h _ _ _ _ q)⟩
theorem PGs.imp {tg : List Expr} {t t' : TGs} (p : PGs X tg t) (h : ∀ v σ H Q, t' v σ H Q → t v σ H Q) : PGs X tg t' := ⟨fun pins s σ H v u Q I r q => p.run pins s σ H v u Q I r (h _ _ _ _ q)⟩
theorem LSs.nox (h : LSs X.nox sts t) : LSs X sts t := PSs.nox h
def lNext : LTS := fun D σ L => D.nx σ L
def lSeq (t u : LTS) : LTS := fun D σ L => t { D.lic with nx := fun σ' => Wk (u D σ') } σ L
def lLast (t : LTS) : LTS := fun D σ L => t D.lic σ L
theorem lss_nil : LSs X [] lNext := PSs.imp pss_nil fun _ _ _ ⟨_, _, hL, q, k⟩ => k.nx _ _ _ q hL
theorem lss_cons (h1 : LS X st t) (h2 : LSs X rest u) : LSs X (st :: rest) (lSeq t u) := by
  refine PSs.imp (pss_cons h1 h2) fun D σ H h => ?_
  obtain ⟨L, DL, hL, h, k⟩ := h
  exact ⟨L, _, hL, h, ⟨fun σ' L' H' ⟨L2, l, q⟩ hL' => ⟨L2, DL, l _ hL', q, k⟩, k.lic.rt, k.lic.bk, k.lic.ct⟩⟩
theorem lss_one (h1 : LS X st t) : LSs X [st] (lLast t) := by
  refine PSs.imp (pss_one h1) fun D σ H h => ?_
  obtain ⟨L, DL, hL, h, k⟩ := h
  exact ⟨L, _, hL, h, k.lic⟩
def lBreak : LTS := fun D σ L => D.bk σ L
def lCont : LTS := fun D σ L => D.ct σ L
theorem ls_pass : LS X (.Pass pos) lNext := PS.imp ps_pass fun _ _ _ ⟨_, _, hL, q, k⟩ => k.nx _ _ _ q hL
theorem ls_break : LS X (.Break pos) lBreak := PS.imp ps_break fun _ _ _ ⟨_, _, hL, q, k⟩ => k.bk _ _ _ q hL
theorem ls_continue : LS X (.Continue pos) lCont := PS.imp ps_continue fun _ _ _ ⟨_, _, hL, q, k⟩ => k.ct _ _ _ q hL
def lDrop (te : LTE) : LTS := fun D σ L => te σ L fun _ L1 => D.nx σ L1
theorem ls_expr (he : LE X e te) (hs : swapsWith e none pos.line X.env = pure false := by rfl) : LS X (.Expr e pos) (lDrop te) := by
  refine PS.imp (ps_expr he hs) fun D σ H h => ?_
  obtain ⟨L, DL, hL, h, k⟩ := h
  exact ⟨L, _, hL, h, fun v L' H' q l => k.nx _ _ _ q l⟩
def lRet (te : LTE) : LTS := fun D σ L => te σ L D.rt
theorem ls_ret (he : LE X e te) : LS X (.Return (some e) pos) (lRet te) := by
  refine PS.imp (ps_ret he) fun D σ H h => ?_
  obtain ⟨L, DL, hL, h, k⟩ := h
  exact ⟨L, _, hL, h, fun v L' H' q l => k.rt _ _ _ q l⟩
def lRetN : LTS := fun D _ L => D.rt .non L
theorem ls_retN : LS X (.Return none pos) lRetN := PS.imp ps_retN fun _ _ _ ⟨_, _, hL, q, k⟩ => k.rt _ _ _ q hL
def lIf (c : LTT) (t u : LTS) : LTS := fun D σ L => c σ L fun b L1 => if b = true then t D σ L1 else u D σ L1
theorem ls_if {c : Expr} {a b : List Stmt} {tc : LTT} (hc : LT X c tc) (ha : LSs X a t) (hb : LSs X b u) : LS X (.If c a b pos) (lIf tc t u) := by
  refine PS.imp (ps_if hc ha hb) fun D σ H h => ?_
  obtain ⟨L, DL, hL, h, k⟩ := h
  refine ⟨L, _, hL, h, fun d L' H' q l => ?_⟩
  cases d with
  | true => exact ⟨L', DL, l, q, k⟩
  | false => exact ⟨L', DL, l, q, k⟩
def lNever : LTS := fun _ _ _ => False
theorem ls_never : LS X st lNever := PS.imp ps_never fun _ _ _ ⟨_, _, _, q, _⟩ => q
theorem lss_never : LSs X sts lNever := PSs.imp pss_never fun _ _ _ ⟨_, _, _, q, _⟩ => q
/-! targets -/
def hName (i : Nat) : LTG := fun v σ L Q => Q (σ.set i (some v)) L
theorem lg_name (i : Nat) {x : Str} (hN : X.N.Nodup) (hi : X.N[i]? = some x := by rfl) (hx : Loc X.env.scope x := by first | exact Or.inl rfl | exact Or.inr rfl) (hf : X.fn x = true ∨ X.env.scope.names.lookup x = some .local := by first | exact .inl rfl | exact .inr rfl | assumption) : LG X (.Name x pos) (hName i) :=
  PG.imp (pg_name hN hi hx hf) fun _ _ _ _ ⟨_, _, hL, q, k⟩ => k _ _ _ q hL
def hNil : LTGs := fun vs σ L Q => vs = [] ∧ Q σ L
def hCons (t : LTG) (u : LTGs) : LTGs := fun vs σ L Q => ∃ v r, vs = v :: r ∧ t v σ L fun σ' L' => u r σ' L' Q
theorem lgs_nil : LGs X [] hNil := PGs.imp pgs_nil fun _ _ _ _ ⟨_, _, hL, ⟨q1, q2⟩, k⟩ => ⟨q1, k _ _ _ q2 hL⟩
theorem lgs_cons {e : Expr} {es : List Expr} (h1 : LG X e g) (h2 : LGs X es gs) (hs : (assignEach (e :: es) X.env).map (·.2) = assign e X.env :: (assignEach es X.env).map (·.2) := by rfl) : LGs X (e :: es) (hCons g gs) := by
  refine PGs.imp (pgs_cons h1 h2 hs) fun v σ H Q h => ?_
  obtain ⟨L, QL, hL, ⟨v, r, e1, h⟩, k⟩ := h
  exact ⟨v, r, e1, L, _, hL, h, fun σ' L' H' q l => ⟨L', QL, l, q, k⟩⟩
/-- a tuple, a list that is read, by the ledger -/
def IsT (K : PySem.W.Frag) (L : Lg) (a : Addr) (xs : List V) : Prop := ∀ H, Led H L → SqT K H a xs
def IsL (K : PySem.W.Frag) (L : Lg) (a : Addr) (xs : List V) : Prop := ∀ H, Led H L → SqL K H a xs
def hTup (K : PySem.W.Frag) (n : Nat) (t : LTGs) : LTG := fun v σ L Q => ∃ a xs, v = .ref a ∧ (IsT K L a xs ∨ IsL K L a xs) ∧ xs.length = n ∧ t xs σ L Q
theorem lg_tup {es : List Expr} {k : Nat} {n : Nat} (hc : X.calm = true) (h : LGs X es gs) (hn : (assignEach es X.env).length = n := by rfl) (hst : (assignEach es X.env).findIdx? (·.1) = none := by rfl) : LG X (.Tuple es k pos) (hTup X.K n gs) := by
  refine ⟨fun pins s σ H v u Q I r q => ?_⟩
  obtain ⟨L, QL, hL, ⟨a, xs, e1, h1, h2, h3⟩, k⟩ := q
  rcases h1 with h1 | h1
  · exact (pg_tup hc h hn hst).run pins s σ H v u Q I r ⟨a, xs, e1, h1 H hL, h2, L, QL, hL, h3, k⟩
  · exact (pg_lst hc h hn hst).run pins s σ H v u Q I r ⟨a, xs, e1, h1 H hL, h2, L, QL, hL, h3, k⟩
theorem lg_lst {es : List Expr} {k : Nat} {n : Nat} (hc : X.calm = true) (h : LGs X es gs) (hn : (assignEach es X.env).length = n := by rfl) (hst : (assignEach es X.env).findIdx? (·.1) = none := by rfl) : LG X (.Tuple es k pos) (fun v σ L Q => ∃ a xs, v = .ref a ∧ IsL X.K L a xs ∧ xs.length = n ∧ gs xs σ L Q) := by
  refine PG.imp (pg_lst hc h hn hst) fun v σ H Q h => ?_
  obtain ⟨L, QL, hL, ⟨a, xs, e1, h1, h2, h3⟩, k⟩ := h
  exact ⟨a, xs, e1, h1 H hL, h2, L, QL, hL, h3, k⟩
abbrev LTSet := V → V → V → Lg → (Lg → Prop) → Prop
def SetL (X : Cx) (t : LTSet) : Prop := PSet X fun o i v H Q => ∃ L QL, Led H L ∧ t o i v L QL ∧ ∀ L' H', QL L' → Led H' L' → Q H'
def hSub (to ti : LTE) (t : LTSet) : LTG := fun v σ L Q => to σ L fun o L1 => ti σ L1 fun i L2 => t o i v L2 fun L3 => Q σ L3
theorem lg_sub {o i : Expr} {to ti : LTE} {t : LTSet} (ho : LE X o to) (hi : LE X i ti) (hs : SetL X t)
    (ha : ∀ v, assign (.Subscript o i pos) X.env v = (do
      let ov ← holding [v] (eval o X.env)
      let iv ← holding [v, ov] (eval i X.env)
      standAt pos
      holding [v, ov, iv] (setItem ov iv v)
      release [v, ov, iv] []) := by intro _; rfl) : LG X (.Subscript o i pos) (hSub to ti t) := by
  refine PG.imp (pg_sub ho hi hs ha) fun v σ H Q h => ?_
  obtain ⟨L, QL, hL, h, k⟩ := h
  exact ⟨L, _, hL, h, fun x L1 H1 h1 hL1 => ⟨L1, _, hL1, h1, fun y L2 H2 h2 hL2 => ⟨L2, _, hL2, h2, fun L3 H3 h3 hL3 => k _ _ _ h3 hL3⟩⟩⟩
theorem SetL.of {r : TSet} (h : PSet X r) : SetL X (fun o i v L Q => ∀ H, Led H L → r o i v H fun H' => ∃ L', Led H' L' ∧ Q L') := by
  intro pins s σ H o i v ov iv u Q I r1 r2 r3 q
  obtain ⟨L, QL, hL, hd, k⟩ := q
  exact wpAny_mono (h pins s σ H o i v ov iv u _ I r1 r2 r3 (hd H hL)) (fun a s' ⟨H', I', L', l, q⟩ => ⟨H', I', k _ _ q l⟩) fun _ _ z => z
theorem SetL.or {t t' : LTSet} (h : SetL X t) (h' : SetL X t') : SetL X (fun o i v L Q => t o i v L Q ∨ t' o i v L Q) := by
  intro pins s σ H o i v ov iv u Q I r1 r2 r3 q
  obtain ⟨L, QL, hL, hd, k⟩ := q
  rcases hd with hd | hd
  · exact h pins s σ H o i v ov iv u Q I r1 r2 r3 ⟨L, QL, hL, hd, k⟩
  · exact h' pins s σ H o i v ov iv u Q I r1 r2 r3 ⟨L, QL, hL, hd, k⟩
def lAsg (te : LTE) (g : LTG) : LTS := fun D σ L => te σ L fun x L1 => g x σ L1 D.nx
theorem ls_asg {tg e : Expr} (he : LE X e te) (hg : LG X tg g) (hs : swapsWithSole [tg] e pos.line X.env = pure false := by rfl) (hw : swappedStores [tg] e X.env = pure none := by rfl)
    (h1 : (assignEach [tg] X.env).map (·.2) = [assign tg X.env] := by rfl) : LS X (.Assign [tg] e pos) (lAsg te g) := by
  refine PS.imp (ps_asg he hg hs hw h1) fun D σ H h => ?_
  obtain ⟨L, DL, hL, h, k⟩ := h
  exact ⟨L, _, hL, h, fun x L1 H1 h1 hL1 => ⟨L1, DL.nx, hL1, h1, k.nx⟩⟩
theorem ls_set (i : Nat) {x : Str} {pos' : Pos} (hN : X.N.Nodup) (he : LE X e te) (hi : X.N[i]? = some x := by rfl) (hx : Loc X.env.scope x := by first | exact Or.inl rfl | exact Or.inr rfl) (hs : swapsWith e (some (.Name x pos')) pos.line X.env = pure false := by rfl) (hf : X.fn x = true ∨ X.env.scope.names.lookup x = some .local := by first | exact .inl rfl | exact .inr rfl | assumption) :
    LS X (.Assign [.Name x pos'] e pos) (lAsg te (hName i)) := by
  refine PS.imp (ps_set hN hi hx he hs hf) fun D σ H h => ?_
  obtain ⟨L, DL, hL, h, k⟩ := h
  exact ⟨L, _, hL, h, fun x L1 H1 h1 hL1 => k.nx _ _ _ h1 hL1⟩
/-! fields stored -/
/-- the object at x of the ledger gets its field f -/
def SetFL (K : PySem.W.Frag) (f : Str) (x y : V) (L : Lg) (Q : Lg → Prop) : Prop := ∀ H, Led H L → ∃ a C dx fs, x = .ref a ∧ H a = some (.ins C dx fs) ∧ Cls K C ∧ NoAttr K C f ∧ fs.length < 1000 ∧ ∃ L', Led (upd H a (.ins C dx (putF f y fs))) L' ∧ Q L'
def lSetF (K : PySem.W.Frag) (ta tv : LTE) (f : Str) : LTS := fun D σ L => tv σ L fun y L1 => ta σ L1 fun x L2 => SetFL K f x y L2 (D.nx σ)
theorem ls_fld {o value : Expr} {f : Str} {ta tv : LTE} {pos' : Pos} (ha : LE X o ta) (hv : LE X value tv) (hs : swapsWith value (some (.Attribute o f pos')) pos.line X.env = pure false := by rfl) : LS X (.Assign [.Attribute o f pos'] value pos) (lSetF X.K ta tv f) := by
  refine PS.imp (ps_fld ha hv hs) fun D σ H h => ?_
  obtain ⟨L, DL, hL, h, k⟩ := h
  refine ⟨L, _, hL, h, fun y L1 H1 h1 hL1 => ⟨L1, _, hL1, h1, fun x L2 H2 h2 hL2 => ?_⟩⟩
  obtain ⟨a, C, dx, fs, e1, e2, e3, e4, e5, L', l, q⟩ := h2 H2 hL2
  exact ⟨a, C, dx, fs, e1, e2, e3, e4, e5, k.nx _ _ _ q l⟩
end

/-! ### loops -/
/-- what is walked: n turns; while G holds of the ledger, at turn i x comes -/
structure LWk where
  n : Nat
  G : Lg → Prop
  Y : Nat → Lg → V → Lg → Prop
def Sim (J : It) (W : LWk) : Prop := Walk J W.n (fun H => ∃ L, Led H L ∧ W.G L) (fun i H x H' => ∀ L, Led H L → W.G L → ∃ L', Led H' L' ∧ W.Y i L x L')
abbrev LTI := St → Lg → (LWk → Lg → Prop) → Prop
def UpI (t : LTI) : TI := fun σ H R => ∃ L RL, Led H L ∧ t σ L RL ∧ ∀ W L1 H1 J, RL W L1 → Led H1 L1 → Sim J W → R J H1
def LI (X : Cx) (tg iter : Expr) (t : LTI) : Prop := PI X tg iter (UpI t)
section
variable {X : Cx} {tg iter : Expr} {wi wi' : LTI} {g : LTG} {tb : LTS} {pos : Pos}
theorem PI.imp {t t' : TI} (p : PI X tg iter t) (h : ∀ σ H R, t' σ H R → t σ H R) : PI X tg iter t' := ⟨fun pins s σ H R I q => p.run pins s σ H R I (h _ _ _ q)⟩
theorem LI.or (h : LI X tg iter wi) (h' : LI X tg iter wi') : LI X tg iter (fun σ L R => wi σ L R ∨ wi' σ L R) := by
  refine ⟨fun pins s σ H R I q => ?_⟩
  obtain ⟨L, RL, hL, hd, k⟩ := q
  rcases hd with hd | hd
  · exact h.run pins s σ H R I ⟨L, RL, hL, hd, k⟩
  · exact h'.run pins s σ H R I ⟨L, RL, hL, hd, k⟩
def ForR (W : LWk) (g : LTG) (tb : LTS) (D : LEnds) (σ : St) (L : Lg) : Prop := ∃ Pv : Nat → St → Lg → Prop, Wk (Pv 0 σ) L ∧ (∀ i σ L, i ≤ W.n → Pv i σ L → W.G L) ∧
  (∀ i x σ L L', i < W.n → Pv i σ L → W.Y i L x L' → g x σ L' fun σ2 L2 => tb { D with nx := Pv (i + 1), ct := Pv (i + 1), bk := D.nx } σ2 L2) ∧ ∀ σ L, Pv W.n σ L → D.nx σ L
def lFor (wi : LTI) (g : LTG) (tb : LTS) : LTS := fun D σ L => wi σ L fun W L1 => ForR W g tb D σ L1
theorem ls_for {body : List Stmt} (hp : PassesOwn (model X.prog X.w) X.A X.env X.xe) (hc : X.calm = true) (hi : LI X tg iter wi) (hg : LG X tg g) (hb : LSs X body tb) (hs : ∀ x, foldedSetIterable iter X.env x = pure x := by intro _; rfl) : LS X (.For tg iter body [] pos) (lFor wi g tb) := by
  refine PS.imp (ps_for hp hc hi hg hb hs) fun D σ H h => ?_
  obtain ⟨L, DL, hL, h, k⟩ := h
  refine ⟨L, _, hL, h, fun W L1 H1 J h1 hL1 sim => ?_⟩
  obtain ⟨Pv, ⟨L0, l0, p0⟩, hG, ht, hd⟩ := h1
  refine for_it sim (fun i σ H => ∃ L, Led H L ∧ Pv i σ L) ⟨L0, l0 _ hL1, p0⟩ (fun i σ H hi ⟨L, l, p⟩ => ⟨L, l, hG i σ L hi p⟩) ?_ (fun σ H ⟨L, l, p⟩ => k.nx _ _ _ (hd σ L p) l)
  rintro i x σ H2 H3 hi ⟨L2, l2, p2⟩ hy
  obtain ⟨L3, l3, y3⟩ := hy L2 l2 (hG i σ L2 (Nat.le_of_lt hi) p2)
  refine ⟨L3, _, l3, ht i x σ L2 L3 hi p2 y3, fun σ4 L4 H4 q4 l4 => ?_⟩
  exact ⟨L4, _, l4, q4, ⟨fun σ' L' H' q l => ⟨L', l, q⟩, k.rt, k.nx, fun σ' L' H' q l => ⟨L', l, q⟩⟩⟩
/-! what is walked -/
def wkR (lo : Int) (n : Nat) : LWk := ⟨n, fun _ => True, fun i L x L' => L' = L ∧ x = .int (lo + i)⟩
def wkL (K : PySem.W.Frag) (a : Addr) (xs : List V) : LWk := ⟨xs.length, fun L => IsL K L a xs, fun i L x L' => L' = L ∧ xs[i]? = some x⟩
def wkT (K : PySem.W.Frag) (a : Addr) (xs : List V) : LWk := ⟨xs.length, fun L => IsT K L a xs, fun i L x L' => L' = L ∧ xs[i]? = some x⟩
theorem sim_r {lo : Int} {n : Nat} : Sim (Itr lo n) (wkR lo n) := walk_range.mono (fun _ _ => trivial) fun i H x H' hi g y L l _ => by
  obtain ⟨rfl, rfl⟩ := y
  exact ⟨L, l, rfl, rfl⟩
theorem sim_l {K : PySem.W.Frag} {a : Addr} {xs : List V} : Sim (Itl K a) (wkL K a xs) := walk_list.mono (fun H ⟨L, l, h⟩ => h H l) fun i H x H' hi g y L l _ => by
  obtain ⟨rfl, h⟩ := y
  exact ⟨L, l, rfl, h⟩
theorem sim_t {K : PySem.W.Frag} {a : Addr} {xs : List V} : Sim (Itt K a) (wkT K a xs) := walk_tup.mono (fun H ⟨L, l, h⟩ => h H l) fun i H x H' hi g y L l _ => by
  obtain ⟨rfl, h⟩ := y
  exact ⟨L, l, rfl, h⟩
def kRng1 (ta : LTA) : LTI := fun σ L R => ta σ L fun vs L1 => ∃ j : Int, vs = [.int j] ∧ (-(2 ^ 62) ≤ j ∧ j < 2 ^ 62) ∧ R (wkR 0 j.toNat) L1
def kRng2 (ta : LTA) : LTI := fun σ L R => ta σ L fun vs L1 => ∃ i j : Int, vs = [.int i, .int j] ∧ (-(2 ^ 62) ≤ i ∧ i < 2 ^ 62 ∧ -(2 ^ 62) ≤ j ∧ j < 2 ^ 62) ∧ R (wkR i (j - i).toNat) L1
theorem li_range1 {a : Expr} {ta : LTA} {p pos : Pos} (hg : Gl X "range") (hm : X.mg "range" = none) (ha : LA X [a] ta) (hs : starEach [a] X.env = [(false, eval a X.env)] := by rfl) : LI X tg (.Call (.Name "range" p) [a] [] pos) (kRng1 ta) := by
  refine PI.imp (pi_range1 hg hm ha hs) fun σ H R h => ?_
  obtain ⟨L, RL, hL, h, k⟩ := h
  exact ⟨L, _, hL, h, fun vs L1 H1 ⟨j, e, ⟨h1, h2⟩, h3⟩ l => ⟨j, e, h1, h2, k _ _ _ _ h3 l sim_r⟩⟩
theorem li_range2 {a b : Expr} {ta : LTA} {p pos : Pos} (hg : Gl X "range") (hm : X.mg "range" = none) (ha : LA X [a, b] ta) (hs : starEach [a, b] X.env = [(false, eval a X.env), (false, eval b X.env)] := by rfl) (hs2 : starEach [b] X.env = [(false, eval b X.env)] := by rfl) : LI X tg (.Call (.Name "range" p) [a, b] [] pos) (kRng2 ta) := by
  refine PI.imp (pi_range2 hg hm ha hs hs2) fun σ H R h => ?_
  obtain ⟨L, RL, hL, h, k⟩ := h
  exact ⟨L, _, hL, h, fun vs L1 H1 ⟨i, j, e, h1, h3⟩ l => ⟨i, j, e, h1, k _ _ _ _ h3 l sim_r⟩⟩
def kSeq (K : PySem.W.Frag) (tl : LTE) : LTI := fun σ L R => tl σ L fun x L1 => ∃ a xs, x = .ref a ∧ ((IsL K L1 a xs ∧ R (wkL K a xs) L1) ∨ (IsT K L1 a xs ∧ R (wkT K a xs) L1))
def kTup (K : PySem.W.Frag) (tl : LTE) : LTI := fun σ L R => tl σ L fun x L1 => ∃ a xs, x = .ref a ∧ ((IsT K L1 a xs ∧ R (wkT K a xs) L1))
theorem li_list {l : Expr} {tl : LTE} (hl : LE X l tl) : LI X tg l (kSeq X.K tl) := by
  refine ⟨fun pins s σ H R I h => ?_⟩
  obtain ⟨L, RL, hL, h, k⟩ := h
  refine thn (hl.run pins s σ H (fun x H1 => ∃ a xs, x = .ref a ∧ ((SqL X.K H1 a xs ∧ R (Itl X.K a) H1) ∨ (SqT X.K H1 a xs ∧ R (Itt X.K a) H1))) I ⟨L, _, hL, h, fun v L1 H1 ⟨a, xs, e, hd⟩ l => ⟨a, xs, e, hd.imp (fun ⟨h1, h2⟩ => ⟨h1 H1 l, k _ _ _ _ h2 l sim_l⟩) (fun ⟨h1, h2⟩ => ⟨h1 H1 l, k _ _ _ _ h2 l sim_t⟩)⟩⟩) fun v s1 ⟨x, H1, I1, r1, q1⟩ => ?_
  obtain ⟨a, xs, e, hd⟩ := q1
  subst e
  cases r1
  have fr : ∀ b ∈ [s1.heap.objs.size], FpOk X pins H1 b := fun b hb => by
    have e : b = s1.heap.objs.size := by simpa using hb
    subst e
    exact I1.fpOk (Nat.le_refl _) (I1.hok.fresh (Nat.le_refl _))
  rcases hd with ⟨hq, q⟩ | ⟨hq, q⟩
  · obtain ⟨its, rv, p, hz⟩ := I1.list hq
    refine wpAny_pyIter_list p.isList ?_
    exact ⟨s1.heap.objs.size, [s1.heap.objs.size], _, _, H1, rfl, I1.kept (t' := s1.toks) fun b o e => Heap.get?_push_of_some _ e, turn_list a _, ⟨_, Heap.get?_push_size _ rfl, rfl, rfl⟩, fr, q⟩
  · obtain ⟨its, rv, p, hz⟩ := I1.tuple hq
    refine wpAny_pyIter_tuple (show s1.heap.IsTuple a its.toArray from p) ?_
    exact ⟨s1.heap.objs.size, [s1.heap.objs.size], _, _, H1, rfl, I1.kept (t' := s1.toks) fun b o e => Heap.get?_push_of_some _ e, turn_tuple a _, ⟨_, Heap.get?_push_size _ rfl, rfl, rfl⟩, fr, q⟩
theorem li_tup {l : Expr} {tl : LTE} (hl : LE X l tl) : LI X tg l (kTup X.K tl) := by
  refine PI.imp (pi_tup hl) fun σ H R h => ?_
  obtain ⟨L, RL, hL, h, k⟩ := h
  exact ⟨L, _, hL, h, fun v L1 H1 ⟨a, xs, e, h1, h2⟩ l => ⟨a, e, ⟨xs, h1 H1 l⟩, k _ _ _ _ h2 l sim_t⟩⟩
/-! while -/
def lWhile (c : LTT) (tb : LTS) : LTS := fun D σ L => ∃ W : Nat → St → Lg → Prop, Wk (fun L => ∃ m, W m σ L) L ∧ ∀ m σ L, W m σ L →
  c σ L fun b L1 => if b = true then tb { D with nx := fun σ' L' => ∃ m', m' < m ∧ W m' σ' L', ct := fun σ' L' => ∃ m', m' < m ∧ W m' σ' L', bk := D.nx } σ L1 else D.nx σ L1
theorem ls_while {c : Expr} {body : List Stmt} {tc : LTT} (hp : PassesOwn (model X.prog X.w) X.A X.env X.xe) (hc : LT X c tc) (hb : LSs X body tb) : LS X (.While c body [] pos) (lWhile tc tb) := by
  refine PS.imp (ps_while hp hc hb) fun D σ H h => ?_
  obtain ⟨L, DL, hL, ⟨W, ⟨L0, l0, m0, w0⟩, turn⟩, k⟩ := h
  refine ⟨fun m σ H => ∃ L, Led H L ∧ W m σ L, ⟨m0, L0, l0 _ hL, w0⟩, ?_⟩
  rintro m σ1 H1 ⟨L1, l1, w1⟩
  refine ⟨L1, _, l1, turn m σ1 L1 w1, fun b L2 H2 q2 l2 => ?_⟩
  cases b with
  | true =>
    refine ⟨fun σ' H' => ∃ m', m' < m ∧ ∃ L, Led H' L ∧ W m' σ' L, fun σ' H' ⟨m', hm, L, l, w⟩ => ⟨m', hm, L, l, w⟩, ?_⟩
    exact ⟨L2, _, l2, q2, ⟨fun σ' L' H' ⟨m', hm, w⟩ l => ⟨m', hm, L', l, w⟩, k.rt, k.nx, fun σ' L' H' ⟨m', hm, w⟩ l => ⟨m', hm, L', l, w⟩⟩⟩
  | false => exact k.nx _ _ _ q2 l2
end

/-! ### list comprehensions -/
section
variable {X : Cx} {elt tg iter : Expr} {ifs : List Expr} {scope : Scope} {own : List (Str × Nat)} {pos : Pos} {wi : LTI} {g : LTG} {tt : LTT} {te : LTE}
def LTs (X : Cx) (ifs : List Expr) (t : LTT) : Prop := PTs X ifs fun σ H Q => Up (t σ) H Q
theorem PTs.imp {t t' : TT} (p : PTs X ifs t) (h : ∀ σ H Q, t' σ H Q → t σ H Q) : PTs X ifs t' := ⟨fun pins s σ H Q I q => p.run pins s σ H Q I (h _ _ _ q)⟩
def lYes : LTT := fun _ L Q => Q true L
theorem lts_nil : LTs X [] lYes := PTs.imp pts_nil fun _ _ _ ⟨_, _, hL, q, k⟩ => k _ _ _ q hL
theorem lts_one {c : Expr} {t : LTT} (h : LT X c t) : LTs X [c] t := pts_one h
/-- the turns of a comprehension: the new list stands at D, its items so far acc, the other chunks L -/
def LcR (W : LWk) (g : LTG) (tt : LTT) (te : LTE) (vs : List Nat) (σ : St) (D : Addr) (L : Lg) (Q : LVK) : Prop := ∃ Pv : Nat → List V → Lg → Prop, Wk (Pv 0 []) L ∧
  (∀ i acc L, i ≤ W.n → Pv i acc L → W.G ([(D, .lst acc)] :: L)) ∧
  (∀ i acc x L L', i < W.n → Pv i acc L → D ∉ keys L → W.Y i ([(D, .lst acc)] :: L) x L' → g x (wipe σ vs) L' fun σ2 L2 => wipe σ2 vs = wipe σ vs ∧ tt σ2 L2 fun b L3 =>
    if b = true then te σ2 L3 fun y L4 => acc.length < sizeLine ∧ ∃ L5, Lic L4 ([(D, .lst acc)] :: L5) ∧ Pv (i + 1) (acc ++ [y]) L5 else ∃ L5, Lic L3 ([(D, .lst acc)] :: L5) ∧ Pv (i + 1) acc L5) ∧
  ∀ acc L, Pv W.n acc L → D ∉ keys L → Wk (Q (.ref D)) ([(D, .lst acc)] :: L)
def lLc (wi : LTI) (g : LTG) (tt : LTT) (te : LTE) (vs : List Nat) : LTE := fun σ L Q => wi σ L fun W L1 => ∀ D, D ∉ keys L1 → LcR W g tt te vs σ D L1 Q
theorem Led.head_not {H : Hp} {D : Addr} {o : HO} {L : Lg} (h : Led H ([(D, o)] :: L)) : D ∉ keys L := by
  have := h.nd
  rw [keys_cons] at this
  exact (List.nodup_cons.mp this).1
theorem up_lc {vs : List Nat} {σ : St} {H : Hp} {Q : VK} (h : Up (lLc wi g tt te vs σ) H Q) : tLc (UpI wi) (UpG g) (fun σ H Q => Up (tt σ) H Q) (fun σ H Q => Up (te σ) H Q) vs σ H Q := by
  obtain ⟨L, QL, hL, h, k⟩ := h
  refine ⟨L, _, hL, h, fun W L1 H1 J h1 hL1 sim D hD => ?_⟩
  obtain ⟨Pv, ⟨L0, l0, p0⟩, hG, ht, hd⟩ := h1 D (hL1.fresh hD)
  refine lc_it sim (fun i H => ∃ acc L, Led H ([(D, .lst acc)] :: L) ∧ Pv i acc L) ⟨[], L0, (l0 _ hL1).new hD, p0⟩ (fun i H hi ⟨acc, L, l, p⟩ => ⟨_, l, hG i acc L hi p⟩) ?_ ?_
  · rintro i x H2 H3 hi ⟨acc, L2, l2, p2⟩ hy
    obtain ⟨L3, l3, y3⟩ := hy _ l2 (hG i acc L2 (Nat.le_of_lt hi) p2)
    refine ⟨L3, _, l3, ht i acc x L2 L3 hi p2 l2.head_not y3, fun σ4 L4 H4 ⟨q4, r4⟩ l4 => ⟨q4, L4, _, l4, r4, fun b L5 H5 q5 l5 => ?_⟩⟩
    cases b with
    | true =>
      refine ⟨L5, _, l5, q5, fun y L6 H6 ⟨q6, L7, l7, p7⟩ l6 => ?_⟩
      have l8 := l7 _ l6
      refine ⟨acc, l8.get _ List.mem_cons_self _ List.mem_cons_self, q6, acc ++ [y], L7, ?_, p7⟩
      exact Led.put1 (i := 0) (o := .lst acc) l8 rfl
    | false =>
      obtain ⟨L7, l7, p7⟩ := q5
      exact ⟨acc, L7, l7 _ l5, p7⟩
  · rintro H2 ⟨acc, L2, l2, p2⟩
    obtain ⟨L3, l3, q3⟩ := hd acc L2 p2 l2.head_not
    exact k _ _ _ q3 (l3 _ l2)
theorem llc {vs : List Nat} (hc : X.calm = true) (hN : X.N.Nodup) (hi : LI X tg iter wi) (ok : BlkOk X.N X.env.scope scope own)
    (hg : ∀ (s : Shared) (H : Hp) (C : Addr) (cl : List (Str × Addr)) (fp : List Addr), LG (X.blk s H scope (compEnvC scope cl C X.env) fp) tg g) (ht : ∀ (s : Shared) (H : Hp) (C : Addr) (cl : List (Str × Addr)) (fp : List Addr), LTs (X.blk s H scope (compEnvC scope cl C X.env) fp) ifs tt)
    (he : ∀ (s : Shared) (H : Hp) (C : Addr) (cl : List (Str × Addr)) (fp : List Addr), LE (X.blk s H scope (compEnvC scope cl C X.env) fp) elt te) (hs : ∀ x, foldedSetIterable iter X.env x = pure x := by intro _; rfl) :
    (hv : own.map (·.2) = vs := by rfl) → LE X (.ListComp elt [⟨tg, iter, ifs, 0⟩] scope pos) (lLc wi g tt te vs) := fun hv => by
  subst hv
  exact PE.imp (pe_lc hc hN hi ok hg ht he hs) fun _ _ _ h => up_lc h
theorem ls_setLc {vs : List Nat} (i : Nat) {y : Str} {py spos : Pos} (hc : X.calm = true) (hN : X.N.Nodup) (hy : X.N[i]? = some y) (hyl : X.env.scope.names.lookup y = some .local)
    (hsw : swapsWith (.ListComp elt [⟨tg, iter, ifs, 0⟩] scope pos) (some (.Name y py)) spos.line X.env = pure true) (hi : LI X tg iter wi) (ok : BlkOk X.N X.env.scope scope own)
    (hg : ∀ (s : Shared) (H : Hp) (C : Addr) (cl : List (Str × Addr)) (fp : List Addr), LG (X.blk s H scope (compEnvC scope cl C X.env) fp) tg g) (ht : ∀ (s : Shared) (H : Hp) (C : Addr) (cl : List (Str × Addr)) (fp : List Addr), LTs (X.blk s H scope (compEnvC scope cl C X.env) fp) ifs tt)
    (he : ∀ (s : Shared) (H : Hp) (C : Addr) (cl : List (Str × Addr)) (fp : List Addr), LE (X.blk s H scope (compEnvC scope cl C X.env) fp) elt te) (hs : ∀ x, foldedSetIterable iter X.env x = pure x := by intro _; rfl) :
    (hv : own.map (·.2) = vs := by rfl) → LS X (.Assign [.Name y py] (.ListComp elt [⟨tg, iter, ifs, 0⟩] scope pos) spos) (lAsg (lLc wi g tt te vs) (hName i)) := by
  intro hv
  subst hv
  refine PS.imp (ps_setLc hc hN hy hyl hsw hi ok hg ht he hs) fun D σ H h => ?_
  obtain ⟨L, DL, hL, h, k⟩ := h
  exact up_lc (Q := fun v H' => D.nx (σ.set i (some v)) H') ⟨L, _, hL, h, fun v L' H' q l => k.nx _ _ _ q l⟩
end

/-! ### a def keeps its promise -/
section
variable {P : Program} {w : World} {K : PySem.W.Frag} {mg : Str → Option Value} {base : Heap} {x qual : Str} {params : Arguments} {body : List Stmt} {scope : Scope} {dvs : List V} {kws : List (Str × V)} {f : Addr} {fd : FuncData}
/-- no exception leaves it -/
theorem fn_ok {N ps : List Str} {k : Nat} {sp : LSp} (F : FunD K x qual params body scope dvs kws f fd) (S : FnScope N ps scope) (len : ∀ vs L Q E, sp vs L Q E → vs.length = ps.length)
    (hbody : ∀ (cdv : Value) (A : Around) (outer : List Env) (s : Shared) (H : Hp) (E : XK), Room k (A.deeper (envOfC qual scope s.heap.objs.size f cdv)) →
      ∃ t, LSs (cxOf CX0 P w K mg base N qual scope f cdv A outer s H E).nox body t ∧ ∀ vs L Q EL, sp vs L Q EL → t ⟨fun _ => Wk (Q .non), Q, fun _ _ => False, fun _ _ => False⟩ (start N vs) L) : FnOk P w K mg base CX0 (k + 1) f fd ps (UpP sp) := by
  refine F.ok S (UpP.len len) fun cdv A outer s H vs Q E hr h => ?_
  obtain ⟨t, ht, hq⟩ := hbody cdv A outer s H E hr
  obtain ⟨L, QL, EL, hL, hs, k1, k2⟩ := h
  exact ⟨_, PSs.nox ht, L, _, hL, hq vs L QL EL hs, ⟨fun σ' L' H' ⟨L2, l2, q⟩ l => k1 _ _ _ q (l2 _ l), fun v L' H' q l => k1 _ _ _ q l, fun _ _ _ z => z.elim, fun _ _ _ z => z.elim⟩⟩
end
end VM

end

section
namespace VM
open PySem PySem.Spec L2
open PyProof.Rows hiding St

/-! ### what stands where -/
def At (L : Lg) (p : Addr) (o : HO) : Prop := ∀ H, Led H L → H p = some o
theorem At.hd1 {p : Addr} {o : HO} {L : Lg} : At ([(p, o)] :: L) p o := fun _ h => h.get _ List.mem_cons_self _ List.mem_cons_self
theorem At.hd {c : Chunk} {p : Addr} {o : HO} {L : Lg} (h : (p, o) ∈ c) : At (c :: L) p o := fun _ l => l.get _ List.mem_cons_self _ h
theorem At.tl {c : Chunk} {p : Addr} {o : HO} {L : Lg} (h : At L p o) : At (c :: L) p o := fun H l => h H (Lic.tail H l)
theorem At.mem {c : Chunk} {p : Addr} {o : HO} {L : Lg} (h : c ∈ L) (hx : (p, o) ∈ c) : At L p o := fun _ l => l.get _ h _ hx
theorem At.one {p : Addr} {o : HO} {L : Lg} (h : [(p, o)] ∈ L) : At L p o := At.mem h List.mem_cons_self
theorem IsL.at_ {K : PySem.W.Frag} {L : Lg} {p : Addr} {xs : List V} (h : At L p (.lst xs)) : IsL K L p xs := fun H l => .inl (.inl (h H l))
theorem IsT.at_ {K : PySem.W.Frag} {L : Lg} {p : Addr} {xs : List V} (h : At L p (.tup xs)) : IsT K L p xs := fun H l => .inl (.inl (h H l))
theorem IsL.frz {K : PySem.W.Frag} {L : Lg} {p : Addr} {o : Obj} {xs : List V} (h : At L p (.frz o (.lst xs))) : IsL K L p xs := fun H l => .inl (.inr ⟨o, h H l⟩)
theorem IsL.tl {K : PySem.W.Frag} {c : Chunk} {L : Lg} {p : Addr} {xs : List V} (h : IsL K L p xs) : IsL K (c :: L) p xs := fun H l => h H (Lic.tail H l)
theorem IsT.tl {K : PySem.W.Frag} {c : Chunk} {L : Lg} {p : Addr} {xs : List V} (h : IsT K L p xs) : IsT K (c :: L) p xs := fun H l => h H (Lic.tail H l)
/-- the script: a list of ints that is read, whatever it is to the ledger -/
def Scr (K : PySem.W.Frag) (c : Chunk) (p : Addr) (ns : List Int) : Prop := ∀ H, Led H [c] → SqL K H p (ns.map V.int)
theorem IsL.scr {K : PySem.W.Frag} {c : Chunk} {L : Lg} {p : Addr} {ns : List Int} (h : Scr K c p ns) (hm : c ∈ L) : IsL K L p (ns.map V.int) := fun H l => h H (by
  obtain ⟨i, hi⟩ := List.getElem?_of_mem hm
  have := Lic.pull i hi H l
  exact Lic.sublist (List.Sublist.cons_cons c (List.nil_sublist _)) H this)
/-- a cell is written -/
inductive Wr (p : Addr) (o o' : HO) : Lg → Lg → Prop
  | hd {A B : Chunk} {L : Lg} : Wr p o o' ((A ++ (p, o) :: B) :: L) ((A ++ (p, o') :: B) :: L)
  | tl {c : Chunk} {L L' : Lg} (h : Wr p o o' L L') : Wr p o o' (c :: L) (c :: L')
theorem Wr.hd1 {p : Addr} {o o' : HO} {L : Lg} : Wr p o o' ([(p, o)] :: L) ([(p, o')] :: L) := Wr.hd (A := []) (B := [])
theorem Wr.ix {p : Addr} {o o' : HO} {L L' : Lg} (h : Wr p o o' L L') : ∃ i A B, L[i]? = some (A ++ (p, o) :: B) ∧ L' = L.set i (A ++ (p, o') :: B) := by
  induction h with
  | hd => exact ⟨0, _, _, rfl, rfl⟩
  | tl _ ih =>
    obtain ⟨i, A, B, h1, h2⟩ := ih
    exact ⟨i + 1, A, B, h1, by rw [h2]; rfl⟩
theorem Wr.led {p : Addr} {o o' : HO} {L L' : Lg} (h : Wr p o o' L L') {H : Hp} (l : Led H L) : Led (upd H p o') L' := by
  obtain ⟨i, A, B, h1, h2⟩ := h.ix
  rw [h2]
  exact l.put h1
theorem Wr.at_ {p : Addr} {o o' : HO} {L L' : Lg} (h : Wr p o o' L L') : At L p o := by
  obtain ⟨i, A, B, h1, h2⟩ := h.ix
  exact At.mem (List.mem_of_getElem? h1) (by simp)
/-- by the place -/
theorem Wr.by_ {p : Addr} {o o' : HO} {L : Lg} : ∀ (i : Nat) {A B : Chunk}, L[i]? = some (A ++ (p, o) :: B) → Wr p o o' L (L.set i (A ++ (p, o') :: B)) := by
  induction L with
  | nil => intro i A B h; simp at h
  | cons c L ih =>
    intro i A B h
    cases i with
    | zero =>
      simp only [List.getElem?_cons_zero, Option.some.injEq] at h
      subst h
      exact Wr.hd
    | succ i =>
      simp only [List.getElem?_cons_succ] at h
      exact Wr.tl (ih i h)
/-! slots -/
inductive SetAt (v : V) : St → Nat → St → Prop
  | hd {x : Option V} {σ : St} : SetAt v (x :: σ) 0 (some v :: σ)
  | tl {x : Option V} {σ σ' : St} {i : Nat} (h : SetAt v σ i σ') : SetAt v (x :: σ) (i + 1) (x :: σ')
theorem SetAt.eq {v : V} {σ σ' : St} {i : Nat} (h : SetAt v σ i σ') : σ.set i (some v) = σ' := by
  induction h with
  | hd => rfl
  | tl _ ih => rw [List.set_cons_succ, ih]

/-! ### steps of the structure -/
section
variable {σ σ' : St} {L L' : Lg} {Q : LVK} {i : Nat} {v : V} {ta tb te : LTE} {tr : LTA} {t u : LTT} {K : PySem.W.Frag}
theorem s_var (h : σ[i]? = some (some v)) (k : Q v L) : lVar i σ L Q := ⟨v, h, k⟩
theorem s_c (k : Q v L) : lC v σ L Q := k
theorem s_op {r : LR2} (k : ta σ L fun x L1 => tb σ L1 fun y L2 => r x y L2 Q) : lOp r ta tb σ L Q := k
theorem s_un {r : LR1} (k : ta σ L fun x L1 => r x L1 Q) : lUn r ta σ L Q := k
theorem s_test {Q : Bool → Lg → Prop} (k : te σ L (BlK Q)) : lTest te σ L Q := k
theorem s_blk {Q : Bool → Lg → Prop} {b : Bool} (k : Q b L) : BlK Q (.bl b) L := ⟨b, rfl, k⟩
theorem s_intk {Q : Int → Lg → Prop} {b : Int} (k : Q b L) : IntK Q (.int b) L := ⟨b, rfl, k⟩
theorem s_not {Q : Bool → Lg → Prop} (k : t σ L fun c L1 => Q (!c) L1) : lNot t σ L Q := k
theorem s_and {Q : Bool → Lg → Prop} (k : t σ L fun c L1 => if c = true then u σ L1 Q else Q false L1) : lAnd t u σ L Q := k
theorem s_or {Q : Bool → Lg → Prop} (k : t σ L fun c L1 => if c = true then Q true L1 else u σ L1 Q) : lOr t u σ L Q := k
theorem s_andV (k : ta σ L (BlK fun c L1 => if c = true then tb σ L1 Q else Q (.bl false) L1)) : lAndV ta tb σ L Q := k
theorem s_orV (k : ta σ L (BlK fun c L1 => if c = true then Q (.bl true) L1 else tb σ L1 Q)) : lOrV ta tb σ L Q := k
theorem s_notV (k : ta σ L (BlK fun c L1 => Q (.bl (!c)) L1)) : lNotV ta σ L Q := k
theorem s_ifE (k : t σ L fun c L1 => if c = true then ta σ L1 Q else tb σ L1 Q) : lIfE t ta tb σ L Q := k
theorem s_nil {Q : List V → Lg → Prop} (k : Q [] L) : lNil σ L Q := k
theorem s_cons {Q : List V → Lg → Prop} (k : te σ L fun x L1 => tr σ L1 fun xs L2 => Q (x :: xs) L2) : lCons te tr σ L Q := k
def NewK (f : List V → HO) (Q : LVK) : List V → Lg → Prop := fun xs L1 => xs.length ≤ sizeLine ∧ ∀ p, p ∉ keys L1 → Q (.ref p) ([(p, f xs)] :: L1)
theorem s_tup (k : tr σ L (NewK .tup Q)) : lTup tr σ L Q := k
theorem s_lst (k : tr σ L (NewK .lst Q)) : lLst tr σ L Q := k
theorem s_new {f : List V → HO} {xs : List V} (h : xs.length ≤ sizeLine) (k : ∀ p, Q (.ref p) ([(p, f xs)] :: L)) : NewK f Q xs L := ⟨h, fun p _ => k p⟩
theorem s_sl {r : V → Option Int → Option Int → Lg → LVK → Prop} {tl th : LTO} (k : te σ L fun x L1 => tl σ L1 fun l L2 => th σ L2 fun u L3 => r x l u L3 Q) : lSl r te tl th σ L Q := k
theorem s_nopart {Q : Option Int → Lg → Prop} (k : Q none L) : lNoPart σ L Q := k
theorem s_part {Q : Option Int → Lg → Prop} (k : te σ L (IntK fun i L1 => Q (some i) L1)) : lPart te σ L Q := k
theorem s_cb {r : LRC} (k : tr σ L fun vs L1 => r vs L1 Q) : lCB r tr σ L Q := k
theorem s_bm0 {T : String} {r : V → LRC} (k : te σ L fun x L1 => TyL K T x L1 ∧ r x [] L1 Q) : lBM0 K T r te σ L Q := k
theorem s_bm {T : String} {r : V → LRC} (k : te σ L fun x L1 => TyL K T x L1 ∧ tr σ L1 fun xs L2 => r x xs L2 Q) : lBM K T r te tr σ L Q := k
theorem s_fld {f : Str} (k : te σ L fun x L1 => FldL K f x L1 Q) : lFld K te f σ L Q := k
theorem s_call {sp : LSp} {dvs : List V} {E : LXK} (k : tr σ L fun vs L1 => sp (vs ++ dvs) L1 Q E) : lCall sp dvs E tr σ L Q := k
theorem s_meth {C : Addr} {m : Str} {sp : LSp} {dvs : List V} {E : LXK} (k : te σ L fun x L1 => ObjL C m x L1 ∧ tr σ L1 fun vs L2 => sp (x :: (vs ++ dvs)) L2 Q E) : lMeth C m sp dvs E te tr σ L Q := k
def MakeK (C : Addr) (sp : LSp) (dvs : List V) (E : LXK) (Q : LVK) : List V → Lg → Prop := fun vs L1 => ∀ x dx, x ∉ keys L1 → sp (.ref x :: (vs ++ dvs)) ([(x, .ins C dx [])] :: L1) (fun v L2 => v = .non ∧ Q (.ref x) L2) E
theorem s_make {C : Addr} {sp : LSp} {dvs : List V} {E : LXK} (k : tr σ L (MakeK C sp dvs E Q)) : lMake C sp dvs E tr σ L Q := k
theorem s_tru {r : V → Lg → (Bool → Lg → Prop) → Prop} {Q : Bool → Lg → Prop} (k : te σ L fun x L1 => r x L1 Q) : lTru r te σ L Q := k
/-! statements -/
variable {D : LEnds} {s1 s2 : LTS} {g : LTG} {gs : LTGs}
variable {n0 : St → Lg → Prop} {r0 : LVK} {b0 c0 : St → Lg → Prop}
theorem s_seq (k : s1 ⟨fun σ' => Wk (s2 ⟨n0, r0, b0, c0⟩ σ'), fun v => Wk (r0 v), fun σ => Wk (b0 σ), fun σ => Wk (c0 σ)⟩ σ L) : lSeq s1 s2 ⟨n0, r0, b0, c0⟩ σ L := k
theorem s_last (k : s1 ⟨fun σ => Wk (n0 σ), fun v => Wk (r0 v), fun σ => Wk (b0 σ), fun σ => Wk (c0 σ)⟩ σ L) : lLast s1 ⟨n0, r0, b0, c0⟩ σ L := k
theorem s_never (k : False) : lNever D σ L := k
theorem s_next (k : n0 σ L) : lNext ⟨n0, r0, b0, c0⟩ σ L := k
theorem s_drop (k : te σ L fun _ L1 => n0 σ L1) : lDrop te ⟨n0, r0, b0, c0⟩ σ L := k
theorem s_ret (k : te σ L r0) : lRet te ⟨n0, r0, b0, c0⟩ σ L := k
theorem s_retN (k : r0 .non L) : lRetN ⟨n0, r0, b0, c0⟩ σ L := k
theorem s_break (k : b0 σ L) : lBreak ⟨n0, r0, b0, c0⟩ σ L := k
theorem s_cont (k : c0 σ L) : lCont ⟨n0, r0, b0, c0⟩ σ L := k
theorem s_if (k : t σ L fun b L1 => if b = true then s1 D σ L1 else s2 D σ L1) : lIf t s1 s2 D σ L := k
theorem s_asg (k : te σ L fun x L1 => g x σ L1 n0) : lAsg te g ⟨n0, r0, b0, c0⟩ σ L := k
theorem s_name {Q : St → Lg → Prop} (h : SetAt v σ i σ') (k : Q σ' L) : hName i v σ L Q := by
  show Q (σ.set i (some v)) L
  rw [h.eq]
  exact k
theorem s_hnil {Q : St → Lg → Prop} (k : Q σ L) : hNil [] σ L Q := ⟨rfl, k⟩
theorem s_hcons {vs : List V} {Q : St → Lg → Prop} (k : g v σ L fun σ' L' => gs vs σ' L' Q) : hCons g gs (v :: vs) σ L Q := ⟨v, vs, rfl, k⟩
theorem s_htup {n : Nat} {p : Addr} {xs : List V} {Q : St → Lg → Prop} (h : IsT K L p xs) (hl : xs.length = n) (k : gs xs σ L Q) : hTup K n gs (.ref p) σ L Q := ⟨p, xs, rfl, .inl h, hl, k⟩
theorem s_hlst {n : Nat} {p : Addr} {xs : List V} {Q : St → Lg → Prop} (h : IsL K L p xs) (hl : xs.length = n) (k : gs xs σ L Q) : hTup K n gs (.ref p) σ L Q := ⟨p, xs, rfl, .inr h, hl, k⟩
theorem s_hsub {r : LTSet} {Q : St → Lg → Prop} (k : ta σ L fun o L1 => tb σ L1 fun i L2 => r o i v L2 fun L3 => Q σ L3) : hSub ta tb r v σ L Q := k
theorem s_setf {f : Str} {tv : LTE} (k : tv σ L fun y L1 => ta σ L1 fun x L2 => SetFL K f x y L2 (n0 σ)) : lSetF K ta tv f ⟨n0, r0, b0, c0⟩ σ L := k
theorem s_wk {P : Lg → Prop} (k : P L) : Wk P L := .go k
theorem s_for {wi : LTI} (k : wi σ L fun W L1 => ForR W g s1 D σ L1) : lFor wi g s1 D σ L := k
/-! ifs -/
theorem s_ite {c A B : Prop} [Decidable c] (h1 : c → A) (h2 : ¬ c → B) : if c then A else B := ite2 h1 h2
theorem s_iteT {A B : Prop} (h : A) : if true = true then A else B := iteT h
theorem s_iteF {A B : Prop} (h : B) : if false = true then A else B := iteF h
theorem s_iteD {c A B : Prop} [Decidable c] (h1 : c → A) (h2 : ¬ c → B) : if decide c = true then A else B := by
  by_cases h : c
  · rw [decide_eq_true h, if_pos rfl]; exact h1 h
  · rw [decide_eq_false h, if_neg Bool.false_ne_true]; exact h2 h
theorem s_iteN {c A B : Prop} [Decidable c] (h1 : c → B) (h2 : ¬ c → A) : if (!decide c) = true then A else B := by
  by_cases h : c
  · rw [decide_eq_true h]; exact iteF (h1 h)
  · rw [decide_eq_false h]; exact iteT (h2 h)
theorem s_iteNb {b : Bool} {A B : Prop} (h : if b = true then B else A) : if (!b) = true then A else B := by
  cases b
  · exact iteT (by simpa using h)
  · exact iteF (by simpa using h)
theorem s_iteb {b : Bool} {A B : Prop} (h1 : b = true → A) (h2 : b = false → B) : if b = true then A else B := by
  cases b
  · exact iteF (h2 rfl)
  · exact iteT (h1 rfl)
end

/-! ### the operations -/
/-- two ints in, under C, a value out -/
def iI (C : Int → Int → Prop) (g : Int → Int → V) : LR2 := fun x y L Q => ∃ i j, x = .int i ∧ y = .int j ∧ C i j ∧ Q (g i j) L
def iI0 (g : Int → Int → V) : LR2 := fun x y L Q => ∃ i j, x = .int i ∧ y = .int j ∧ Q (g i j) L
section
variable {X : Cx} {f : Value → Value → Sem Value} {C : Int → Int → Prop} {g : Int → Int → V}
theorem OpL.int (h : OpR X f (rI C g)) : OpL X f (iI C g) := by
  intro pins s σ H x y v u Q I rx ry q
  obtain ⟨L, QL, hL, ⟨i, j, e1, e2, hc, hq⟩, k⟩ := q
  exact h pins s σ H x y v u Q I rx ry ⟨i, j, e1, e2, hc, k _ _ _ hq hL⟩
theorem OpL.int0 (h : OpR X f (rI0 g)) : OpL X f (iI0 g) := by
  intro pins s σ H x y v u Q I rx ry q
  obtain ⟨L, QL, hL, ⟨i, j, e1, e2, hq⟩, k⟩ := q
  exact h pins s σ H x y v u Q I rx ry ⟨i, j, e1, e2, k _ _ _ hq hL⟩
end
/-- two lists glued -/
def lCat : LR2 := fun x y L Q => ∃ l b xs zs, x = .ref l ∧ y = .ref b ∧ At L l (.lst xs) ∧ At L b (.lst zs) ∧ xs.length + zs.length ≤ sizeLine ∧ ∀ p, p ∉ keys L → Q (.ref p) ([(p, .lst (xs ++ zs))] :: L)
def lCatT (K : PySem.W.Frag) : LR2 := fun x y L Q => ∃ l b xs zs, x = .ref l ∧ y = .ref b ∧ IsT K L l xs ∧ IsT K L b zs ∧ xs ≠ [] ∧ zs ≠ [] ∧ xs.length + zs.length ≤ sizeLine ∧ ∀ p, p ∉ keys L → Q (.ref p) ([(p, .tup (xs ++ zs))] :: L)
def lCatS : LR2 := fun x y L Q => ∃ i j, x = .str i ∧ y = .str j ∧ i.length + j.length ≤ sizeLine ∧ Q (.str (i ++ j)) L
def gAdd (K : PySem.W.Frag) : LR2 := fun x y L Q => iI0 (fun i j => .int (i + j)) x y L Q ∨ lCat x y L Q ∨ lCatT K x y L Q ∨ lCatS x y L Q
abbrev gSub : LR2 := iI0 fun i j => .int (i - j)
def CMulG (i j : Int) : Prop := CMul i j ∨ CMulW i j
def lRep : LR2 := fun x y L Q => ∃ l k xs, x = .ref l ∧ y = .int k ∧ At L l (.lst xs) ∧ -(2 ^ 63) ≤ k ∧ k < 2 ^ 63 ∧ xs.length * k.toNat ≤ sizeLine ∧ ∀ p, p ∉ keys L → Q (.ref p) ([(p, .lst (List.replicate k.toNat xs).flatten)] :: L)
def gMul : LR2 := fun x y L Q => iI CMulG (fun i j => .int (i * j)) x y L Q ∨ lRep x y L Q
abbrev gDiv : LR2 := iI CDivW fun i j => .int (i / j)
abbrev gMod : LR2 := iI (fun _ j => 0 < j) fun i j => .int (i % j)
abbrev gPow : LR2 := iI CPow fun i j => .int (i ^ j.toNat)
abbrev gShl : LR2 := iI CPow fun i j => .int (i * 2 ^ j.toNat)
abbrev gShr : LR2 := iI (fun _ j => 0 ≤ j) fun i j => .int (i / 2 ^ j.toNat)
abbrev gAnd : LR2 := iI0 fun i j => .int (Builtin.bitAnd i j)
abbrev gOr : LR2 := iI0 fun i j => .int (Builtin.bitOr i j)
abbrev gXor : LR2 := iI0 fun i j => .int (Builtin.bitXor i j)
abbrev gLt : LR2 := iI0 fun i j => .bl (decide (i < j))
abbrev gLe : LR2 := iI0 fun i j => .bl (decide (i ≤ j))
abbrev gGt : LR2 := iI0 fun i j => .bl (decide (j < i))
abbrev gGe : LR2 := iI0 fun i j => .bl (decide (j ≤ i))
/-- what a value is as data, by the ledger -/
def DpL (K : PySem.W.Frag) (L : Lg) (v : V) (d : PyData) : Prop := ∀ H, Led H L → Dp K H v d
def lEqS : LR2 := fun x y L Q => scal x y = true ∧ Q (.bl (decide (x = y))) L
def lNeS : LR2 := fun x y L Q => scal x y = true ∧ Q (.bl (!decide (x = y))) L
def lEqD (K : PySem.W.Frag) : LR2 := fun x y L Q => ∃ d e, DpL K L x d ∧ DpL K L y e ∧ SeqAt.shaped d = true ∧ SeqAt.shaped e = true ∧ Q (.bl (PyData.eqv d e)) L
def lNeD (K : PySem.W.Frag) : LR2 := fun x y L Q => ∃ d e, DpL K L x d ∧ DpL K L y e ∧ SeqAt.shaped d = true ∧ SeqAt.shaped e = true ∧ Q (.bl (!PyData.eqv d e)) L
def gEq (K : PySem.W.Frag) : LR2 := fun x y L Q => lEqS x y L Q ∨ lEqD K x y L Q
def gNe (K : PySem.W.Frag) : LR2 := fun x y L Q => lNeS x y L Q ∨ lNeD K x y L Q
def gIs : LR2 := fun x y L Q => y = .non ∧ Q (.bl (decide (x = .non))) L
def gIsN : LR2 := fun x y L Q => y = .non ∧ Q (.bl (!decide (x = .non))) L
/-- what the dict at a holds at y -/
def DGetL (L : Lg) (a : Addr) (y : V) (r : Option V) : Prop := ∀ H, Led H L → DGet H a y r
def lInSeq (K : PySem.W.Frag) (neg : Bool) : LR2 := fun x y L Q => ∃ p xs, y = .ref p ∧ (IsL K L p xs ∨ IsT K L p xs) ∧ flatV x = true ∧ xs.all flatV = true ∧ Q (.bl (if neg then !inV x xs else inV x xs)) L
def lInD (neg : Bool) : LR2 := fun x y L Q => ∃ p r, y = .ref p ∧ DGetL L p x r ∧ Q (.bl (if neg then !r.isSome else r.isSome)) L
def gIn (K : PySem.W.Frag) (neg : Bool) : LR2 := fun x y L Q => lInSeq K neg x y L Q ∨ lInD neg x y L Q
def lIxL (K : PySem.W.Frag) : LR2 := fun x y L Q => ∃ p xs i v, x = .ref p ∧ y = .int i ∧ IsL K L p xs ∧ atI xs i = some v ∧ Q v L
def lIxT (K : PySem.W.Frag) : LR2 := fun x y L Q => ∃ p xs i v, x = .ref p ∧ y = .int i ∧ IsT K L p xs ∧ atI xs i = some v ∧ Q v L
def lIxD : LR2 := fun x y L Q => ∃ p v, x = .ref p ∧ DGetL L p y (some v) ∧ Q v L
def gIx (K : PySem.W.Frag) : LR2 := fun x y L Q => lIxL K x y L Q ∨ lIxT K x y L Q ∨ lIxD x y L Q
def lSlL (K : PySem.W.Frag) : V → Option Int → Option Int → Lg → LVK → Prop := fun x lo hi L Q => ∃ a xs, x = .ref a ∧ IsL K L a xs ∧ ∀ p, p ∉ keys L → Q (.ref p) ([(p, .lst (cutV xs lo hi))] :: L)
def lSlT (K : PySem.W.Frag) : V → Option Int → Option Int → Lg → LVK → Prop := fun x lo hi L Q => ∃ a xs, x = .ref a ∧ IsT K L a xs ∧ ¬ (HT.sIx xs.length 0 lo = 0 ∧ HT.sIx xs.length xs.length hi = xs.length) ∧ ∀ p, p ∉ keys L → Q (.ref p) ([(p, .tup (cutV xs lo hi))] :: L)
def gSl (K : PySem.W.Frag) : V → Option Int → Option Int → Lg → LVK → Prop := fun x lo hi L Q => lSlL K x lo hi L Q ∨ lSlT K x lo hi L Q
def lSetL : LTSet := fun o i v L Q => ∃ p xs k j L', o = .ref p ∧ i = .int k ∧ ixN xs.length k = some j ∧ Wr p (.lst xs) (.lst (xs.set j v)) L L' ∧ Q L'
def lSetD : LTSet := fun o i v L Q => ∃ p kvs k L', o = .ref p ∧ i = kV k ∧ kvs.length < sizeLine ∧ Wr p (.dK kvs) (.dK (putK kvs k v)) L L' ∧ Q L'
def gSet : LTSet := fun o i v L Q => lSetL o i v L Q ∨ lSetD o i v L Q

section
variable {X : Cx}
theorem up_int {C : Int → Int → Prop} {g : Int → Int → V} {x y : V} {H : Hp} {Q : VK} (h : Up (iI C g x y) H Q) : rI C g x y H Q := by
  obtain ⟨L, QL, hL, ⟨i, j, e1, e2, hc, hq⟩, k⟩ := h
  exact ⟨i, j, e1, e2, hc, k _ _ _ hq hL⟩
theorem OpR.imp {f : Value → Value → Sem Value} {r r' : R2} (h : OpR X f r) (hi : ∀ x y H Q, r' x y H Q → r x y H Q) : OpR X f r' := fun pins s σ H x y v u Q I rx ry q => h pins s σ H x y v u Q I rx ry (hi _ _ _ _ q)
theorem lo_cat : OpL X (binaryOp .Add) lCat := OpR.imp op_cat fun x y H Q h => by
  obtain ⟨L, QL, hL, ⟨l, b, xs, zs, e1, e2, h1, h2, h3, hq⟩, k⟩ := h
  exact ⟨l, b, xs, zs, e1, e2, h1 H hL, h2 H hL, h3, fun p hp => k _ _ _ (hq p (hL.fresh hp)) (hL.new hp)⟩
theorem lo_catT : OpL X (binaryOp .Add) (lCatT X.K) := OpR.imp op_catT fun x y H Q h => by
  obtain ⟨L, QL, hL, ⟨l, b, xs, zs, e1, e2, h1, h2, h3, h4, h5, hq⟩, k⟩ := h
  exact ⟨l, b, xs, zs, e1, e2, h1 H hL, h2 H hL, h3, h5, fun z => absurd z h4, fun _ p hp => k _ _ _ (hq p (hL.fresh hp)) (hL.new hp)⟩
theorem lo_catS : OpL X (binaryOp .Add) lCatS := OpR.imp op_add_str fun x y H Q h => by
  obtain ⟨L, QL, hL, ⟨l, b, e1, e2, h1, hq⟩, k⟩ := h
  exact ⟨l, b, e1, e2, h1, k _ _ _ hq hL⟩
theorem lo_add : OpL X (binaryOp .Add) (gAdd X.K) := (OpL.int0 op_add).or (lo_cat.or (lo_catT.or lo_catS))
theorem lo_sub : OpL X (binaryOp .Sub) gSub := OpL.int0 op_sub
theorem lo_rep : OpL X (binaryOp .Mult) lRep := OpR.imp op_rep fun x y H Q h => by
  obtain ⟨L, QL, hL, ⟨l, b, xs, e1, e2, h1, h2, h3, h4, hq⟩, k⟩ := h
  exact ⟨l, b, xs, e1, e2, h1 H hL, h2, h3, h4, fun p hp => k _ _ _ (hq p (hL.fresh hp)) (hL.new hp)⟩
theorem lo_mulI : OpL X (binaryOp .Mult) (iI CMulG fun i j => .int (i * j)) := by
  intro pins s σ H x y v u Q I rx ry q
  obtain ⟨L, QL, hL, ⟨i, j, e1, e2, hc, hq⟩, k⟩ := q
  rcases hc with hc | hc
  · exact op_mul pins s σ H x y v u Q I rx ry ⟨i, j, e1, e2, hc, k _ _ _ hq hL⟩
  · exact op_mulW pins s σ H x y v u Q I rx ry ⟨i, j, e1, e2, hc, k _ _ _ hq hL⟩
theorem lo_mul : OpL X (binaryOp .Mult) gMul := lo_mulI.or lo_rep
theorem lo_div : OpL X (binaryOp .FloorDiv) gDiv := OpL.int op_fdivW
theorem lo_mod : OpL X (binaryOp .Mod) gMod := OpL.int op_mod
theorem lo_pow : OpL X (binaryOp .Pow) gPow := OpL.int op_pow
theorem lo_shl : OpL X (binaryOp .LShift) gShl := OpL.int op_shl
theorem lo_shr : OpL X (binaryOp .RShift) gShr := OpL.int op_shr
theorem lo_and : OpL X (binaryOp .BitAnd) gAnd := OpL.int0 op_and
theorem lo_or : OpL X (binaryOp .BitOr) gOr := OpL.int0 op_or
theorem lo_xor : OpL X (binaryOp .BitXor) gXor := OpL.int0 op_xor
theorem lo_lt : OpL X (compareOp .Lt) gLt := OpL.int0 op_lt
theorem lo_le : OpL X (compareOp .LtE) gLe := OpL.int0 op_le
theorem lo_gt : OpL X (compareOp .Gt) gGt := OpL.int0 op_gt
theorem lo_ge : OpL X (compareOp .GtE) gGe := OpL.int0 op_ge
theorem lo_eq (hu : X.A.units + 64 < cLine) : OpL X (compareOp .Eq) (gEq X.K) :=
  OpL.or (r := lEqS) (r' := lEqD X.K) (OpR.imp op_eq fun x y H Q ⟨L, QL, hL, ⟨h1, h2⟩, k⟩ => ⟨h1, k _ _ _ h2 hL⟩)
    (OpR.imp (op_eqD hu) fun x y H Q ⟨L, QL, hL, ⟨d, e, h1, h2, h3, h4, h5⟩, k⟩ => ⟨d, e, h1 H hL, h2 H hL, h3, h4, k _ _ _ h5 hL⟩)
theorem lo_ne (hu : X.A.units + 64 < cLine) : OpL X (compareOp .NotEq) (gNe X.K) :=
  OpL.or (r := lNeS) (r' := lNeD X.K) (OpR.imp op_ne fun x y H Q ⟨L, QL, hL, ⟨h1, h2⟩, k⟩ => ⟨h1, k _ _ _ h2 hL⟩)
    (OpR.imp (op_neD hu) fun x y H Q ⟨L, QL, hL, ⟨d, e, h1, h2, h3, h4, h5⟩, k⟩ => ⟨d, e, h1 H hL, h2 H hL, h3, h4, k _ _ _ h5 hL⟩)
theorem lo_is : OpL X (compareOp .Is) gIs := OpR.imp op_isN fun x y H Q ⟨L, QL, hL, ⟨h1, h2⟩, k⟩ => ⟨h1, k _ _ _ h2 hL⟩
theorem lo_isN : OpL X (compareOp .IsNot) gIsN := OpR.imp op_notN fun x y H Q ⟨L, QL, hL, ⟨h1, h2⟩, k⟩ => ⟨h1, k _ _ _ h2 hL⟩
theorem lo_inSeq : OpL X (compareOp .In) (lInSeq X.K false) := OpR.imp op_in_seq fun x y H Q ⟨L, QL, hL, ⟨p, xs, e, h, h1, h2, h3⟩, k⟩ => ⟨p, xs, e, h.imp (fun h => h H hL) (fun h => h H hL), h1, h2, k _ _ _ h3 hL⟩
theorem lo_notInSeq : OpL X (compareOp .NotIn) (lInSeq X.K true) := OpR.imp op_notIn_seq fun x y H Q ⟨L, QL, hL, ⟨p, xs, e, h, h1, h2, h3⟩, k⟩ => ⟨p, xs, e, h.imp (fun h => h H hL) (fun h => h H hL), h1, h2, k _ _ _ h3 hL⟩
theorem op_inD (hu : X.A.units + 1 < cLine) : OpR X (compareOp .In) (fun x y H Q => ∃ p r, y = .ref p ∧ DGet H p x r ∧ Q (.bl r.isSome) H) := by
  intro pins s σ H x y v u Q I rx ry ⟨p, r, e, g, q⟩
  subst e
  cases ry
  exact d_in hu I g rx fun s' I' => ⟨.bl _, H, I', rfl, q⟩
theorem op_notInD (hu : X.A.units + 1 < cLine) : OpR X (compareOp .NotIn) (fun x y H Q => ∃ p r, y = .ref p ∧ DGet H p x r ∧ Q (.bl (!r.isSome)) H) := by
  intro pins s σ H x y v u Q I rx ry ⟨p, r, e, g, q⟩
  subst e
  cases ry
  exact d_notIn hu I g rx fun s' I' => ⟨.bl _, H, I', rfl, q⟩
theorem lo_in (hu : X.A.units + 64 < cLine) : OpL X (compareOp .In) (gIn X.K false) := OpL.or (r := lInSeq X.K false) (r' := lInD false) lo_inSeq (OpR.imp (op_inD (by omega)) fun x y H Q ⟨L, QL, hL, ⟨p, r, e, h, h3⟩, k⟩ => ⟨p, r, e, h H hL, k _ _ _ h3 hL⟩)
theorem lo_notIn (hu : X.A.units + 64 < cLine) : OpL X (compareOp .NotIn) (gIn X.K true) := OpL.or (r := lInSeq X.K true) (r' := lInD true) lo_notInSeq (OpR.imp (op_notInD (by omega)) fun x y H Q ⟨L, QL, hL, ⟨p, r, e, h, h3⟩, k⟩ => ⟨p, r, e, h H hL, k _ _ _ h3 hL⟩)
theorem IxR.imp {r r' : R2} (h : IxR X r) (hi : ∀ x y H Q, r' x y H Q → r x y H Q) : IxR X r' := fun value slice pins s σ H x y v u Q I rx ry q hs => h value slice pins s σ H x y v u Q I rx ry (hi _ _ _ _ q) hs
theorem ix_dict (hu : X.A.units + 1 < cLine) : IxR X (fun x y H Q => ∃ a v, x = .ref a ∧ DGet H a y (some v) ∧ Q v H) := by
  intro value slice pins s σ H x y v u Q I rx ry ⟨a, w, e, g, q⟩ hs
  subst e
  cases rx
  exact tail_any (dict_typeIs I g) F.slot_dict_getitem.lookup (d_getItem hu I g ry fun w' s' I' r => ⟨w, H, I', r, q⟩) hs
theorem lx_ix (hu : X.A.units + 64 < cLine) : IxL X (gIx X.K) := IxL.or (r := lIxL X.K) (r' := fun x y L Q => lIxT X.K x y L Q ∨ lIxD x y L Q)
  (IxR.imp ix_list fun x y H Q ⟨L, QL, hL, ⟨p, xs, i, v, e1, e2, h1, h2, h3⟩, k⟩ => ⟨p, xs, i, v, e1, e2, h1 H hL, h2, k _ _ _ h3 hL⟩)
  (IxL.or (r := lIxT X.K) (r' := lIxD) (IxR.imp ix_tup fun x y H Q ⟨L, QL, hL, ⟨p, xs, i, v, e1, e2, h1, h2, h3⟩, k⟩ => ⟨p, xs, i, v, e1, e2, h1 H hL, h2, k _ _ _ h3 hL⟩)
    (IxR.imp (ix_dict (by omega)) fun x y H Q ⟨L, QL, hL, ⟨p, v, e1, h1, h3⟩, k⟩ => ⟨p, v, e1, h1 H hL, k _ _ _ h3 hL⟩))
theorem SlR.imp {r r' : V → Option Int → Option Int → Hp → VK → Prop} (h : SlR X r) (hi : ∀ x lo hi H Q, r' x lo hi H Q → r x lo hi H Q) : SlR X r' := fun pins s σ H x v vl vu lo hi' sl Q I rx hs pl pu q => h pins s σ H x v vl vu lo hi' sl Q I rx hs pl pu (hi _ _ _ _ _ q)
theorem lsl_ok : SlL X (gSl X.K) := SlL.or (r := lSlL X.K) (r' := lSlT X.K)
  (SlR.imp sl_list fun x lo hi H Q ⟨L, QL, hL, ⟨a, xs, e, h1, h2⟩, k⟩ => ⟨a, xs, e, h1 H hL, fun p hp => k _ _ _ (h2 p (hL.fresh hp)) (hL.new hp)⟩)
  (SlR.imp sl_tup fun x lo hi H Q ⟨L, QL, hL, ⟨a, xs, e, h1, h3, h2⟩, k⟩ => ⟨a, xs, e, h1 H hL, h3, fun p hp => k _ _ _ (h2 p (hL.fresh hp)) (hL.new hp)⟩)
theorem PSet.imp {r r' : TSet} (h : PSet X r) (hi : ∀ o i v H Q, r' o i v H Q → r o i v H Q) : PSet X r' := fun pins s σ H o i v ov iv u Q I r1 r2 r3 q => h pins s σ H o i v ov iv u Q I r1 r2 r3 (hi _ _ _ _ _ q)
theorem set_dict (hu : X.A.units + 1 < cLine) : PSet X (fun o i v H Q => ∃ a H', o = .ref a ∧ DPut H a i v H' ∧ Q H') := by
  intro pins s σ H o i v ov iv u Q I r1 r2 r3 ⟨a, H', e, g, q⟩
  subst e
  cases r1
  exact d_setItem hu I g r2 r3 fun s' I' => ⟨H', I', q⟩
theorem lset_ok (hu : X.A.units + 64 < cLine) : SetL X gSet := SetL.or (t := lSetL) (t' := lSetD)
  (PSet.imp set_list fun o i v H Q ⟨L, QL, hL, ⟨p, xs, k', j, L', e1, e2, h1, h2, h3⟩, k⟩ => ⟨p, xs, k', j, e1, e2, h2.at_ H hL, h1, k _ _ h3 (h2.led hL)⟩)
  (PSet.imp (set_dict (by omega)) fun o i v H Q ⟨L, QL, hL, ⟨p, kvs, k', L', e1, e2, h1, h2, h3⟩, k⟩ => ⟨p, _, e1, .inl ⟨kvs, k', h2.at_ H hL, e2, h1, rfl⟩, k _ _ h3 (h2.led hL)⟩)
theorem CallR.imp {f : Value} {r r' : List V → Hp → VK → Prop} (h : CallR X f r) (hi : ∀ xs H Q, r' xs H Q → r xs H Q) : CallR X f r' := fun pins s σ H xs us Q I rx q => h pins s σ H xs us Q I rx (hi _ _ _ q)
theorem MtR.imp {id : String} {r r' : V → List V → Hp → VK → Prop} (h : MtR X id r) (hi : ∀ x xs H Q, r' x xs H Q → r x xs H Q) : MtR X id r' := fun pins s σ H x xs v us Q I r1 r2 q => h pins s σ H x xs v us Q I r1 r2 (hi _ _ _ _ q)
/-! calls of built-ins -/
def lLenSeq (K : PySem.W.Frag) : LRC := fun xs L Q => ∃ p ys, xs = [.ref p] ∧ (IsL K L p ys ∨ IsT K L p ys) ∧ Q (.int ys.length) L
def lLenD : LRC := fun xs L Q => ∃ p kvs, xs = [.ref p] ∧ At L p (.dK kvs) ∧ Q (.int kvs.length) L
def gLen (K : PySem.W.Frag) : LRC := fun xs L Q => lLenSeq K xs L Q ∨ lLenD xs L Q
theorem lk_len : CallL X (.builtin "len") (gLen X.K) := CallL.or (r := lLenSeq X.K) (r' := lLenD)
  (CallR.imp call_len_seq fun xs H Q ⟨L, QL, hL, ⟨p, ys, e, h1, h2⟩, k⟩ => ⟨p, ys, e, h1.imp (fun h => h H hL) (fun h => h H hL), k _ _ _ h2 hL⟩)
  (CallR.imp call_lenD fun xs H Q ⟨L, QL, hL, ⟨p, ys, e, h1, h2⟩, k⟩ => ⟨p, ys, e, h1 H hL, k _ _ _ h2 hL⟩)
def gList (K : PySem.W.Frag) : LRC := fun xs L Q => ∃ p ys, xs = [.ref p] ∧ (IsL K L p ys ∨ IsT K L p ys) ∧ ∀ l, l ∉ keys L → Q (.ref l) ([(l, .lst ys)] :: L)
theorem lk_list : CallL X (.type "list") (gList X.K) := CallR.imp call_list_of fun xs H Q ⟨L, QL, hL, ⟨p, ys, e, h1, h2⟩, k⟩ => ⟨p, ys, e, h1.imp (fun h => h H hL) (fun h => h H hL), fun l hl => k _ _ _ (h2 l (hL.fresh hl)) (hL.new hl)⟩
def gTuple (K : PySem.W.Frag) : LRC := fun xs L Q => ∃ p ys, xs = [.ref p] ∧ ((IsL K L p ys ∧ ∀ l, l ∉ keys L → Q (.ref l) ([(l, .tup ys)] :: L)) ∨ (IsT K L p ys ∧ Q (.ref p) L))
theorem lk_tuple : CallL X (.type "tuple") (gTuple X.K) := CallR.imp call_tuple_of fun xs H Q ⟨L, QL, hL, ⟨p, ys, e, h⟩, k⟩ => ⟨p, ys, e, h.imp (fun ⟨h1, h2⟩ => ⟨h1 H hL, fun l hl => k _ _ _ (h2 l (hL.fresh hl)) (hL.new hl)⟩) (fun ⟨h1, h2⟩ => ⟨h1 H hL, k _ _ _ h2 hL⟩)⟩
def gDivmod : LRC := fun xs L Q => ∃ i j, xs = [.int i, .int j] ∧ CDiv i j ∧ ∀ p, p ∉ keys L → Q (.ref p) ([(p, .tup [.int (i / j), .int (i % j)])] :: L)
theorem lk_divmod : CallL X (.builtin "divmod") gDivmod := CallR.imp call_divmod fun xs H Q ⟨L, QL, hL, ⟨i, j, e, h1, h2⟩, k⟩ => ⟨i, j, e, h1, fun l hl => k _ _ _ (h2 l (hL.fresh hl)) (hL.new hl)⟩
def gAbs : LRC := fun xs L Q => ∃ i, xs = [.int i] ∧ Q (.int (if i < 0 then -i else i)) L
theorem lk_abs : CallL X (.builtin "abs") gAbs := CallR.imp call_abs fun xs H Q ⟨L, QL, hL, ⟨i, e, h⟩, k⟩ => ⟨i, e, k _ _ _ h hL⟩
def gMax2 : LRC := fun xs L Q => ∃ i j, xs = [.int i, .int j] ∧ Q (.int (if j > i then j else i)) L
def gMin2 : LRC := fun xs L Q => ∃ i j, xs = [.int i, .int j] ∧ Q (.int (if j < i then j else i)) L
theorem lk_max2 (hc : X.calm = true) : CallL X (.builtin "max") gMax2 := CallR.imp (call_max2 hc) fun xs H Q ⟨L, QL, hL, ⟨i, j, e, h⟩, k⟩ => ⟨i, j, e, k _ _ _ h hL⟩
theorem lk_min2 (hc : X.calm = true) : CallL X (.builtin "min") gMin2 := CallR.imp (call_min2 hc) fun xs H Q ⟨L, QL, hL, ⟨i, j, e, h⟩, k⟩ => ⟨i, j, e, k _ _ _ h hL⟩
def gInt : LRC := fun xs L Q => (∃ i, xs = [.int i] ∧ Q (.int i) L) ∨ ∃ k, xs = [.bl k] ∧ Q (.int (if k then 1 else 0)) L
theorem lk_int : CallL X (.type "int") gInt := CallR.imp call_int1 fun xs H Q ⟨L, QL, hL, h, k⟩ => h.imp (fun ⟨i, e, q⟩ => ⟨i, e, k _ _ _ q hL⟩) (fun ⟨i, e, q⟩ => ⟨i, e, k _ _ _ q hL⟩)
def gSum (K : PySem.W.Frag) : LRC := fun xs L Q => ∃ (a : Addr) (ns : List Int), xs = [.ref a] ∧ IsL K L a (ns.map V.int) ∧ Q (.int ns.sum) L
theorem lk_sum (hc : X.calm = true) : CallL X (.builtin "sum") (gSum X.K) := CallR.imp (cr_sum hc) fun xs H Q ⟨L, QL, hL, ⟨a, ns, e, h1, h⟩, k⟩ => ⟨a, ns, e, h1 H hL, k _ _ _ h hL⟩
def gAll (K : PySem.W.Frag) : LRC := fun xs L Q => ∃ (a : Addr) (bs : List Bool), xs = [.ref a] ∧ IsL K L a (bs.map V.bl) ∧ Q (.bl (bs.all id)) L
theorem lk_all (hc : X.calm = true) : CallL X (.builtin "all") (gAll X.K) := CallR.imp (cr_all hc) fun xs H Q ⟨L, QL, hL, ⟨a, ns, e, h1, h⟩, k⟩ => ⟨a, ns, e, h1 H hL, k _ _ _ h hL⟩
def TyXL (K : PySem.W.Frag) (L : Lg) (x : V) (t : Value) : Prop := ∀ H, Led H L → TyX K H x t
def lIsi (K : PySem.W.Frag) : LRC := fun xs L Q => ∃ (x c : V) (t u : Value) (b : Bool), xs = [x, c] ∧ ClsV c u ∧ TyXL K L x t ∧ PySem.W.kitOne K t u = some b ∧ Q (.bl b) L
theorem lk_isi : CallL X (.builtin "isinstance") (lIsi X.K) := CallR.imp call_isi fun xs H Q ⟨L, QL, hL, ⟨x, c, t, u, b, e, h1, h2, h3, h⟩, k⟩ => ⟨x, c, t, u, b, e, h1, h2 H hL, h3, k _ _ _ h hL⟩
/-! methods of built-ins -/
def gAppend : V → LRC := fun x vs L Q => ∃ l xs y L', x = .ref l ∧ vs = [y] ∧ xs.length < sizeLine ∧ Wr l (.lst xs) (.lst (xs ++ [y])) L L' ∧ Q .non L'
theorem lm_append : MtL X "list.append" gAppend := MtR.imp (mt_append : MtM X "list.append" rAppend) fun x xs H Q ⟨L, QL, hL, ⟨l, ys, y, L', e1, e2, h1, h2, h3⟩, k⟩ => ⟨l, ys, y, e1, e2, h2.at_ H hL, h1, k _ _ _ h3 (h2.led hL)⟩
def gExtend : V → LRC := fun x vs L Q => ∃ l b xs zs L', x = .ref l ∧ vs = [.ref b] ∧ At L b (.lst zs) ∧ xs.length + zs.length ≤ sizeLine ∧ Wr l (.lst xs) (.lst (xs ++ zs)) L L' ∧ Q .non L'
theorem lm_extend : MtL X "list.extend" gExtend := MtR.imp (mt_extend : MtM X "list.extend" rExtend) fun x xs H Q ⟨L, QL, hL, ⟨l, b, ys, zs, L', e1, e2, h0, h1, h2, h3⟩, k⟩ => ⟨l, b, ys, zs, e1, e2, h2.at_ H hL, h0 H hL, h1, k _ _ _ h3 (h2.led hL)⟩
def gPop : V → LRC := fun x vs L Q => ∃ l xs y L', x = .ref l ∧ vs = [] ∧ xs[xs.length - 1]? = some y ∧ Wr l (.lst xs) (.lst xs.dropLast) L L' ∧ Q y L'
theorem lm_pop : MtL X "list.pop" gPop := MtR.imp (mt_pop : MtM X "list.pop" rPop) fun x xs H Q ⟨L, QL, hL, ⟨l, ys, y, L', e1, e2, h1, h2, h3⟩, k⟩ => ⟨l, ys, y, e1, e2, h2.at_ H hL, h1, k _ _ _ h3 (h2.led hL)⟩
def gClear : V → LRC := fun x vs L Q => ∃ l xs L', x = .ref l ∧ vs = [] ∧ Wr l (.lst xs) (.lst []) L L' ∧ Q .non L'
theorem lm_clear : MtL X "list.clear" gClear := MtR.imp (mt_clear : MtM X "list.clear" rClear) fun x xs H Q ⟨L, QL, hL, ⟨l, ys, L', e1, e2, h2, h3⟩, k⟩ => ⟨l, ys, e1, e2, h2.at_ H hL, k _ _ _ h3 (h2.led hL)⟩
end
end VM

end

section
namespace VM
open PySem PySem.Spec L2
open PyProof.Rows hiding St

/-! ### a def and what it keeps -/
def OkM (P : Program) (w : World) (K : PySem.W.Frag) (mg : Str → Option Value) (base : Heap) (k : Nat) (f : Addr) (ps : List Str) (sp : LSp) : Prop := ∃ fd, FnOk P w K mg base CX0 k f fd ps (UpP sp) ∧ Binds K fd ps [] ∧ PySem.W.keepIn K (.ref f) = true
def OkF (P : Program) (w : World) (K : PySem.W.Frag) (mg : Str → Option Value) (base : Heap) (k : Nat) (x : Str) (ps : List Str) (sp : LSp) : Prop := mg x = some (.ref (He.ga K x)) ∧ OkM P w K mg base k (He.ga K x) ps sp
theorem OkM.imp {P : Program} {w : World} {K : PySem.W.Frag} {mg : Str → Option Value} {base : Heap} {k : Nat} {f : Addr} {ps : List Str} {sp sp' : LSp} (G : OkM P w K mg base k f ps sp) (h : ∀ vs L Q E, sp' vs L Q E → sp vs L Q E) : OkM P w K mg base k f ps sp' := by
  obtain ⟨fd, F, b, kp⟩ := G
  exact ⟨fd, F.imp fun vs H Q E ⟨L, QL, EL, h1, h2, h3⟩ => ⟨L, QL, EL, h1, h _ _ _ _ h2, h3⟩, b, kp⟩
section
variable {X : Cx} {k : Nat} {f C : Addr} {ps : List Str} {sp : LSp} {x m : Str} {p pos apos : Pos} {e o : Expr} {es : List Expr} {ta te : LTE} {t : LTA}
def lCallP (sp : LSp) (t : LTA) : LTE := fun σ L Q => t σ L fun vs => Wk fun L1 => sp vs L1 Q noX
def lMethP (C : Addr) (m : Str) (sp : LSp) (ta : LTE) (t : LTA) : LTE := fun σ L Q => ta σ L fun x L1 => ObjL C m x L1 ∧ t σ L1 fun vs => Wk fun L2 => sp (x :: vs) L2 Q noX
def MakeP (C : Addr) (sp : LSp) (Q : LVK) : List V → Lg → Prop := fun vs L1 => ∀ x dx, x ∉ keys L1 → sp (.ref x :: vs) ([(x, .ins C dx [])] :: L1) (fun v L2 => v = .non ∧ Q (.ref x) L2) noX
def lMakeP (C : Addr) (sp : LSp) (t : LTA) : LTE := fun σ L Q => t σ L (MakeP C sp Q)
theorem LE.imp {e : Expr} {t t' : LTE} (p : LE X e t) (h : ∀ σ L Q, t' σ L Q → t σ L Q) : LE X e t' := PE.imp p fun σ H Q ⟨L, QL, hL, q, k⟩ => ⟨L, QL, hL, h _ _ _ q, k⟩
/-- a promise behind another telling of the ledger -/
def wkP (sp : LSp) : LSp := fun vs L Q E => Wk (fun L1 => sp vs L1 Q E) L
theorem FnOk.wk {P : Program} {w : World} {K : PySem.W.Frag} {mg : Str → Option Value} {base : Heap} {CX : CXT} {k : Nat} {f : Addr} {fd : FuncData} {ps : List Str} {sp : LSp} (F : FnOk P w K mg base CX k f fd ps (UpP sp)) : FnOk P w K mg base CX k f fd ps (UpP (wkP sp)) :=
  F.imp fun vs H Q E ⟨L, QL, EL, h1, ⟨L', l, h2⟩, h3⟩ => ⟨L', QL, EL, l H h1, h2, h3⟩
theorem lcallO (G : OkF X.prog X.w X.K X.mg X.base k x ps sp) (hr : Room k X.A) (hg : Gl X x) (ha : LA X (e :: es) t) (hdb : (x == ("__debug__" : Str)) = false := by decide)
    (he : starEach (e :: es) X.env = (false, eval e X.env) :: starEach es X.env := by rfl) (hpl : (backTo pos (starEach es X.env)).any (·.1) = false := by rfl) : LE X (.Call (.Name x p) (e :: es) [] pos) (lCallP sp t) := by
  obtain ⟨hm, fd, F, b, kp⟩ := G
  refine LE.imp (lcall (E := noX) (dvs := []) (FnOk.wk F) hr hg hm kp b .nil passN ha hdb he hpl) fun σ L Q h => ?_
  show t σ L fun vs => Wk fun L1 => sp (vs ++ []) L1 Q noX
  simp only [List.append_nil]
  exact h
theorem lcallO0 (G : OkF X.prog X.w X.K X.mg X.base k x ps sp) (hr : Room k X.A) (hg : Gl X x) (hdb : (x == ("__debug__" : Str)) = false := by decide) : LE X (.Call (.Name x p) [] [] pos) (lCallP sp lNil) := by
  obtain ⟨hm, fd, F, b, kp⟩ := G
  exact lcall0 (E := noX) (dvs := []) (FnOk.wk F) hr hg hm kp b .nil passN hdb
theorem lmethO {pl : Sem Bool} (c : Cls X.K C) (hm : Meth X.K C m f) (G : OkM X.prog X.w X.K X.mg X.base k f ps sp) (hr : Room k X.A) (he : LE X o ta) (ha : LA X (e :: es) t)
    (hst : starEach (e :: es) X.env = (false, eval e X.env) :: starEach es X.env := by rfl) (hpl : (backTo pos (starEach es X.env)).any (·.1) = false := by rfl)
    (ht : eval (.Call (.Attribute o m apos) (e :: es) [] pos) X.env = (do
      let ov ← eval o X.env
      standAt apos.atName
      let (f, first) ← holding [ov] (getMethod ov m pl)
      callWith pos f first (backTo pos (starEach (e :: es) X.env)) (backToKw pos (keywordEach [] X.env))) := by rfl) :
    LE X (.Call (.Attribute o m apos) (e :: es) [] pos) (lMethP C m sp ta t) := by
  obtain ⟨fd, F, b, kp⟩ := G
  refine LE.imp (lmeth (E := noX) (dvs := []) he c hm (FnOk.wk F) hr b .nil passN ha hst hpl ht) fun σ L Q h => ?_
  show ta σ L fun x L1 => ObjL C m x L1 ∧ t σ L1 fun vs => Wk fun L2 => sp (x :: (vs ++ [])) L2 Q noX
  simp only [List.append_nil]
  exact h
theorem lmethO0 {pl : Sem Bool} (c : Cls X.K C) (hm : Meth X.K C m f) (G : OkM X.prog X.w X.K X.mg X.base k f ps sp) (hr : Room k X.A) (he : LE X o ta)
    (ht : eval (.Call (.Attribute o m apos) [] [] pos) X.env = (do
      let ov ← eval o X.env
      standAt apos.atName
      let (f, first) ← holding [ov] (getMethod ov m pl)
      callWith pos f first (backTo pos (starEach [] X.env)) (backToKw pos (keywordEach [] X.env))) := by rfl) :
    LE X (.Call (.Attribute o m apos) [] [] pos) (lMethP C m sp ta lNil) := by
  obtain ⟨fd, F, b, kp⟩ := G
  exact lmeth0 (E := noX) (dvs := []) he c hm (FnOk.wk F) hr b .nil passN ht
theorem lmakeO (M : Mk X.K C f) (hm : X.mg x = some (.ref C)) (G : OkM X.prog X.w X.K X.mg X.base k f ps sp) (hr : Room (k + 1) X.A) (hg : Gl X x)
    (ha : LA X (e :: es) t) (hdb : (x == ("__debug__" : Str)) = false := by decide) (he : starEach (e :: es) X.env = (false, eval e X.env) :: starEach es X.env := by rfl) (hpl : (backTo pos (starEach es X.env)).any (·.1) = false := by rfl) :
    LE X (.Call (.Name x p) (e :: es) [] pos) (lMakeP C sp t) := by
  obtain ⟨fd, F, b, kp⟩ := G
  refine LE.imp (lmake (E := noX) (dvs := []) M F hr hg hm b .nil passN ha hdb he hpl) fun σ L Q h => ?_
  show t σ L fun vs L1 => ∀ x dx, x ∉ keys L1 → sp (.ref x :: (vs ++ [])) ([(x, .ins C dx [])] :: L1) (fun v L2 => v = .non ∧ Q (.ref x) L2) noX
  simp only [List.append_nil]
  exact h
/-- a def, by its body; the slots at the entry told as they are -/
theorem fn_ok2 {P : Program} {w : World} {K : PySem.W.Frag} {mg : Str → Option Value} {base : Heap} {y qual : Str} {params : Arguments} {body : List Stmt} {scope : Scope} {dvs : List V} {kws : List (Str × V)} {g : Addr} {fd : FuncData} {N qs : List Str} {j : Nat} {sp' : LSp}
    (F : FunD K y qual params body scope dvs kws g fd) (S : FnScope N qs scope) (len : ∀ vs L Q E, sp' vs L Q E → vs.length = qs.length)
    (hbody : ∀ (cdv : Value) (A : Around) (outer : List Env) (s : Shared) (H : Hp) (E : XK), Room j (A.deeper (envOfC qual scope s.heap.objs.size g cdv)) →
      ∃ t, LSs (cxOf CX0 P w K mg base N qual scope g cdv A outer s H E).nox body t ∧ ∀ vs L Q EL σ, sp' vs L Q EL → start N vs = σ → t ⟨fun _ => Wk (Q .non), Q, fun _ _ => False, fun _ _ => False⟩ σ L) : FnOk P w K mg base CX0 (j + 1) g fd qs (UpP sp') :=
  fn_ok F S len fun cdv A outer s H E hr => let ⟨t, h1, h2⟩ := hbody cdv A outer s H E hr; ⟨t, h1, fun vs L Q EL h => h2 vs L Q EL _ h rfl⟩
def gNeg : LR1 := fun x L Q => ∃ i, x = .int i ∧ Q (.int (-i)) L
theorem lo_neg : UnL X (unaryOp .USub) gNeg := by
  intro pins s σ H x v Q I rx q
  obtain ⟨L, QL, hL, ⟨i, e, hq⟩, k⟩ := q
  exact un_neg pins s σ H x v Q I rx ⟨i, e, k _ _ _ hq hL⟩
/-! promises of so many arguments -/
def sp1 (P : V → Lg → LVK → Prop) : LSp := fun vs L Q _ => ∃ a, vs = [a] ∧ P a L Q
def sp2 (P : V → V → Lg → LVK → Prop) : LSp := fun vs L Q _ => ∃ a b, vs = [a, b] ∧ P a b L Q
def sp3 (P : V → V → V → Lg → LVK → Prop) : LSp := fun vs L Q _ => ∃ a b c, vs = [a, b, c] ∧ P a b c L Q
def sp4 (P : V → V → V → V → Lg → LVK → Prop) : LSp := fun vs L Q _ => ∃ a b c d, vs = [a, b, c, d] ∧ P a b c d L Q
def sp5 (P : V → V → V → V → V → Lg → LVK → Prop) : LSp := fun vs L Q _ => ∃ a b c d e, vs = [a, b, c, d, e] ∧ P a b c d e L Q
def sp6 (P : V → V → V → V → V → V → Lg → LVK → Prop) : LSp := fun vs L Q _ => ∃ a b c d e f, vs = [a, b, c, d, e, f] ∧ P a b c d e f L Q
def sp7 (P : V → V → V → V → V → V → V → Lg → LVK → Prop) : LSp := fun vs L Q _ => ∃ a b c d e f g, vs = [a, b, c, d, e, f, g] ∧ P a b c d e f g L Q
theorem len1 {P : V → Lg → LVK → Prop} {n : Nat} (h : n = 1) : ∀ vs L Q E, sp1 P vs L Q E → vs.length = n := fun _ _ _ _ ⟨_, e, _⟩ => by rw [e, h]; rfl
theorem len2 {P : V → V → Lg → LVK → Prop} {n : Nat} (h : n = 2) : ∀ vs L Q E, sp2 P vs L Q E → vs.length = n := fun _ _ _ _ ⟨_, _, e, _⟩ => by rw [e, h]; rfl
theorem len3 {P : V → V → V → Lg → LVK → Prop} {n : Nat} (h : n = 3) : ∀ vs L Q E, sp3 P vs L Q E → vs.length = n := fun _ _ _ _ ⟨_, _, _, e, _⟩ => by rw [e, h]; rfl
theorem len4 {P : V → V → V → V → Lg → LVK → Prop} {n : Nat} (h : n = 4) : ∀ vs L Q E, sp4 P vs L Q E → vs.length = n := fun _ _ _ _ ⟨_, _, _, _, e, _⟩ => by rw [e, h]; rfl
theorem len5 {P : V → V → V → V → V → Lg → LVK → Prop} {n : Nat} (h : n = 5) : ∀ vs L Q E, sp5 P vs L Q E → vs.length = n := fun _ _ _ _ ⟨_, _, _, _, _, e, _⟩ => by rw [e, h]; rfl
theorem len6 {P : V → V → V → V → V → V → Lg → LVK → Prop} {n : Nat} (h : n = 6) : ∀ vs L Q E, sp6 P vs L Q E → vs.length = n := fun _ _ _ _ ⟨_, _, _, _, _, _, e, _⟩ => by rw [e, h]; rfl
theorem len7 {P : V → V → V → V → V → V → V → Lg → LVK → Prop} {n : Nat} (h : n = 7) : ∀ vs L Q E, sp7 P vs L Q E → vs.length = n := fun _ _ _ _ ⟨_, _, _, _, _, _, _, e, _⟩ => by rw [e, h]; rfl
end
section
variable {σ : St} {L : Lg} {Q : LVK} {E : LXK} {ta te : LTE} {t : LTA} {sp : LSp} {C : Addr} {m : Str} {a b c d e f g : V} {vs : List V}
theorem s_callP (k : t σ L fun vs => Wk fun L1 => sp vs L1 Q noX) : lCallP sp t σ L Q := k
theorem s_methP (k : ta σ L fun x L1 => ObjL C m x L1 ∧ t σ L1 fun vs => Wk fun L2 => sp (x :: vs) L2 Q noX) : lMethP C m sp ta t σ L Q := k
theorem s_makeP (k : t σ L (MakeP C sp Q)) : lMakeP C sp t σ L Q := k
theorem s_makeK (k : ∀ x dx, sp (.ref x :: vs) ([(x, .ins C dx [])] :: L) (fun v L2 => v = .non ∧ Q (.ref x) L2) noX) : MakeP C sp Q vs L := fun x dx _ => k x dx
theorem s_sp1 {P : V → Lg → LVK → Prop} (k : P a L Q) : sp1 P [a] L Q E := ⟨_, rfl, k⟩
theorem s_sp2 {P : V → V → Lg → LVK → Prop} (k : P a b L Q) : sp2 P [a, b] L Q E := ⟨_, _, rfl, k⟩
theorem s_sp3 {P : V → V → V → Lg → LVK → Prop} (k : P a b c L Q) : sp3 P [a, b, c] L Q E := ⟨_, _, _, rfl, k⟩
theorem s_sp4 {P : V → V → V → V → Lg → LVK → Prop} (k : P a b c d L Q) : sp4 P [a, b, c, d] L Q E := ⟨_, _, _, _, rfl, k⟩
theorem s_sp5 {P : V → V → V → V → V → Lg → LVK → Prop} (k : P a b c d e L Q) : sp5 P [a, b, c, d, e] L Q E := ⟨_, _, _, _, _, rfl, k⟩
theorem s_sp6 {P : V → V → V → V → V → V → Lg → LVK → Prop} (k : P a b c d e f L Q) : sp6 P [a, b, c, d, e, f] L Q E := ⟨_, _, _, _, _, _, rfl, k⟩
theorem s_sp7 {P : V → V → V → V → V → V → V → Lg → LVK → Prop} (k : P a b c d e f g L Q) : sp7 P [a, b, c, d, e, f, g] L Q E := ⟨_, _, _, _, _, _, _, rfl, k⟩
theorem s_obj {dx p : Addr} {fs : List (Str × V)} (h : At L p (.ins C dx fs)) (hl : fs.lookup m = none) : ObjL C m (.ref p) L := fun H l => ⟨p, dx, fs, rfl, h H l, hl⟩
theorem s_objk {dx p : Addr} {fs : List (Str × V)} {B : Prop} (h : At L p (.ins C dx fs)) (hl : fs.lookup m = none) (k : B) : ObjL C m (.ref p) L ∧ B := ⟨s_obj h hl, k⟩
theorem s_tylk {K : PySem.W.Frag} {p : Addr} {xs : List V} {B : Prop} (h : IsL K L p xs) (k : B) : TyL K "list" (.ref p) L ∧ B := ⟨fun H l => .inl ⟨rfl, xs, h H l⟩, k⟩
theorem putF_len (f : Str) (v : V) : ∀ fs : List (Str × V), (putF f v fs).length ≤ fs.length + 1
  | [] => by simp [putF]
  | (g, u) :: r => by
    have := putF_len f v r
    unfold putF
    split <;> simp <;> omega
theorem fz {f : Str} {v : V} {fs : List (Str × V)} {n : Nat} (h : fs.length < n) : (putF f v fs).length < n + 1 := by
  have := putF_len f v fs
  omega
theorem fz0 : ([] : List (Str × V)).length < 980 := by decide
theorem fzw {fs : List (Str × V)} {n : Nat} (h : fs.length < n) (hn : n ≤ 1000 := by decide) : fs.length < 1000 := Nat.lt_of_lt_of_le h hn
/-- a list of values that are ints -/
inductive IntsV : List V → List Int → Prop
  | nil : IntsV [] []
  | cons {a : Int} {xs : List V} {ns : List Int} (h : IntsV xs ns) : IntsV (.int a :: xs) (a :: ns)
  | map {ns : List Int} : IntsV (ns.map V.int) ns
  | app {xs ys : List V} {ns ms : List Int} (h : IntsV xs ns) (h' : IntsV ys ms) : IntsV (xs ++ ys) (ns ++ ms)
theorem IntsV.eq {xs : List V} {ns : List Int} (h : IntsV xs ns) : xs = ns.map V.int := by
  induction h with
  | nil => rfl
  | cons _ ih => rw [ih]; rfl
  | map => rfl
  | app _ _ i1 i2 => rw [i1, i2, List.map_append]
theorem s_init {Q : Lg → Prop} (k : Q L) : (V.non = .non ∧ Q L) := ⟨rfl, k⟩
/-! steps of the operations -/
variable {K : PySem.W.Frag} {i j : Int} {p q : Addr} {xs ys : List V} {ns ms : List Int} {v y : V} {L' : Lg}
theorem s_add_i (k : Q (.int (i + j)) L) : gAdd K (.int i) (.int j) L Q := .inl ⟨i, j, rfl, rfl, k⟩
theorem s_add_l (h1 : At L p (.lst xs)) (h2 : At L q (.lst ys)) (hz : xs.length + ys.length ≤ sizeLine) (k : ∀ r, Q (.ref r) ([(r, .lst (xs ++ ys))] :: L)) : gAdd K (.ref p) (.ref q) L Q := .inr (.inl ⟨p, q, xs, ys, rfl, rfl, h1, h2, hz, fun r _ => k r⟩)
theorem s_add_t (h1 : IsT K L p xs) (h2 : IsT K L q ys) (n1 : xs ≠ []) (n2 : ys ≠ []) (hz : xs.length + ys.length ≤ sizeLine) (k : ∀ r, Q (.ref r) ([(r, .tup (xs ++ ys))] :: L)) : gAdd K (.ref p) (.ref q) L Q := .inr (.inr (.inl ⟨p, q, xs, ys, rfl, rfl, h1, h2, n1, n2, hz, fun r _ => k r⟩))
theorem s_sub (k : Q (.int (i - j)) L) : gSub (.int i) (.int j) L Q := ⟨i, j, rfl, rfl, k⟩
theorem s_mul (h : CMulG i j) (k : Q (.int (i * j)) L) : gMul (.int i) (.int j) L Q := .inl ⟨i, j, rfl, rfl, h, k⟩
theorem s_rep (h : At L p (.lst xs)) (h1 : 0 ≤ j) (h2 : xs.length * j.toNat ≤ 1000000) (h3 : j < 2 ^ 63) (k : ∀ r, Q (.ref r) ([(r, .lst (List.replicate j.toNat xs).flatten)] :: L)) : gMul (.ref p) (.int j) L Q := .inr ⟨p, j, xs, rfl, rfl, h, by omega, h3, Nat.le_trans h2 (by decide), fun r _ => k r⟩
theorem s_mod (h : 0 < j) (k : Q (.int (i % j)) L) : gMod (.int i) (.int j) L Q := ⟨i, j, rfl, rfl, h, k⟩
theorem s_div (h : CDivW i j) (k : Q (.int (i / j)) L) : gDiv (.int i) (.int j) L Q := ⟨i, j, rfl, rfl, h, k⟩
theorem s_pow {r : Int} (h : CPow i j) (e : i ^ j.toNat = r) (k : Q (.int r) L) : gPow (.int i) (.int j) L Q := ⟨i, j, rfl, rfl, h, by subst e; exact k⟩
theorem s_shl (h : CPow i j) (k : Q (.int (i * 2 ^ j.toNat)) L) : gShl (.int i) (.int j) L Q := ⟨i, j, rfl, rfl, h, k⟩
theorem s_shr (h : 0 ≤ j) (k : Q (.int (i / 2 ^ j.toNat)) L) : gShr (.int i) (.int j) L Q := ⟨i, j, rfl, rfl, h, k⟩
theorem s_band (k : Q (.int (Builtin.bitAnd i j)) L) : gAnd (.int i) (.int j) L Q := ⟨i, j, rfl, rfl, k⟩
theorem s_bor (k : Q (.int (Builtin.bitOr i j)) L) : gOr (.int i) (.int j) L Q := ⟨i, j, rfl, rfl, k⟩
theorem s_bxor (k : Q (.int (Builtin.bitXor i j)) L) : gXor (.int i) (.int j) L Q := ⟨i, j, rfl, rfl, k⟩
theorem s_neg (k : Q (.int (-i)) L) : gNeg (.int i) L Q := ⟨i, rfl, k⟩
theorem s_lt (k : Q (.bl (decide (i < j))) L) : gLt (.int i) (.int j) L Q := ⟨i, j, rfl, rfl, k⟩
theorem s_le (k : Q (.bl (decide (i ≤ j))) L) : gLe (.int i) (.int j) L Q := ⟨i, j, rfl, rfl, k⟩
theorem s_gt (k : Q (.bl (decide (j < i))) L) : gGt (.int i) (.int j) L Q := ⟨i, j, rfl, rfl, k⟩
theorem s_ge (k : Q (.bl (decide (j ≤ i))) L) : gGe (.int i) (.int j) L Q := ⟨i, j, rfl, rfl, k⟩
theorem dec_i {i j : Int} : decide (V.int i = V.int j) = decide (i = j) := by
  by_cases h : i = j
  · subst h; simp
  · rw [decide_eq_false h, decide_eq_false (fun z => h (V.int.inj z))]
theorem dec_b {i j : Bool} : decide (V.bl i = V.bl j) = decide (i = j) := by
  by_cases h : i = j
  · subst h; simp
  · rw [decide_eq_false h, decide_eq_false (fun z => h (V.bl.inj z))]
theorem dec_s {i j : Str} : decide (V.str i = V.str j) = decide (i = j) := by
  by_cases h : i = j
  · subst h; simp
  · rw [decide_eq_false h, decide_eq_false (fun z => h (V.str.inj z))]
theorem s_eq_i (k : Q (.bl (decide (i = j))) L) : gEq K (.int i) (.int j) L Q := .inl ⟨rfl, by rw [dec_i]; exact k⟩
theorem s_ne_i (k : Q (.bl (!decide (i = j))) L) : gNe K (.int i) (.int j) L Q := .inl ⟨rfl, by rw [dec_i]; exact k⟩
theorem s_eq_b {a b : Bool} (k : Q (.bl (decide (a = b))) L) : gEq K (.bl a) (.bl b) L Q := .inl ⟨rfl, by rw [dec_b]; exact k⟩
theorem s_ne_b {a b : Bool} (k : Q (.bl (!decide (a = b))) L) : gNe K (.bl a) (.bl b) L Q := .inl ⟨rfl, by rw [dec_b]; exact k⟩
theorem s_eq_s {a b : Str} (k : Q (.bl (decide (a = b))) L) : gEq K (.str a) (.str b) L Q := .inl ⟨rfl, by rw [dec_s]; exact k⟩
theorem s_ne_s {a b : Str} (k : Q (.bl (!decide (a = b))) L) : gNe K (.str a) (.str b) L Q := .inl ⟨rfl, by rw [dec_s]; exact k⟩
theorem s_eq_d {x y : V} {d e : PyData} (h1 : DpL K L x d) (h2 : DpL K L y e) (h3 : SeqAt.shaped d = true) (h4 : SeqAt.shaped e = true) (k : Q (.bl (PyData.eqv d e)) L) : gEq K x y L Q := .inr ⟨d, e, h1, h2, h3, h4, k⟩
theorem s_ne_d {x y : V} {d e : PyData} (h1 : DpL K L x d) (h2 : DpL K L y e) (h3 : SeqAt.shaped d = true) (h4 : SeqAt.shaped e = true) (k : Q (.bl (!PyData.eqv d e)) L) : gNe K x y L Q := .inr ⟨d, e, h1, h2, h3, h4, k⟩
theorem s_is {b : Bool} (e : decide (v = .non) = b) (k : Q (.bl b) L) : gIs v .non L Q := ⟨rfl, by rw [e]; exact k⟩
theorem s_isN {b : Bool} (e : decide (v = .non) = b) (k : Q (.bl (!b)) L) : gIsN v .non L Q := ⟨rfl, by rw [e]; exact k⟩
theorem s_ix_l (h : IsL K L p xs) (hv : atI xs i = some v) (k : Q v L) : gIx K (.ref p) (.int i) L Q := .inl ⟨p, xs, i, v, rfl, rfl, h, hv, k⟩
theorem s_ix_t (h : IsT K L p xs) (hv : atI xs i = some v) (k : Q v L) : gIx K (.ref p) (.int i) L Q := .inr (.inl ⟨p, xs, i, v, rfl, rfl, h, hv, k⟩)
theorem atI_ints {ns : List Int} {i : Int} (h0 : 0 ≤ i) (h1 : i < ns.length) : atI (ns.map V.int) i = some (.int (ns.getD i.toNat 0)) := by
  obtain ⟨n, rfl⟩ : ∃ n : Nat, i = n := ⟨i.toNat, by omega⟩
  refine atI_nat ?_
  have hn : n < ns.length := by omega
  simp [List.getElem?_map, List.getElem?_eq_getElem hn, List.getD_eq_getElem?_getD]
theorem s_ix_ints (h : IsL K L p (ns.map V.int)) (h0 : 0 ≤ i) (h1 : i < ns.length) (k : Q (.int (ns.getD i.toNat 0)) L) : gIx K (.ref p) (.int i) L Q := s_ix_l h (atI_ints h0 h1) k
theorem s_ix_tints (h : IsT K L p (ns.map V.int)) (h0 : 0 ≤ i) (h1 : i < ns.length) (k : Q (.int (ns.getD i.toNat 0)) L) : gIx K (.ref p) (.int i) L Q := s_ix_t h (atI_ints h0 h1) k
theorem s_sl_l {lo hi : Option Int} (h : IsL K L p xs) (k : ∀ r, Q (.ref r) ([(r, .lst (cutV xs lo hi))] :: L)) : gSl K (.ref p) lo hi L Q := .inl ⟨p, xs, rfl, h, fun r _ => k r⟩
theorem s_sl_t {lo hi : Option Int} (h : IsT K L p xs) (hn : ¬ (HT.sIx xs.length 0 lo = 0 ∧ HT.sIx xs.length xs.length hi = xs.length)) (k : ∀ r, Q (.ref r) ([(r, .tup (cutV xs lo hi))] :: L)) : gSl K (.ref p) lo hi L Q := .inr ⟨p, xs, rfl, h, hn, fun r _ => k r⟩
theorem s_set_l {Q : Lg → Prop} {n : Nat} (hw : Wr p (.lst xs) (.lst (xs.set n v)) L L') (h : ixN xs.length i = some n) (k : Q L') : gSet (.ref p) (.int i) v L Q := .inl ⟨p, xs, i, n, L', rfl, rfl, h, hw, k⟩
theorem ixN_pos {n : Nat} {i : Int} (h0 : 0 ≤ i) (h1 : i < n) : ixN n i = some i.toNat := by
  unfold ixN
  rw [if_pos h0, if_pos h1]
theorem s_fldv {f : Str} {dx : Addr} {fs : List (Str × V)} (h : At L p (.ins C dx fs)) (c : Cls K C) (n : NoAttr K C f) (hl : fs.lookup f = some v) (k : Q v L) : FldL K f (.ref p) L Q := fun H l => ⟨p, C, dx, fs, v, rfl, h H l, c, n, hl, L, l, k⟩
theorem s_setfv {f : Str} {Q : Lg → Prop} {dx : Addr} {fs : List (Str × V)} (c : Cls K C) (n : NoAttr K C f) (hz : fs.length < 1000) (hw : Wr p (.ins C dx fs) (.ins C dx (putF f v fs)) L L') (k : Q L') : SetFL K f (.ref p) v L Q := fun H l => ⟨p, C, dx, fs, rfl, hw.at_ H l, c, n, hz, L', hw.led l, k⟩
theorem s_len_l (h : IsL K L p xs) (k : Q (.int xs.length) L) : gLen K [.ref p] L Q := .inl ⟨p, xs, rfl, .inl h, k⟩
theorem s_len_i (h : IsL K L p (ns.map V.int)) (k : Q (.int ns.length) L) : gLen K [.ref p] L Q := s_len_l h (by rw [List.length_map]; exact k)
theorem s_len_ti (h : IsT K L p (ns.map V.int)) (k : Q (.int ns.length) L) : gLen K [.ref p] L Q := .inl ⟨p, _, rfl, .inr h, by rw [List.length_map]; exact k⟩
/-- a cut of a list -/
def cutG {α : Type} (xs : List α) (lo hi : Option Int) : List α := (xs.drop (HT.sIx xs.length 0 lo)).take (HT.sIx xs.length xs.length hi - HT.sIx xs.length 0 lo)
theorem cutV_map {α : Type} (f : α → V) (xs : List α) (lo hi : Option Int) : cutV (xs.map f) lo hi = (cutG xs lo hi).map f := by
  unfold cutV cutG
  rw [List.length_map, List.map_take, List.map_drop]
theorem s_sl_i {lo hi : Option Int} (h : IsL K L p (ns.map V.int)) (k : ∀ r, Q (.ref r) ([(r, .lst ((cutG ns lo hi).map V.int))] :: L)) : gSl K (.ref p) lo hi L Q := .inl ⟨p, _, rfl, h, fun r _ => by rw [cutV_map]; exact k r⟩
theorem s_set_i {Q : Lg → Prop} {n : Nat} (hw : Wr p (.lst (ns.map V.int)) (.lst ((ns.set n j).map V.int)) L L') (h : ixN ns.length i = some n) (k : Q L') : gSet (.ref p) (.int i) (.int j) L Q := by
  rw [List.map_set] at hw
  exact .inl ⟨p, ns.map V.int, i, n, L', rfl, rfl, by rw [List.length_map]; exact h, hw, k⟩
theorem s_len_t (h : IsT K L p xs) (k : Q (.int xs.length) L) : gLen K [.ref p] L Q := .inl ⟨p, xs, rfl, .inr h, k⟩
theorem s_list_l (h : IsL K L p xs) (k : ∀ r, Q (.ref r) ([(r, .lst xs)] :: L)) : gList K [.ref p] L Q := ⟨p, xs, rfl, .inl h, fun r _ => k r⟩
theorem s_list_t (h : IsT K L p xs) (k : ∀ r, Q (.ref r) ([(r, .lst xs)] :: L)) : gList K [.ref p] L Q := ⟨p, xs, rfl, .inr h, fun r _ => k r⟩
theorem s_tuple_l (h : IsL K L p xs) (k : ∀ r, Q (.ref r) ([(r, .tup xs)] :: L)) : gTuple K [.ref p] L Q := ⟨p, xs, rfl, .inl ⟨h, fun r _ => k r⟩⟩
theorem s_tuple_t (h : IsT K L p xs) (k : Q (.ref p) L) : gTuple K [.ref p] L Q := ⟨p, xs, rfl, .inr ⟨h, k⟩⟩
theorem s_divmod (h : CDiv i j) (k : ∀ r, Q (.ref r) ([(r, .tup [.int (i / j), .int (i % j)])] :: L)) : gDivmod [.int i, .int j] L Q := ⟨i, j, rfl, h, fun r _ => k r⟩
theorem s_abs (k : Q (.int (if i < 0 then -i else i)) L) : gAbs [.int i] L Q := ⟨i, rfl, k⟩
theorem s_max2 (k : Q (.int (if j > i then j else i)) L) : gMax2 [.int i, .int j] L Q := ⟨i, j, rfl, k⟩
theorem s_min2 (k : Q (.int (if j < i then j else i)) L) : gMin2 [.int i, .int j] L Q := ⟨i, j, rfl, k⟩
theorem s_int_i (k : Q (.int i) L) : gInt [.int i] L Q := .inl ⟨i, rfl, k⟩
theorem s_int_b {b : Bool} (k : Q (.int (if b then 1 else 0)) L) : gInt [.bl b] L Q := .inr ⟨b, rfl, k⟩
theorem s_sum (h : IsL K L p (ns.map V.int)) (k : Q (.int ns.sum) L) : gSum K [.ref p] L Q := ⟨p, ns, rfl, h, k⟩
theorem s_isi_ty {T : String} {t : Value} {b : Bool} {x : V} (h : TyXL K L x t) (hb : PySem.W.kitOne K t (.type T) = some b) (k : Q (.bl b) L) : lIsi K [x, .ty T] L Q := ⟨x, .ty T, t, .type T, b, rfl, .ty T, h, hb, k⟩
theorem kit_same {K : PySem.W.Frag} {S : String} : PySem.W.kitOne K (.type S) (.type S) = some true := by
  unfold PySem.W.kitOne
  rw [if_pos (by simp)]
theorem kit_ty {K : PySem.W.Frag} {S T : String} {b : Bool} (h : (if S = T then some true else if PySem.W.kitMeta T = true then Option.map (fun x => x.contains (Value.type T)) (PySem.fastBuiltinMro S) else none) = some b) : PySem.W.kitOne K (.type S) (.type T) = some b := by
  by_cases e : S = T
  · rw [if_pos e] at h
    cases h
    rw [e]
    exact kit_same
  · rw [if_neg e] at h
    unfold PySem.W.kitOne
    rw [if_neg (by simpa using e)]
    exact h
theorem ty_i : TyXL K L (.int i) (.type "int") := fun _ _ => .base (.int i)
theorem ty_b {b : Bool} : TyXL K L (.bl b) (.type "bool") := fun _ _ => .base (.bl b)
theorem ty_n : TyXL K L .non (.type "NoneType") := fun _ _ => .base .non
theorem ty_s {s : Str} : TyXL K L (.str s) (.type "str") := fun _ _ => .base (.str s)
theorem ty_t (h : At L p (.tup xs)) : TyXL K L (.ref p) (.type "tuple") := fun H l => .base (.tup (h H l))
theorem ty_l (h : At L p (.lst xs)) : TyXL K L (.ref p) (.type "list") := fun H l => .base (.lst (h H l))
theorem ty_d {kvs : List (Key × V)} (h : At L p (.dK kvs)) : TyXL K L (.ref p) (.type "dict") := fun H l => .base (.dK (h H l))
theorem s_append (hw : Wr p (.lst xs) (.lst (xs ++ [y])) L L') (hz : xs.length < 1000000) (k : Q .non L') : gAppend (.ref p) [y] L Q := ⟨p, xs, y, L', rfl, rfl, Nat.lt_of_lt_of_le hz (by decide), hw, k⟩
theorem s_extend (h : At L q (.lst ys)) (hw : Wr p (.lst xs) (.lst (xs ++ ys)) L L') (hz : xs.length + ys.length ≤ 1000000) (k : Q .non L') : gExtend (.ref p) [.ref q] L Q := ⟨p, q, xs, ys, L', rfl, rfl, h, Nat.le_trans hz (by decide), hw, k⟩
theorem s_clear (hw : Wr p (.lst xs) (.lst []) L L') (k : Q .non L') : gClear (.ref p) [] L Q := ⟨p, xs, L', rfl, rfl, hw, k⟩
theorem s_pop (hw : Wr p (.lst xs) (.lst xs.dropLast) L L') (h : xs[xs.length - 1]? = some v) (k : Q v L') : gPop (.ref p) [] L Q := ⟨p, xs, v, L', rfl, rfl, h, hw, k⟩
theorem tyl_l (h : IsL K L p xs) : TyL K "list" (.ref p) L := fun H l => .inl ⟨rfl, xs, h H l⟩
theorem tyl_a (h : At L p (.lst xs)) : TyL K "list" (.ref p) L := tyl_l (IsL.at_ h)
/-! truth -/
theorem s_tru_b {Q : Bool → Lg → Prop} {b : Bool} (k : Q b L) : gTru K (.bl b) L Q := fun H l => ⟨b, rfl, L, l, k⟩
theorem s_tru_i {Q : Bool → Lg → Prop} (k : Q (i != 0) L) : gTru K (.int i) L Q := fun H l => ⟨_, rfl, L, l, k⟩
theorem s_tru_l {Q : Bool → Lg → Prop} (h : IsL K L p xs) (k : Q (!xs.isEmpty) L) : gTru K (.ref p) L Q := fun H l => ⟨_, .inl ⟨xs, h H l, rfl⟩, L, l, k⟩
/-! what is walked -/
variable {R : LWk → Lg → Prop} {tl : LTE}
def RngK1 (R : LWk → Lg → Prop) : List V → Lg → Prop := fun vs L1 => ∃ j : Int, vs = [.int j] ∧ (-(2 ^ 62) ≤ j ∧ j < 2 ^ 62) ∧ R (wkR 0 j.toNat) L1
def RngK2 (R : LWk → Lg → Prop) : List V → Lg → Prop := fun vs L1 => ∃ i j : Int, vs = [.int i, .int j] ∧ (-(2 ^ 62) ≤ i ∧ i < 2 ^ 62 ∧ -(2 ^ 62) ≤ j ∧ j < 2 ^ 62) ∧ R (wkR i (j - i).toNat) L1
def SeqK (K : PySem.W.Frag) (R : LWk → Lg → Prop) : V → Lg → Prop := fun x L1 => ∃ a xs, x = .ref a ∧ ((IsL K L1 a xs ∧ R (wkL K a xs) L1) ∨ (IsT K L1 a xs ∧ R (wkT K a xs) L1))
def TupK (K : PySem.W.Frag) (R : LWk → Lg → Prop) : V → Lg → Prop := fun x L1 => ∃ a xs, x = .ref a ∧ ((IsT K L1 a xs ∧ R (wkT K a xs) L1))
theorem s_rng1 (k : t σ L (RngK1 R)) : kRng1 t σ L R := k
theorem s_rng1v (h : -(2 ^ 62) ≤ j ∧ j < 2 ^ 62) (k : R (wkR 0 j.toNat) L) : RngK1 R [.int j] L := ⟨j, rfl, h, k⟩
theorem s_rng2 (k : t σ L (RngK2 R)) : kRng2 t σ L R := k
theorem s_rng2v (h : -(2 ^ 62) ≤ i ∧ i < 2 ^ 62 ∧ -(2 ^ 62) ≤ j ∧ j < 2 ^ 62) (k : R (wkR i (j - i).toNat) L) : RngK2 R [.int i, .int j] L := ⟨i, j, rfl, h, k⟩
theorem s_kseq (k : tl σ L (SeqK K R)) : kSeq K tl σ L R := k
theorem s_kseqv (h : IsL K L p xs) (k : R (wkL K p xs) L) : SeqK K R (.ref p) L := ⟨p, xs, rfl, .inl ⟨h, k⟩⟩
theorem s_kseqt (h : IsT K L p xs) (k : R (wkT K p xs) L) : SeqK K R (.ref p) L := ⟨p, xs, rfl, .inr ⟨h, k⟩⟩
theorem s_ktup (k : tl σ L (TupK K R)) : kTup K tl σ L R := k
theorem s_ktupv (h : IsT K L p xs) (k : R (wkT K p xs) L) : TupK K R (.ref p) L := ⟨p, xs, rfl, h, k⟩
/-! loops by their word -/
variable {gg : LTG} {tb : LTS} {n0 : St → Lg → Prop} {r0 : LVK} {b0 c0 : St → Lg → Prop} {lo : Int} {n : Nat}
theorem f_range (Pv : Nat → St → Lg → Prop) (h0 : Wk (Pv 0 σ) L) (hs : ∀ i σ L, i < n → Pv i σ L → gg (.int (lo + i)) σ L fun σ2 L2 => tb ⟨Pv (i + 1), r0, n0, Pv (i + 1)⟩ σ2 L2) (hd : ∀ σ L, Pv n σ L → n0 σ L) : ForR (wkR lo n) gg tb ⟨n0, r0, b0, c0⟩ σ L :=
  ⟨Pv, h0, fun _ _ _ _ _ => trivial, fun i x σ L L' hi p ⟨e1, e2⟩ => by subst e1; subst e2; exact hs i σ _ hi p, hd⟩
theorem f_range0 (Pv : Nat → St → Lg → Prop) (h0 : Wk (Pv 0 σ) L) (hs : ∀ (i : Nat) σ L, i < n → Pv i σ L → gg (.int (i : Int)) σ L fun σ2 L2 => tb ⟨Pv (i + 1), r0, n0, Pv (i + 1)⟩ σ2 L2) (hd : ∀ σ L, Pv n σ L → n0 σ L) : ForR (wkR 0 n) gg tb ⟨n0, r0, b0, c0⟩ σ L :=
  f_range Pv h0 (fun i σ L hi p => by rw [Int.zero_add]; exact hs i σ L hi p) hd
theorem f_list (Pv : Nat → St → Lg → Prop) (h0 : Wk (Pv 0 σ) L) (hG : ∀ i σ L, Pv i σ L → IsL K L p xs) (hs : ∀ i x σ L, xs[i]? = some x → Pv i σ L → gg x σ L fun σ2 L2 => tb ⟨Pv (i + 1), r0, n0, Pv (i + 1)⟩ σ2 L2) (hd : ∀ σ L, Pv xs.length σ L → n0 σ L) : ForR (wkL K p xs) gg tb ⟨n0, r0, b0, c0⟩ σ L :=
  ⟨Pv, h0, fun i σ L _ h => hG i σ L h, fun i x σ L L' hi p ⟨e1, e2⟩ => by subst e1; exact hs i x σ _ e2 p, hd⟩
theorem f_tup (Pv : Nat → St → Lg → Prop) (h0 : Wk (Pv 0 σ) L) (hG : ∀ i σ L, Pv i σ L → IsT K L p xs) (hs : ∀ i x σ L, xs[i]? = some x → Pv i σ L → gg x σ L fun σ2 L2 => tb ⟨Pv (i + 1), r0, n0, Pv (i + 1)⟩ σ2 L2) (hd : ∀ σ L, Pv xs.length σ L → n0 σ L) : ForR (wkT K p xs) gg tb ⟨n0, r0, b0, c0⟩ σ L :=
  ⟨Pv, h0, fun i σ L _ h => hG i σ L h, fun i x σ L L' hi p ⟨e1, e2⟩ => by subst e1; exact hs i x σ _ e2 p, hd⟩
theorem f_while {c : LTT} (W : Nat → St → Lg → Prop) (h0 : Wk (fun L => ∃ m, W m σ L) L) (hs : ∀ m σ L, W m σ L → c σ L fun b L1 => if b = true then tb ⟨fun σ' L' => ∃ m', m' < m ∧ W m' σ' L', r0, n0, fun σ' L' => ∃ m', m' < m ∧ W m' σ' L'⟩ σ L1 else n0 σ L1) : lWhile c tb ⟨n0, r0, b0, c0⟩ σ L := ⟨W, h0, hs⟩
/-! comprehensions by their word -/
variable {tt : LTT} {vw : List Nat} {Dl : Addr} {wi : LTI}
theorem s_lc (k : wi σ L fun W L1 => ∀ D, D ∉ keys L1 → LcR W gg tt te vw σ D L1 Q) : lLc wi gg tt te vw σ L Q := k
/-- the ends of a comprehension's turn -/
def LcY (Dl : Addr) (acc : List V) (P : List V → Lg → Prop) : LVK := fun y L4 => acc.length < sizeLine ∧ ∃ L5, Lic L4 ([(Dl, .lst acc)] :: L5) ∧ P (acc ++ [y]) L5
def LcN (Dl : Addr) (acc : List V) (P : List V → Lg → Prop) : Lg → Prop := fun L3 => ∃ L5, Lic L3 ([(Dl, .lst acc)] :: L5) ∧ P acc L5
def LcT (tt : LTT) (te : LTE) (Dl : Addr) (acc : List V) (P : List V → Lg → Prop) (σ' : St) (vw : List Nat) : St → Lg → Prop := fun σ2 L2 => wipe σ2 vw = σ' ∧ tt σ2 L2 fun b L3 => if b = true then te σ2 L3 (LcY Dl acc P) else LcN Dl acc P L3
theorem c_range (Pv : Nat → List V → Lg → Prop) {σw : St} (hw : wipe σ vw = σw) (h0 : Wk (Pv 0 []) L) (hs : ∀ i acc L, i < n → Pv i acc L → gg (.int (lo + i)) σw ([(Dl, .lst acc)] :: L) (LcT tt te Dl acc (Pv (i + 1)) σw vw)) (hd : ∀ acc L, Pv n acc L → Wk (Q (.ref Dl)) ([(Dl, .lst acc)] :: L)) : LcR (wkR lo n) gg tt te vw σ Dl L Q := by
  refine ⟨Pv, h0, fun _ _ _ _ _ => trivial, fun i acc x L L' hi p _ ⟨e1, e2⟩ => ?_, fun acc L p _ => hd acc L p⟩
  subst e1; subst e2; subst hw
  exact hs i acc _ hi p
theorem c_range0 (Pv : Nat → List V → Lg → Prop) {σw : St} (hw : wipe σ vw = σw) (h0 : Wk (Pv 0 []) L) (hs : ∀ (i : Nat) acc L, i < n → Pv i acc L → gg (.int (i : Int)) σw ([(Dl, .lst acc)] :: L) (LcT tt te Dl acc (Pv (i + 1)) σw vw)) (hd : ∀ acc L, Pv n acc L → Wk (Q (.ref Dl)) ([(Dl, .lst acc)] :: L)) : LcR (wkR 0 n) gg tt te vw σ Dl L Q :=
  c_range Pv hw h0 (fun i acc L hi p => by rw [Int.zero_add]; exact hs i acc L hi p) hd
theorem c_list (Pv : Nat → List V → Lg → Prop) {σw : St} (hw : wipe σ vw = σw) (h0 : Wk (Pv 0 []) L) (hG : ∀ i acc L, Pv i acc L → IsL K ([(Dl, .lst acc)] :: L) p xs) (hs : ∀ i acc x L, xs[i]? = some x → Pv i acc L → gg x σw ([(Dl, .lst acc)] :: L) (LcT tt te Dl acc (Pv (i + 1)) σw vw)) (hd : ∀ acc L, Pv xs.length acc L → Wk (Q (.ref Dl)) ([(Dl, .lst acc)] :: L)) : LcR (wkL K p xs) gg tt te vw σ Dl L Q := by
  refine ⟨Pv, h0, fun i acc L _ h => hG i acc L h, fun i acc x L L' hi p _ ⟨e1, e2⟩ => ?_, fun acc L p _ => hd acc L p⟩
  subst e1; subst hw
  exact hs i acc x _ e2 p
theorem s_lct {σ2 σ' : St} {acc : List V} {P : List V → Lg → Prop} (h : wipe σ2 vw = σ') (k : tt σ2 L fun b L3 => if b = true then te σ2 L3 (LcY Dl acc P) else LcN Dl acc P L3) : LcT tt te Dl acc P σ' vw σ2 L := ⟨h, k⟩
theorem s_lcy {acc : List V} {P : List V → Lg → Prop} {L5 : Lg} (hz : acc.length < 1000000) (l : Lic L ([(Dl, .lst acc)] :: L5)) (k : P (acc ++ [y]) L5) : LcY Dl acc P y L := ⟨Nat.lt_of_lt_of_le hz (by decide), L5, l, k⟩
theorem s_lcn {acc : List V} {P : List V → Lg → Prop} {L5 : Lg} (l : Lic L ([(Dl, .lst acc)] :: L5)) (k : P acc L5) : LcN Dl acc P L := ⟨L5, l, k⟩
theorem s_yes {Q : Bool → Lg → Prop} (k : Q true L) : lYes σ L Q := k
end
end VM

end

section
namespace VM
open PySem PySem.Spec L2
open PyProof.Rows hiding St

/-! ### data without truths and texts -/
def nbD : Nat → PyData → Bool
  | _, .none => true
  | _, .int _ => true
  | _, .str s => PyData.strOk s
  | n + 1, .list xs => xs.all (nbD n)
  | n + 1, .tuple xs => xs.all (nbD n)
  | _, _ => false
theorem nb_canLay : ∀ n d, nbD n d = true → d.canLay0 = true := by
  intro n
  induction n with
  | zero => intro d h; cases d <;> simp [nbD] at h <;> simp [PyData.canLay0, h]
  | succ n ih =>
    have all : ∀ xs : List PyData, xs.all (nbD n) = true → PyData.canLayAll0 xs = true := by
      intro xs
      induction xs with
      | nil => intro _; simp [PyData.canLayAll0]
      | cons x xs ihx =>
        intro h
        rw [List.all_cons, Bool.and_eq_true] at h
        simp [PyData.canLayAll0, ih x h.1, ihx h.2]
    intro d h
    cases d with
    | list xs => simp only [nbD] at h; simp [PyData.canLay0, all xs h]
    | tuple xs => simp only [nbD] at h; simp [PyData.canLay0, all xs h]
    | none => simp [PyData.canLay0]
    | int i => simp [PyData.canLay0]
    | str i => simp only [nbD] at h; simp [PyData.canLay0, h]
    | _ => simp [nbD] at h
theorem nb_depth : ∀ n d, nbD n d = true → d.depth ≤ n := by
  intro n
  induction n with
  | zero => intro d h; cases d <;> simp [nbD] at h <;> simp [PyData.depth]
  | succ n ih =>
    have all : ∀ xs : List PyData, xs.all (nbD n) = true → PyData.depthAll xs ≤ n := by
      intro xs
      induction xs with
      | nil => intro _; simp [PyData.depthAll]
      | cons x xs ihx =>
        intro h
        rw [List.all_cons, Bool.and_eq_true] at h
        have h1 := ih x h.1
        have h2 := ihx h.2
        simp only [PyData.depthAll]
        omega
    intro d h
    cases d with
    | list xs => simp only [nbD] at h; have := all xs h; simp only [PyData.depth]; omega
    | tuple xs => simp only [nbD] at h; have := all xs h; simp only [PyData.depth]; omega
    | none => simp [PyData.depth]
    | int i => simp [PyData.depth]
    | str i => simp [PyData.depth]
    | _ => simp [nbD] at h
theorem shaped_nb {n : Nat} {d : PyData} (h : nbD n d = true) (hn : n ≤ 64 := by decide) : SeqAt.shaped d = true := by
  unfold SeqAt.shaped
  rw [nb_canLay n d h, decide_eq_true (Nat.le_trans (nb_depth n d h) hn)]
  rfl
theorem eqv_nb : ∀ n m d e, nbD n d = true → nbD m e = true → (PyData.eqv d e = true ↔ d = e) := by
  intro n
  induction n with
  | zero =>
    intro m d e h h'
    cases d <;> simp [nbD] at h <;> cases e <;> cases m <;> simp [nbD] at h' <;> simp [PyData.eqv]
  | succ n ih =>
    have all : ∀ (m : Nat) (xs ys : List PyData), xs.all (nbD n) = true → ys.all (nbD m) = true → (PyData.eqvAll xs ys = true ↔ xs = ys) := by
      intro m xs
      induction xs with
      | nil => intro ys _ _; cases ys <;> simp [PyData.eqvAll]
      | cons x xs ihx =>
        intro ys h h'
        rw [List.all_cons, Bool.and_eq_true] at h
        cases ys with
        | nil => simp [PyData.eqvAll]
        | cons y ys =>
          rw [List.all_cons, Bool.and_eq_true] at h'
          simp only [PyData.eqvAll, Bool.and_eq_true, ih m x y h.1 h'.1, ihx ys h.2 h'.2, List.cons.injEq]
    intro m d e h h'
    cases d with
    | list xs =>
      cases e with
      | list ys =>
        cases m with
        | zero => simp [nbD] at h'
        | succ m =>
          simp only [nbD] at h h'
          simp only [PyData.eqv, all m xs ys h h', PyData.list.injEq]
      | _ => cases m <;> simp [nbD] at h' <;> simp [PyData.eqv]
    | tuple xs =>
      cases e with
      | tuple ys =>
        cases m with
        | zero => simp [nbD] at h'
        | succ m =>
          simp only [nbD] at h h'
          simp only [PyData.eqv, all m xs ys h h', PyData.tuple.injEq]
      | _ => cases m <;> simp [nbD] at h' <;> simp [PyData.eqv]
    | none => cases e <;> cases m <;> simp [nbD] at h' <;> simp [PyData.eqv]
    | int i => cases e <;> cases m <;> simp [nbD] at h' <;> simp [PyData.eqv]
    | str i => cases e <;> cases m <;> simp [nbD] at h' <;> simp [PyData.eqv]
    | _ => simp [nbD] at h
/-- ints, rows of ints as data -/
def dI (ns : List Int) : PyData := .list (ns.map .int)
def dT (ns : List Int) : PyData := .tuple (ns.map .int)
def dR (rows : List (List Int)) : PyData := .list (rows.map dI)
def dTs (ts : List (List Int)) : PyData := .list (ts.map dT)
theorem nb_ints (n : Nat) : ∀ ns : List Int, (ns.map PyData.int).all (nbD n) = true
  | [] => rfl
  | a :: ns => by rw [List.map_cons, List.all_cons, nb_ints n ns]; cases n <;> rfl
theorem nb_dI (ns : List Int) : nbD 1 (dI ns) = true := nb_ints 0 ns
theorem nb_dT (ns : List Int) : nbD 1 (dT ns) = true := nb_ints 0 ns
theorem nb_dR : ∀ rows : List (List Int), nbD 2 (dR rows) = true
  | [] => rfl
  | r :: rows => by
    have h : (rows.map dI).all (nbD 1) = true := nb_dR rows
    show ((dI r) :: rows.map dI).all (nbD 1) = true
    rw [List.all_cons, h, nb_dI]
    rfl
theorem nb_dTs : ∀ rows : List (List Int), nbD 2 (dTs rows) = true
  | [] => rfl
  | r :: rows => by
    have h : (rows.map dT).all (nbD 1) = true := nb_dTs rows
    show ((dT r) :: rows.map dT).all (nbD 1) = true
    rw [List.all_cons, h, nb_dT]
    rfl
theorem ints_inj : ∀ {ns ms : List Int}, ns.map PyData.int = ms.map PyData.int → ns = ms
  | [], [], _ => rfl
  | [], _ :: _, h => by simp at h
  | _ :: _, [], h => by simp at h
  | a :: ns, b :: ms, h => by
    simp only [List.map_cons, List.cons.injEq, PyData.int.injEq] at h
    rw [h.1, ints_inj h.2]
theorem dI_inj {ns ms : List Int} (h : dI ns = dI ms) : ns = ms := ints_inj (PyData.list.inj h)
theorem dT_inj {ns ms : List Int} (h : dT ns = dT ms) : ns = ms := ints_inj (PyData.tuple.inj h)
theorem dR_inj : ∀ {ns ms : List (List Int)}, dR ns = dR ms → ns = ms
  | [], [], _ => rfl
  | [], _ :: _, h => by simp [dR] at h
  | _ :: _, [], h => by simp [dR] at h
  | a :: ns, b :: ms, h => by
    simp only [dR, List.map_cons, PyData.list.injEq, List.cons.injEq] at h
    rw [dI_inj h.1, dR_inj (congrArg PyData.list h.2)]
theorem dTs_inj : ∀ {ns ms : List (List Int)}, dTs ns = dTs ms → ns = ms
  | [], [], _ => rfl
  | [], _ :: _, h => by simp [dTs] at h
  | _ :: _, [], h => by simp [dTs] at h
  | a :: ns, b :: ms, h => by
    simp only [dTs, List.map_cons, PyData.list.injEq, List.cons.injEq] at h
    rw [dT_inj h.1, dTs_inj (congrArg PyData.list h.2)]
theorem dec_of_iff {b : Bool} {p : Prop} [Decidable p] (h : b = true ↔ p) : b = decide p := by
  by_cases q : p
  · rw [decide_eq_true q]; exact h.mpr q
  · rw [decide_eq_false q]; cases b
    · rfl
    · exact absurd (h.mp rfl) q
theorem eqv_dI (ns ms : List Int) : PyData.eqv (dI ns) (dI ms) = decide (ns = ms) := dec_of_iff ((eqv_nb 1 1 _ _ (nb_dI ns) (nb_dI ms)).trans ⟨dI_inj, fun h => h ▸ rfl⟩)
theorem eqv_dT (ns ms : List Int) : PyData.eqv (dT ns) (dT ms) = decide (ns = ms) := dec_of_iff ((eqv_nb 1 1 _ _ (nb_dT ns) (nb_dT ms)).trans ⟨dT_inj, fun h => h ▸ rfl⟩)
theorem eqv_dR (ns ms : List (List Int)) : PyData.eqv (dR ns) (dR ms) = decide (ns = ms) := dec_of_iff ((eqv_nb 2 2 _ _ (nb_dR ns) (nb_dR ms)).trans ⟨dR_inj, fun h => h ▸ rfl⟩)
theorem eqv_dTs (ns ms : List (List Int)) : PyData.eqv (dTs ns) (dTs ms) = decide (ns = ms) := dec_of_iff ((eqv_nb 2 2 _ _ (nb_dTs ns) (nb_dTs ms)).trans ⟨dTs_inj, fun h => h ▸ rfl⟩)

/-! ### data in the ledger -/
section
variable {K : PySem.W.Frag} {L : Lg} {p q : Addr} {ns ms : List Int} {Q : LVK}
theorem dpAll_ints {K : PySem.W.Frag} {H : Hp} : ∀ ns : List Int, DpAll K H (ns.map V.int) (ns.map PyData.int)
  | [] => .nil
  | a :: ns => .cons (.int a) (dpAll_ints ns)
theorem DpL.ints (h : IsL K L p (ns.map V.int)) : DpL K L (.ref p) (dI ns) := fun H l => .lst (h H l) (dpAll_ints ns)
theorem DpL.tints (h : IsT K L p (ns.map V.int)) : DpL K L (.ref p) (dT ns) := fun H l => .tup (h H l) (dpAll_ints ns)
theorem s_ix_iv {xs : List V} {i : Int} (h : IsL K L p xs) (e : IntsV xs ns) (h0 : 0 ≤ i) (h1 : i < ns.length) (k : Q (.int (ns.getD i.toNat 0)) L) : gIx K (.ref p) (.int i) L Q := s_ix_ints (e.eq ▸ h) h0 h1 k
theorem s_ix_tv {xs : List V} {i : Int} (h : IsT K L p xs) (e : IntsV xs ns) (h0 : 0 ≤ i) (h1 : i < ns.length) (k : Q (.int (ns.getD i.toNat 0)) L) : gIx K (.ref p) (.int i) L Q := s_ix_tints (e.eq ▸ h) h0 h1 k
theorem s_eq_iv {xs ys : List V} (h1 : IsL K L p xs) (h2 : IsL K L q ys) (e1 : IntsV xs ns) (e2 : IntsV ys ms) (k : Q (.bl (decide (ns = ms))) L) : gEq K (.ref p) (.ref q) L Q := s_eq_d (DpL.ints (e1.eq ▸ h1)) (DpL.ints (e2.eq ▸ h2)) (shaped_nb (nb_dI _)) (shaped_nb (nb_dI _)) (by rw [eqv_dI]; exact k)
theorem s_ne_iv {xs ys : List V} (h1 : IsL K L p xs) (h2 : IsL K L q ys) (e1 : IntsV xs ns) (e2 : IntsV ys ms) (k : Q (.bl (!decide (ns = ms))) L) : gNe K (.ref p) (.ref q) L Q := s_ne_d (DpL.ints (e1.eq ▸ h1)) (DpL.ints (e2.eq ▸ h2)) (shaped_nb (nb_dI _)) (shaped_nb (nb_dI _)) (by rw [eqv_dI]; exact k)
theorem s_eq_tv {xs ys : List V} (h1 : IsT K L p xs) (h2 : IsT K L q ys) (e1 : IntsV xs ns) (e2 : IntsV ys ms) (k : Q (.bl (decide (ns = ms))) L) : gEq K (.ref p) (.ref q) L Q := s_eq_d (DpL.tints (e1.eq ▸ h1)) (DpL.tints (e2.eq ▸ h2)) (shaped_nb (nb_dT _)) (shaped_nb (nb_dT _)) (by rw [eqv_dT]; exact k)
theorem s_ne_tv {xs ys : List V} (h1 : IsT K L p xs) (h2 : IsT K L q ys) (e1 : IntsV xs ns) (e2 : IntsV ys ms) (k : Q (.bl (!decide (ns = ms))) L) : gNe K (.ref p) (.ref q) L Q := s_ne_d (DpL.tints (e1.eq ▸ h1)) (DpL.tints (e2.eq ▸ h2)) (shaped_nb (nb_dT _)) (shaped_nb (nb_dT _)) (by rw [eqv_dT]; exact k)
theorem s_eq_ints (h1 : IsL K L p (ns.map V.int)) (h2 : IsL K L q (ms.map V.int)) (k : Q (.bl (decide (ns = ms))) L) : gEq K (.ref p) (.ref q) L Q := s_eq_d (DpL.ints h1) (DpL.ints h2) (shaped_nb (nb_dI _)) (shaped_nb (nb_dI _)) (by rw [eqv_dI]; exact k)
theorem s_ne_ints (h1 : IsL K L p (ns.map V.int)) (h2 : IsL K L q (ms.map V.int)) (k : Q (.bl (!decide (ns = ms))) L) : gNe K (.ref p) (.ref q) L Q := s_ne_d (DpL.ints h1) (DpL.ints h2) (shaped_nb (nb_dI _)) (shaped_nb (nb_dI _)) (by rw [eqv_dI]; exact k)
theorem s_eq_tints (h1 : IsT K L p (ns.map V.int)) (h2 : IsT K L q (ms.map V.int)) (k : Q (.bl (decide (ns = ms))) L) : gEq K (.ref p) (.ref q) L Q := s_eq_d (DpL.tints h1) (DpL.tints h2) (shaped_nb (nb_dT _)) (shaped_nb (nb_dT _)) (by rw [eqv_dT]; exact k)
theorem s_ne_tints (h1 : IsT K L p (ns.map V.int)) (h2 : IsT K L q (ms.map V.int)) (k : Q (.bl (!decide (ns = ms))) L) : gNe K (.ref p) (.ref q) L Q := s_ne_d (DpL.tints h1) (DpL.tints h2) (shaped_nb (nb_dT _)) (shaped_nb (nb_dT _)) (by rw [eqv_dT]; exact k)
end

/-! ### a volume: a list of rows, lists of ints, each its own object -/
def cellsL (as : List Addr) (rows : List (List Int)) : Chunk := (as.zip rows).map fun x => (x.1, HO.lst (x.2.map V.int))
def volC (p : Addr) (as : List Addr) (rows : List (List Int)) : Chunk := (p, .lst (as.map V.ref)) :: cellsL as rows
theorem cells_split : ∀ {as : List Addr} {rows : List (List Int)} {i : Nat} {a : Addr} {r : List Int}, as[i]? = some a → rows[i]? = some r →
    ∃ A B, cellsL as rows = A ++ (a, .lst (r.map V.int)) :: B ∧ ∀ r' : List Int, cellsL as (rows.set i r') = A ++ (a, .lst (r'.map V.int)) :: B
  | [], _, _, _, _, h, _ => by simp at h
  | _ :: _, [], _, _, _, _, h => by simp at h
  | a :: as, r :: rows, 0, a', r', h1, h2 => by
    simp only [List.getElem?_cons_zero, Option.some.injEq] at h1 h2
    subst h1; subst h2
    exact ⟨[], cellsL as rows, rfl, fun r' => rfl⟩
  | a :: as, r :: rows, i + 1, a', r', h1, h2 => by
    simp only [List.getElem?_cons_succ] at h1 h2
    obtain ⟨A, B, e1, e2⟩ := cells_split h1 h2
    refine ⟨(a, .lst (r.map V.int)) :: A, B, ?_, fun r'' => ?_⟩
    · show (a, HO.lst (r.map V.int)) :: cellsL as rows = _
      rw [e1]; rfl
    · show (a, HO.lst (r.map V.int)) :: cellsL as (rows.set i r'') = _
      rw [e2]; rfl
theorem cells_mem {as : List Addr} {rows : List (List Int)} {i : Nat} {a : Addr} {r : List Int} (h1 : as[i]? = some a) (h2 : rows[i]? = some r) : (a, HO.lst (r.map V.int)) ∈ cellsL as rows := by
  obtain ⟨A, B, e, _⟩ := cells_split h1 h2
  rw [e]; simp
section
variable {K : PySem.W.Frag} {L L' : Lg} {p q a : Addr} {as : List Addr} {rows : List (List Int)} {i : Nat} {r r' : List Int}
theorem vol_top (h : volC p as rows ∈ L) : At L p (.lst (as.map V.ref)) := At.mem h List.mem_cons_self
theorem vol_row (h : volC p as rows ∈ L) (h1 : as[i]? = some a) (h2 : rows[i]? = some r) : At L a (.lst (r.map V.int)) := At.mem h (List.mem_cons_of_mem _ (cells_mem h1 h2))
theorem Wr.vol (h1 : as[i]? = some a) (h2 : rows[i]? = some r) : Wr a (.lst (r.map V.int)) (.lst (r'.map V.int)) (volC p as rows :: L) (volC p as (rows.set i r') :: L) := by
  obtain ⟨A, B, e1, e2⟩ := cells_split h1 h2
  unfold volC
  rw [e1, e2 r']
  exact Wr.hd (A := (p, .lst (as.map V.ref)) :: A) (B := B)
theorem dpAll_vol {H : Hp} : ∀ {as : List Addr} {rows : List (List Int)}, as.length = rows.length → (∀ (i : Nat) (a : Addr) (r : List Int), as[i]? = some a → rows[i]? = some r → H a = some (.lst (r.map V.int))) → DpAll K H (as.map V.ref) (rows.map dI)
  | [], [], _, _ => .nil
  | [], _ :: _, h, _ => by simp at h
  | _ :: _, [], h, _ => by simp at h
  | a :: as, r :: rows, h, hr => .cons (.lst (.inl (.inl (hr 0 a r rfl rfl))) (dpAll_ints r)) (dpAll_vol (by simpa using h) fun i a r h1 h2 => hr (i + 1) a r h1 h2)
theorem DpL.vol (h : volC p as rows ∈ L) (hl : as.length = rows.length) : DpL K L (.ref p) (dR rows) := fun H l =>
  .lst (IsL.at_ (vol_top h) H l) (dpAll_vol hl fun i a r h1 h2 => vol_row h h1 h2 H l)
variable {Q : LVK} {bs : List Addr} {rows' : List (List Int)}
theorem s_eq_vol (h1 : volC p as rows ∈ L) (h2 : volC q bs rows' ∈ L) (l1 : as.length = rows.length) (l2 : bs.length = rows'.length) (k : Q (.bl (decide (rows = rows'))) L) : gEq K (.ref p) (.ref q) L Q :=
  s_eq_d (DpL.vol h1 l1) (DpL.vol h2 l2) (shaped_nb (nb_dR _)) (shaped_nb (nb_dR _)) (by rw [eqv_dR]; exact k)
theorem s_ne_vol (h1 : volC p as rows ∈ L) (h2 : volC q bs rows' ∈ L) (l1 : as.length = rows.length) (l2 : bs.length = rows'.length) (k : Q (.bl (!decide (rows = rows'))) L) : gNe K (.ref p) (.ref q) L Q :=
  s_ne_d (DpL.vol h1 l1) (DpL.vol h2 l2) (shaped_nb (nb_dR _)) (shaped_nb (nb_dR _)) (by rw [eqv_dR]; exact k)
/-- the row of a volume at a place -/
def rowAt (rows : List (List Int)) (i : Int) : List Int := rows.getD i.toNat []
def adrAt (as : List Addr) (i : Int) : Addr := as.getD i.toNat 0
theorem get_adr {j : Int} (h0 : 0 ≤ j) (h1 : j < as.length) : as[j.toNat]? = some (adrAt as j) := by
  have hn : j.toNat < as.length := by omega
  simp [adrAt, List.getD_eq_getElem?_getD, List.getElem?_eq_getElem hn]
theorem get_row {j : Int} (h0 : 0 ≤ j) (h1 : j < rows.length) : rows[j.toNat]? = some (rowAt rows j) := by
  have hn : j.toNat < rows.length := by omega
  simp [rowAt, List.getD_eq_getElem?_getD, List.getElem?_eq_getElem hn]
theorem s_ix_vol {j : Int} (h : volC p as rows ∈ L) (h0 : 0 ≤ j) (h1 : j < as.length) (k : Q (.ref (adrAt as j)) L) : gIx K (.ref p) (.int j) L Q := by
  refine s_ix_l (IsL.at_ (vol_top h)) (v := .ref (adrAt as j)) ?_ k
  obtain ⟨n, rfl⟩ : ∃ n : Nat, j = n := ⟨j.toNat, by omega⟩
  refine atI_nat ?_
  have := get_adr (as := as) h0 h1
  simp only [Int.toNat_natCast] at this
  rw [List.getElem?_map, this]
  rfl
theorem row_at {j : Int} (h : volC p as rows ∈ L) (hl : as.length = rows.length) (h0 : 0 ≤ j) (h1 : j < as.length) : At L (adrAt as j) (.lst ((rowAt rows j).map V.int)) := vol_row h (get_adr h0 h1) (get_row h0 (by omega))
theorem lic_vol {as : List Addr} : Lic ([(p, .lst (as.map V.ref))] :: cellsL as rows :: L) (volC p as rows :: L) := Lic.flat (by simp [volC])
theorem lic_cells_new {as : List Addr} (hl : as.length = rows.length) : Lic ([(a, .lst (r.map V.int))] :: cellsL as rows :: L) (cellsL (as ++ [a]) (rows ++ [r]) :: L) := Lic.permFlat (by
  have e : cellsL (as ++ [a]) (rows ++ [r]) = cellsL as rows ++ [(a, .lst (r.map V.int))] := by
    unfold cellsL
    rw [List.zip_append hl, List.map_append]
    rfl
  simp only [List.flatten_cons, e, List.append_assoc, List.singleton_append]
  exact List.perm_middle)
theorem lic_cells_nil : Lic L (cellsL [] [] :: L) := Lic.flat (by simp [cellsL])
theorem lic_turn {as : List Addr} {o : HO} (hl : as.length = rows.length) : Lic ([(a, .lst (r.map V.int))] :: [(p, o)] :: cellsL as rows :: L) ([(p, o)] :: cellsL (as ++ [a]) (rows ++ [r]) :: L) := Lic.permFlat (by
  have e : cellsL (as ++ [a]) (rows ++ [r]) = cellsL as rows ++ [(a, .lst (r.map V.int))] := by
    unfold cellsL
    rw [List.zip_append hl, List.map_append]
    rfl
  simp only [List.flatten_cons, e, List.append_assoc, List.singleton_append, List.cons_append, List.nil_append]
  exact (List.Perm.cons _ List.perm_middle).trans (List.Perm.swap _ _ _))
/-- one number of a row changed -/
def putAt (rows : List (List Int)) (j : Int) (n : Nat) (v : Int) : List (List Int) := rows.set j.toNat ((rowAt rows j).set n v)
theorem Wr.volset {j : Int} {n : Nat} {v : Int} (hl : as.length = rows.length) (h0 : 0 ≤ j) (h1 : j < as.length) : Wr (adrAt as j) (.lst ((rowAt rows j).map V.int)) (.lst (((rowAt rows j).set n v).map V.int)) (volC p as rows :: L) (volC p as (putAt rows j n v) :: L) :=
  Wr.vol (get_adr h0 h1) (get_row h0 (by omega))
theorem putAt_len {j : Int} {n : Nat} {v : Int} : (putAt rows j n v).length = rows.length := by unfold putAt; simp
theorem s_set_vol {j i v : Int} {Q : Lg → Prop} (hl : as.length = rows.length) (h0 : 0 ≤ j) (h1 : j < as.length) (h2 : 0 ≤ i) (h3 : i < (rowAt rows j).length) (k : Q (volC p as (putAt rows j i.toNat v) :: L)) : gSet (.ref (adrAt as j)) (.int i) (.int v) (volC p as rows :: L) Q := s_set_i (Wr.volset hl h0 h1) (ixN_pos h2 h3) k
theorem rowAt_mem {j : Int} (h0 : 0 ≤ j) (h1 : j < rows.length) : rowAt rows j ∈ rows := List.mem_of_getElem? (get_row h0 h1)
theorem rowAt_len {m : Nat} {j : Int} (h8 : ∀ r ∈ rows, r.length = m) (h0 : 0 ≤ j) (h1 : j < rows.length) : (rowAt rows j).length = m := h8 _ (rowAt_mem h0 h1)
theorem putAt_all {m : Nat} {j : Int} {n : Nat} {v : Int} (h8 : ∀ r ∈ rows, r.length = m) (h0 : 0 ≤ j) (h1 : j < rows.length) : ∀ r ∈ putAt rows j n v, r.length = m := fun r hr => by
  unfold putAt at hr
  rcases List.mem_or_eq_of_mem_set hr with h | h
  · exact h8 r h
  · rw [h, List.length_set]; exact rowAt_len h8 h0 h1
/-- rows copied: [list(row) for row in volume] -/
theorem s_copy {σ : St} {i j : Nat} {bs : List Addr} {Q : LVK} (hv : σ[i]? = some (some (.ref p))) (hm : volC p bs rows ∈ L) (hl : bs.length = rows.length) (hz : rows.length ≤ 1000000) (hj0 : j < σ.length)
    (k : ∀ D as, as.length = rows.length → Q (.ref D) (volC D as rows :: L)) : lLc (kSeq K (lVar i)) (hName j) lYes (lCB (gList K) (lCons (lVar j) lNil)) [j] σ L Q := by
  obtain ⟨σw, hw⟩ : ∃ σw, wipe σ [j] = σw := ⟨_, rfl⟩
  have hj : j < σw.length := by rw [← hw, wipe_length]; exact hj0
  have hw2 : ∀ x, wipe (σw.set j (some x)) [j] = σw := fun x => by
    rw [← hw]
    show ((σ.set j none).set j (some x)).set j none = σ.set j none
    rw [List.set_set, List.set_set]
  refine ⟨.ref p, hv, p, _, rfl, .inl ⟨IsL.at_ (vol_top hm), fun D hD => ?_⟩⟩
  refine c_list (fun n acc L' => ∃ as : List Addr, acc = as.map V.ref ∧ as.length = n ∧ n ≤ rows.length ∧ L' = cellsL as (rows.take n) :: L) hw ?_ ?_ ?_ ?_
  · exact Wk.by_ lic_cells_nil ⟨[], rfl, rfl, Nat.zero_le _, by simp⟩
  · rintro n acc L' ⟨as, rfl, ha, hn, rfl⟩
    exact IsL.tl (IsL.tl (IsL.at_ (vol_top hm)))
  · rintro n acc x L' hx ⟨as, rfl, ha, hn, rfl⟩
    obtain ⟨b, hb, rfl⟩ : ∃ b, bs[n]? = some b ∧ V.ref b = x := by
      rw [List.getElem?_map] at hx
      exact Option.map_eq_some_iff.mp hx
    have hnb : n < bs.length := (List.getElem?_eq_some_iff.mp hb).1
    obtain ⟨r, hr⟩ : ∃ r, rows[n]? = some r := ⟨_, List.getElem?_eq_getElem (by omega)⟩
    refine s_name (σ' := σw.set j (some (.ref b))) ?_ ?_
    · have : ∀ (σ : St) (j : Nat) (v : V), j < σ.length → SetAt v σ j (σ.set j (some v)) := by
        intro σ
        induction σ with
        | nil => intro j v h; simp at h
        | cons x σ ih =>
          intro j v h
          cases j with
          | zero => exact .hd
          | succ j => exact .tl (ih j v (by simpa using h))
      exact this _ _ _ hj
    · refine s_lct (hw2 _) ?_
      refine s_yes ?_
      rw [if_pos rfl]
      refine s_cb (s_cons (s_var (v := .ref b) (by rw [List.getElem?_set_self hj]) (s_nil ?_)))
      refine s_list_l (xs := r.map V.int) (IsL.tl (IsL.tl (IsL.at_ (vol_row hm hb hr)))) fun a => ?_
      refine s_lcy (L5 := cellsL (as ++ [a]) (rows.take n ++ [r]) :: L) ?_ (lic_turn (by simp; omega)) ⟨as ++ [a], by simp, by simp [ha], by omega, ?_⟩
      · rw [List.length_map, ha]; omega
      · have : rows.take (n + 1) = rows.take n ++ [r] := by rw [List.take_succ, hr]; rfl
        rw [this]
  · rintro acc L' ⟨as, rfl, ha, hn, rfl⟩
    refine Wk.by_ ?_ (k D as (by rw [ha]; simp; omega))
    have : rows.take (bs.map V.ref).length = rows := by rw [List.length_map, hl]; simp
    rw [this]
    exact lic_vol
end
end VM
namespace VM
open PySem PySem.Spec L2
open PyProof.Rows hiding St
/-- the law's start: the script as a chunk -/
theorem law_up {K : PySem.W.Frag} {H : Hp} {a : Addr} {ns : List Int} {sp : LSp} (hS : SqL K H a (ns.map V.int)) (h : ∀ c, Scr K c a ns → sp [.ref a] [c] (fun v _ => v = .bl true) noX) : UpP sp [.ref a] H (fun v _ => v = .bl true) fun _ _ _ => False := by
  have go : ∀ c : Chunk, Led H [c] → Scr K c a ns → UpP sp [.ref a] H (fun v _ => v = .bl true) fun _ _ _ => False := fun c l s =>
    ⟨[c], _, _, l, h c s, fun _ _ _ q _ => q, fun _ _ _ _ q _ => q⟩
  have one : ∀ o : HO, H a = some o → Led H [[(a, o)]] := fun o e => ⟨fun c hc x hx => by
    obtain rfl := List.mem_singleton.mp hc
    obtain rfl := List.mem_singleton.mp hx
    exact e, by simp [keys]⟩
  rcases hS with (e | ⟨o, e⟩) | e
  · exact go _ (one _ e) fun H' l => .inl (.inl (l.get _ List.mem_cons_self _ List.mem_cons_self))
  · exact go _ (one _ e) fun H' l => .inl (.inr ⟨o, l.get _ List.mem_cons_self _ List.mem_cons_self⟩)
  · exact go [] ⟨fun c hc x hx => (by obtain rfl := List.mem_singleton.mp hc; cases hx), by simp [keys]⟩ fun H' l => .inr e
/-- what a law promises of its script -/
def spTrue (K : PySem.W.Frag) (n : Nat) : LSp := sp1 fun a L Q => ∃ c p ns, a = .ref p ∧ Scr K c p ns ∧ c ∈ L ∧ ns.length ≤ n ∧ ∀ L', Q (.bl true) L'
theorem law_says {K : PySem.W.Frag} {n : Nat} {H : Hp} {a : Addr} {ns : List Int} (hl : ns.length ≤ n) (hS : SqL K H a (ns.map V.int)) : UpP (spTrue K n) [.ref a] H (fun v _ => v = .bl true) fun _ _ _ => False :=
  law_up hS fun c s => ⟨_, rfl, c, a, ns, rfl, s, List.mem_cons_self, hl, fun _ => rfl⟩
end VM

end

section
namespace VM
open PySem PySem.Spec L2
open PyProof.Rows hiding St
/-! ### the rules with the written part named -/
section
variable {X : Cx} (K : PySem.W.Frag)
theorem ko_add (h : X.K = K := by rfl) : OpL X (binaryOp .Add) (gAdd K) := by subst h; exact lo_add
theorem ko_eq (hu : X.A.units + 64 < cLine) (h : X.K = K := by rfl) : OpL X (compareOp .Eq) (gEq K) := by subst h; exact lo_eq hu
theorem ko_ne (hu : X.A.units + 64 < cLine) (h : X.K = K := by rfl) : OpL X (compareOp .NotEq) (gNe K) := by subst h; exact lo_ne hu
theorem ko_in (hu : X.A.units + 64 < cLine) (h : X.K = K := by rfl) : OpL X (compareOp .In) (gIn K false) := by subst h; exact lo_in hu
theorem ko_notIn (hu : X.A.units + 64 < cLine) (h : X.K = K := by rfl) : OpL X (compareOp .NotIn) (gIn K true) := by subst h; exact lo_notIn hu
theorem kx_ix (hu : X.A.units + 64 < cLine) (h : X.K = K := by rfl) : IxL X (gIx K) := by subst h; exact lx_ix hu
theorem ksl_ok (h : X.K = K := by rfl) : SlL X (gSl K) := by subst h; exact lsl_ok
theorem kk_len (h : X.K = K := by rfl) : CallL X (.builtin "len") (gLen K) := by subst h; exact lk_len
theorem kk_list (h : X.K = K := by rfl) : CallL X (.type "list") (gList K) := by subst h; exact lk_list
theorem kk_tuple (h : X.K = K := by rfl) : CallL X (.type "tuple") (gTuple K) := by subst h; exact lk_tuple
theorem kk_sum (hc : X.calm = true := by rfl) (h : X.K = K := by rfl) : CallL X (.builtin "sum") (gSum K) := by subst h; exact lk_sum hc
theorem kk_all (hc : X.calm = true := by rfl) (h : X.K = K := by rfl) : CallL X (.builtin "all") (gAll K) := by subst h; exact lk_all hc
theorem kk_isi (h : X.K = K := by rfl) : CallL X (.builtin "isinstance") (lIsi K) := by subst h; exact lk_isi
variable {a e o : Expr} {es : List Expr} {ta te to : LTE} {tr : LTA} {pos apos cpos pos' : Pos} {f name : Str} {id T : String} {tg : Expr}
theorem kfld (he : LE X e te) (hb : attributeBase e f X.env (eval e X.env) = eval e X.env := by rfl) (h : X.K = K := by rfl) : LE X (.Attribute e f pos) (lFld K te f) := by subst h; exact lfld he hb
theorem kt_truth (ha : LE X a ta) (he : ∀ whole, isTrue a X.env whole = (do let v ← whole; standAt a.pos; holding [v] (truthy v)) := by intro _; rfl) (h : X.K = K := by rfl) : LT X a (lTru (gTru K) ta) := by subst h; exact lt_truth ha he
theorem kbm0 {r : V → LRC} (pa : PlainAttrs T) (slot : Slot T name id) (hty : typeOf (.builtin id) = pure (.type "method_descriptor")) (hm : MtL X id r) (ho : LE X o to)
    (hbase : attributeBase o name X.env (eval o X.env) = eval o X.env := by rfl) (hline : (apos.endLine == cpos.line) = true := by rfl) (h : X.K = K := by rfl) : LE X (.Call (.Attribute o name apos) [] [] cpos) (lBM0 K T r to) := by subst h; exact lbm0 pa slot hty hm ho hbase hline
theorem kbm {r : V → LRC} (pa : PlainAttrs T) (slot : Slot T name id) (hty : typeOf (.builtin id) = pure (.type "method_descriptor")) (hm : MtL X id r) (ho : LE X o to) (ha : LA X (e :: es) tr)
    (hbase : attributeBase o name X.env (eval o X.env) = eval o X.env := by rfl)
    (hfew : ((backTo cpos (starEach (e :: es) X.env)).all (fun x => !x.1) && (backToKw cpos (keywordEach [] X.env)).all (fun x => x.1.isSome)
      && decide ((e :: es).length + ([] : List Keyword).length + (if ([] : List Keyword).isEmpty then 0 else 1) < 30)) = true := by rfl)
    (hline : (apos.endLine == cpos.line) = true := by rfl) (hs : starEach (e :: es) X.env = (false, eval e X.env) :: starEach es X.env := by rfl) (hplain : (backTo cpos (starEach es X.env)).any (·.1) = false := by rfl) (h : X.K = K := by rfl) :
    LE X (.Call (.Attribute o name apos) (e :: es) [] cpos) (lBM K T r to tr) := by subst h; exact lbm pa slot hty hm ho ha hbase hfew hline hs hplain
theorem kg_tup {es : List Expr} {k : Nat} {n : Nat} {gs : LTGs} (hc : X.calm = true) (h : LGs X es gs) (hn : (assignEach es X.env).length = n := by rfl) (hst : (assignEach es X.env).findIdx? (·.1) = none := by rfl) (hK : X.K = K := by rfl) : LG X (.Tuple es k pos) (hTup K n gs) := by subst hK; exact lg_tup hc h hn hst
theorem ki_list {l : Expr} {tl : LTE} (hl : LE X l tl) (h : X.K = K := by rfl) : LI X tg l (kSeq K tl) := by subst h; exact li_list hl
theorem ki_tup {l : Expr} {tl : LTE} (hl : LE X l tl) (h : X.K = K := by rfl) : LI X tg l (kTup K tl) := by subst h; exact li_tup hl
theorem ks_fld {o value : Expr} {f : Str} {ta tv : LTE} {pos' : Pos} (ha : LE X o ta) (hv : LE X value tv) (hs : swapsWith value (some (.Attribute o f pos')) pos.line X.env = pure false := by rfl) (h : X.K = K := by rfl) : LS X (.Assign [.Attribute o f pos'] value pos) (lSetF K ta tv f) := by subst h; exact ls_fld ha hv hs
end
end VM

end

section
namespace VM
open PySem PySem.Spec L2
open PyProof.Rows hiding St

/-! ### the ledger told anew -/
def LicS (L L' : Lg) : Prop := ∃ M, L.flatten.Perm (L'.flatten ++ M)
theorem LicS.lic {L L' : Lg} (h : LicS L L') : Lic L L' := fun H l => by
  obtain ⟨M, s⟩ := h
  refine l.sub (fun c hc x hx => ?_) ?_
  · have hm : x ∈ L.flatten := s.mem_iff.mpr (List.mem_append_left _ (List.mem_flatten.mpr ⟨c, hc, hx⟩))
    obtain ⟨d, hd, hx'⟩ := List.mem_flatten.mp hm
    exact ⟨d, hd, hx'⟩
  · have := (s.map Prod.fst).nodup_iff.mp l.nd
    rw [List.map_append] at this
    exact (List.nodup_append.mp this).1
theorem LicS.refl {L : Lg} : LicS L L := ⟨[], by simp⟩
theorem LicS.nil {L : Lg} : LicS L [] := ⟨L.flatten, by simp⟩
theorem LicS.skip {c : Chunk} {L L' : Lg} (h : LicS L L') : LicS (c :: L) L' := by
  obtain ⟨M, s⟩ := h
  refine ⟨c ++ M, ?_⟩
  rw [List.flatten_cons]
  refine (s.append_left c).trans ?_
  rw [← List.append_assoc, ← List.append_assoc]
  exact (List.perm_append_comm).append_right M
theorem LicS.cons {c : Chunk} {L L' : Lg} (h : LicS L L') : LicS (c :: L) (c :: L') := by
  obtain ⟨M, s⟩ := h
  refine ⟨M, ?_⟩
  rw [List.flatten_cons, List.flatten_cons, List.append_assoc]
  exact s.append_left c
theorem LicS.trans {L L' L'' : Lg} (h : LicS L L') (h' : LicS L' L'') : LicS L L'' := by
  obtain ⟨M, s⟩ := h
  obtain ⟨N, t⟩ := h'
  refine ⟨N ++ M, ?_⟩
  rw [← List.append_assoc]
  exact s.trans (t.append_right M)
inductive Pull (c : Chunk) : Lg → Lg → Prop
  | hd {L : Lg} : Pull c (c :: L) L
  | tl {d : Chunk} {L L' : Lg} (h : Pull c L L') : Pull c (d :: L) (d :: L')
theorem Pull.perm {c : Chunk} {L R : Lg} (h : Pull c L R) : L.flatten.Perm (c ++ R.flatten) := by
  induction h with
  | hd => rw [List.flatten_cons]
  | tl _ ih =>
    rw [List.flatten_cons, List.flatten_cons, ← List.append_assoc]
    refine (ih.append_left _).trans ?_
    rw [← List.append_assoc]
    exact (List.perm_append_comm).append_right _
theorem LicS.pull {c : Chunk} {L R T : Lg} (h : Pull c L R) (k : LicS R T) : LicS L (c :: T) := by
  obtain ⟨M, s⟩ := k
  refine ⟨M, ?_⟩
  rw [List.flatten_cons, List.append_assoc]
  exact h.perm.trans (s.append_left c)
theorem LicS.of_flat {L L' : Lg} (s : L'.flatten = L.flatten) : LicS L L' := ⟨[], by rw [s]; simp⟩
theorem LicS.split {x : Cell} {c : Chunk} {L T : Lg} (h : LicS L ([x] :: c :: T)) : LicS L ((x :: c) :: T) := h.trans (.of_flat (by simp))
theorem LicS.splitA {a b : Chunk} {L T : Lg} (h : LicS L (a :: b :: T)) : LicS L ((a ++ b) :: T) := h.trans (.of_flat (by simp))
theorem LicS.src {x : Cell} {c : Chunk} {L T : Lg} (h : LicS ([x] :: c :: L) T) : LicS ((x :: c) :: L) T := LicS.trans (.of_flat (by simp)) h
theorem LicS.srcA {a b : Chunk} {L T : Lg} (h : LicS (a :: b :: L) T) : LicS ((a ++ b) :: L) T := LicS.trans (.of_flat (by simp)) h
theorem LicS.empty {L T : Lg} (h : LicS L T) : LicS L ([] :: T) := h.trans (.of_flat (by simp))
theorem cells_snoc {as : List Addr} {rows : List (List Int)} {a : Addr} {r : List Int} (hl : as.length = rows.length) : cellsL (as ++ [a]) (rows ++ [r]) = cellsL as rows ++ [(a, .lst (r.map V.int))] := by
  unfold cellsL
  rw [List.zip_append hl, List.map_append]
  rfl
theorem LicS.row {as : List Addr} {rows : List (List Int)} {a : Addr} {r : List Int} {L T : Lg} (hl : as.length = rows.length) (h : LicS L ([(a, .lst (r.map V.int))] :: cellsL as rows :: T)) : LicS L (cellsL (as ++ [a]) (rows ++ [r]) :: T) := by
  rw [cells_snoc hl]
  refine h.trans ⟨[], ?_⟩
  rw [List.flatten_cons, List.flatten_cons, List.flatten_cons, ← List.append_assoc, List.append_nil]
  exact (List.perm_append_comm).append_right _
theorem LicS.rows0 {L T : Lg} (h : LicS L T) : LicS L (cellsL [] [] :: T) := LicS.empty h
theorem LicS.vol {p : Addr} {as : List Addr} {rows : List (List Int)} {L T : Lg} (h : LicS L ([(p, .lst (as.map V.ref))] :: cellsL as rows :: T)) : LicS L (volC p as rows :: T) := h.trans (.of_flat (by simp [volC]))
theorem LicS.unvol {p : Addr} {as : List Addr} {rows : List (List Int)} {L T : Lg} (h : LicS ([(p, .lst (as.map V.ref))] :: cellsL as rows :: L) T) : LicS (volC p as rows :: L) T := LicS.trans (.of_flat (by simp [volC])) h

/-! ### a comprehension within one -/
theorem relabel_lookup {env : Env} : ∀ {names : List (Str × NameKind)} {x : Str}, names.lookup x = some .cell ∨ names.lookup x = some .free →
    (names.map fun (n, k) => if (k == NameKind.free && env.scope.kind == .function && env.kindOf n == some .cell) then (n, NameKind.cell) else (n, k)).lookup x = some .cell ∨
    (names.map fun (n, k) => if (k == NameKind.free && env.scope.kind == .function && env.kindOf n == some .cell) then (n, NameKind.cell) else (n, k)).lookup x = some .free
  | [], _, h => by simp at h
  | (n, k) :: r, x, h => by
    have ih := @relabel_lookup env r x
    show List.lookup x ((if (k == NameKind.free && env.scope.kind == .function && env.kindOf n == some .cell) = true then (n, NameKind.cell) else (n, k)) :: _) = _ ∨ List.lookup x ((if (k == NameKind.free && env.scope.kind == .function && env.kindOf n == some .cell) = true then (n, NameKind.cell) else (n, k)) :: _) = _
    cases hx : x == n with
    | true =>
      simp only [List.lookup_cons, hx] at h
      by_cases hc : (k == NameKind.free && env.scope.kind == .function && env.kindOf n == some .cell) = true
      · rw [if_pos hc]; left; simp [List.lookup_cons, hx]
      · rw [if_neg hc]; simp only [List.lookup_cons, hx]; exact h
    | false =>
      simp only [List.lookup_cons, hx] at h
      by_cases hc : (k == NameKind.free && env.scope.kind == .function && env.kindOf n == some .cell) = true
      · rw [if_pos hc]; simp only [List.lookup_cons, hx]; exact ih h
      · rw [if_neg hc]; simp only [List.lookup_cons, hx]; exact ih h
theorem blkOk_in {N : List Str} {sc scope : Scope} {own : List (Str × Nat)} {env : Env} (h : blkC N sc scope own = true) : BlkOk N (relabel sc env) scope own := by
  obtain ⟨h1, h2, h3, h4, h5⟩ := blkOk_by h
  exact ⟨h1, h2, h3, fun y hy e => relabel_lookup (h4 y hy e), h5⟩

/-! ### data told by a chunk -/
mutual
inductive Tel (c : Chunk) : V → PyData → Prop
  | non : Tel c .non .none
  | bl (b : Bool) : Tel c (.bl b) (.bool b)
  | int (i : Int) : Tel c (.int i) (.int i)
  | str (s : Str) : Tel c (.str s) (.str s)
  | lst {a : Addr} {xs : List V} {ds : List PyData} (h : (a, HO.lst xs) ∈ c) (k : TelAll c xs ds) : Tel c (.ref a) (.list ds)
  | tup {a : Addr} {xs : List V} {ds : List PyData} (h : (a, HO.tup xs) ∈ c) (k : TelAll c xs ds) : Tel c (.ref a) (.tuple ds)
inductive TelAll (c : Chunk) : List V → List PyData → Prop
  | nil : TelAll c [] []
  | cons {v : V} {vs : List V} {d : PyData} {ds : List PyData} (h : Tel c v d) (k : TelAll c vs ds) : TelAll c (v :: vs) (d :: ds)
end
mutual
theorem Tel.mono {c c' : Chunk} (s : ∀ x ∈ c, x ∈ c') {v : V} {d : PyData} : Tel c v d → Tel c' v d
  | .non => .non
  | .bl b => .bl b
  | .int i => .int i
  | .str i => .str i
  | .lst h k => .lst (s _ h) (TelAll.mono s k)
  | .tup h k => .tup (s _ h) (TelAll.mono s k)
theorem TelAll.mono {c c' : Chunk} (s : ∀ x ∈ c, x ∈ c') {v : List V} {d : List PyData} : TelAll c v d → TelAll c' v d
  | .nil => .nil
  | .cons h k => .cons (Tel.mono s h) (TelAll.mono s k)
end
theorem Dp.flst {K : PySem.W.Frag} {H : Hp} {a : Addr} {xs : List V} {ds : List PyData} (h : H a = some (.lst xs)) (k : DpAll K H xs ds) : Dp K H (.ref a) (.list ds) := .lst (.inl (.inl h)) k
mutual
theorem Tel.dp {K : PySem.W.Frag} {L : Lg} {c : Chunk} (hm : c ∈ L) {H : Hp} (l : Led H L) {v : V} {d : PyData} : Tel c v d → Dp K H v d
  | .non => .non
  | .bl b => .bl b
  | .int i => .int i
  | .str i => .str i
  | .lst h k => .lst (.inl (.inl (l.get _ hm _ h))) (TelAll.dp hm l k)
  | .tup h k => .tup (.inl (.inl (l.get _ hm _ h))) (TelAll.dp hm l k)
theorem TelAll.dp {K : PySem.W.Frag} {L : Lg} {c : Chunk} (hm : c ∈ L) {H : Hp} (l : Led H L) {v : List V} {d : List PyData} : TelAll c v d → DpAll K H v d
  | .nil => .nil
  | .cons h k => .cons (Tel.dp hm l h) (TelAll.dp hm l k)
end
theorem TelAll.len {c : Chunk} : ∀ {v : List V} {d : List PyData}, TelAll c v d → v.length = d.length
  | _, _, .nil => rfl
  | _, _, .cons _ k => by rw [List.length_cons, List.length_cons, k.len]
theorem TelAll.get {c : Chunk} : ∀ {v : List V} {d : List PyData} {i : Nat} {x : V}, TelAll c v d → v[i]? = some x → ∃ e, d[i]? = some e ∧ Tel c x e
  | _, _, i, _, .nil, h => by simp at h
  | _, _, 0, _, .cons t k, h => by
    simp only [List.getElem?_cons_zero, Option.some.injEq] at h ⊢
    exact ⟨_, rfl, h ▸ t⟩
  | _, _, i + 1, _, .cons t k, h => by
    simp only [List.getElem?_cons_succ] at h ⊢
    exact k.get h
theorem TelAll.get' {c : Chunk} : ∀ {v : List V} {d : List PyData} {i : Nat} {e : PyData}, TelAll c v d → d[i]? = some e → ∃ x, v[i]? = some x ∧ Tel c x e
  | _, _, i, _, .nil, h => by simp at h
  | _, _, 0, _, .cons t k, h => by
    simp only [List.getElem?_cons_zero, Option.some.injEq] at h ⊢
    exact ⟨_, rfl, h ▸ t⟩
  | _, _, i + 1, _, .cons t k, h => by
    simp only [List.getElem?_cons_succ] at h ⊢
    exact k.get' h
theorem TelAll.snoc {c : Chunk} {x : V} {e : PyData} (t : Tel c x e) : ∀ {v : List V} {d : List PyData}, TelAll c v d → TelAll c (v ++ [x]) (d ++ [e])
  | _, _, .nil => .cons t .nil
  | _, _, .cons h k => .cons h (k.snoc t)
theorem TelAll.ints {c : Chunk} : ∀ ns : List Int, TelAll c (ns.map V.int) (ns.map PyData.int)
  | [] => .nil
  | a :: ns => .cons (.int a) (TelAll.ints ns)
theorem Tel.list_inv {c : Chunk} {v : V} {ds : List PyData} (h : Tel c v (.list ds)) : ∃ a xs, v = .ref a ∧ (a, HO.lst xs) ∈ c ∧ TelAll c xs ds := by
  cases h with | lst h k => exact ⟨_, _, rfl, h, k⟩
theorem Tel.tup_inv {c : Chunk} {v : V} {ds : List PyData} (h : Tel c v (.tuple ds)) : ∃ a xs, v = .ref a ∧ (a, HO.tup xs) ∈ c ∧ TelAll c xs ds := by
  cases h with | tup h k => exact ⟨_, _, rfl, h, k⟩
theorem Tel.int_inv {c : Chunk} {v : V} {i : Int} (h : Tel c v (.int i)) : v = .int i := by
  cases h; rfl
theorem TelAll.cons_inv {c : Chunk} {vs : List V} {d : PyData} {ds : List PyData} (h : TelAll c vs (d :: ds)) : ∃ v ws, vs = v :: ws ∧ Tel c v d ∧ TelAll c ws ds := by
  cases h with | cons h k => exact ⟨_, _, rfl, h, k⟩
theorem TelAll.nil_inv {c : Chunk} {vs : List V} (h : TelAll c vs []) : vs = [] := by
  cases h; rfl
theorem TelAll.ints_inv {c : Chunk} : ∀ {ns : List Int} {vs : List V}, TelAll c vs (ns.map PyData.int) → vs = ns.map V.int
  | [], _, h => h.nil_inv
  | a :: ns, vs, h => by
    obtain ⟨v, ws, rfl, h1, h2⟩ := h.cons_inv
    rw [h1.int_inv, h2.ints_inv]
    rfl
theorem Tel.dI_inv {c : Chunk} {v : V} {ns : List Int} (h : Tel c v (dI ns)) : ∃ a, v = .ref a ∧ (a, HO.lst (ns.map V.int)) ∈ c := by
  obtain ⟨a, xs, rfl, h1, h2⟩ := h.list_inv
  rw [h2.ints_inv] at h1
  exact ⟨a, rfl, h1⟩
theorem Tel.dT_inv {c : Chunk} {v : V} {ns : List Int} (h : Tel c v (dT ns)) : ∃ a, v = .ref a ∧ (a, HO.tup (ns.map V.int)) ∈ c := by
  obtain ⟨a, xs, rfl, h1, h2⟩ := h.tup_inv
  rw [h2.ints_inv] at h1
  exact ⟨a, rfl, h1⟩
theorem Tel.ints {c : Chunk} {a : Addr} {ns : List Int} (h : (a, HO.lst (ns.map V.int)) ∈ c) : Tel c (.ref a) (dI ns) := .lst h (TelAll.ints ns)
theorem Tel.tints {c : Chunk} {a : Addr} {ns : List Int} (h : (a, HO.tup (ns.map V.int)) ∈ c) : Tel c (.ref a) (dT ns) := .tup h (TelAll.ints ns)

/-! ### data by the ledger, piece by piece -/
section
variable {K : PySem.W.Frag} {L : Lg} {p q : Addr} {xs : List V} {ds : List PyData} {Q : LVK}
def DpLA (K : PySem.W.Frag) (L : Lg) (xs : List V) (ds : List PyData) : Prop := ∀ H, Led H L → DpAll K H xs ds
theorem DpL.tel {c : Chunk} {v : V} {d : PyData} (h : Tel c v d) (hm : c ∈ L) : DpL K L v d := fun _ l => h.dp hm l
theorem DpL.int {i : Int} : DpL K L (.int i) (.int i) := fun _ _ => .int i
theorem DpL.bl {b : Bool} : DpL K L (.bl b) (.bool b) := fun _ _ => .bl b
theorem DpL.non : DpL K L .non .none := fun _ _ => .non
theorem DpL.str {s : Str} : DpL K L (.str s) (.str s) := fun _ _ => .str s
theorem DpL.lst (h : IsL K L p xs) (k : DpLA K L xs ds) : DpL K L (.ref p) (.list ds) := fun H l => .lst (h H l) (k H l)
theorem DpL.tup (h : IsT K L p xs) (k : DpLA K L xs ds) : DpL K L (.ref p) (.tuple ds) := fun H l => .tup (h H l) (k H l)
theorem DpL.iv {ns : List Int} (h : IsL K L p xs) (k : IntsV xs ns) : DpL K L (.ref p) (dI ns) := DpL.ints (k.eq ▸ h)
theorem DpL.tv {ns : List Int} (h : IsT K L p xs) (k : IntsV xs ns) : DpL K L (.ref p) (dT ns) := DpL.tints (k.eq ▸ h)
theorem DpLA.nil : DpLA K L [] [] := fun _ _ => .nil
theorem DpLA.cons {v : V} {vs : List V} {d : PyData} (h : DpL K L v d) (k : DpLA K L vs ds) : DpLA K L (v :: vs) (d :: ds) := fun H l => .cons (h H l) (k H l)
theorem DpLA.ints {ns : List Int} : DpLA K L (ns.map V.int) (ns.map PyData.int) := fun _ _ => dpAll_ints ns
theorem s_eq_dp {x y : V} {d e : PyData} {n m : Nat} {C : Prop} (h1 : DpL K L x d) (h2 : DpL K L y e) (h3 : nbD n d = true) (h4 : nbD m e = true) (h5 : d = e ↔ C) (k : Q (.bl (@decide C (Classical.propDecidable C))) L) (hn : n ≤ 64 := by decide) (hm : m ≤ 64 := by decide) : gEq K x y L Q :=
  s_eq_d h1 h2 (shaped_nb h3 hn) (shaped_nb h4 hm) (by rw [@dec_of_iff _ C (Classical.propDecidable C) ((eqv_nb n m d e h3 h4).trans h5)]; exact k)
theorem s_ne_dp {x y : V} {d e : PyData} {n m : Nat} {C : Prop} (h1 : DpL K L x d) (h2 : DpL K L y e) (h3 : nbD n d = true) (h4 : nbD m e = true) (h5 : d = e ↔ C) (k : Q (.bl (!@decide C (Classical.propDecidable C))) L) (hn : n ≤ 64 := by decide) (hm : m ≤ 64 := by decide) : gNe K x y L Q :=
  s_ne_d h1 h2 (shaped_nb h3 hn) (shaped_nb h4 hm) (by rw [@dec_of_iff _ C (Classical.propDecidable C) ((eqv_nb n m d e h3 h4).trans h5)]; exact k)
theorem dln_iff : PyData.list [] = PyData.list [] ↔ True := by simp
theorem dlc_iff {x y : PyData} {xs ys : List PyData} {A B : Prop} (h1 : x = y ↔ A) (h2 : PyData.list xs = PyData.list ys ↔ B) : PyData.list (x :: xs) = PyData.list (y :: ys) ↔ A ∧ B := by
  rw [← h1, ← h2]
  simp
theorem dtc_iff {x y : PyData} {xs ys : List PyData} {A B : Prop} (h1 : x = y ↔ A) (h2 : PyData.list xs = PyData.list ys ↔ B) : PyData.tuple (x :: xs) = PyData.tuple (y :: ys) ↔ A ∧ B := by
  rw [← h1, ← h2]
  simp
theorem di_iff {x y : Int} : PyData.int x = PyData.int y ↔ x = y := by simp
end
theorem nbm : ∀ {n : Nat} {d : PyData}, nbD n d = true → nbD (n + 1) d = true := by
  intro n
  induction n with
  | zero => intro d h; cases d <;> simp [nbD] at h <;> simp [nbD, h]
  | succ n ih =>
    have all : ∀ xs : List PyData, xs.all (nbD n) = true → xs.all (nbD (n + 1)) = true := fun xs h => by
      rw [List.all_eq_true] at h ⊢
      exact fun x hx => ih (h x hx)
    intro d h
    cases d with
    | list xs => exact all xs h
    | tuple xs => exact all xs h
    | none => rfl
    | int i => rfl
    | str i => exact h
    | _ => simp [nbD] at h
theorem nb_list {n : Nat} {ds : List PyData} (h : ∀ d ∈ ds, nbD n d = true) : nbD (n + 1) (.list ds) = true := List.all_eq_true.mpr h
theorem nb_tup {n : Nat} {ds : List PyData} (h : ∀ d ∈ ds, nbD n d = true) : nbD (n + 1) (.tuple ds) = true := List.all_eq_true.mpr h
theorem nba_nil {n : Nat} : ∀ d ∈ ([] : List PyData), nbD n d = true := fun _ h => nomatch h
theorem nba_cons {n : Nat} {d : PyData} {ds : List PyData} (h : nbD n d = true) (k : ∀ d ∈ ds, nbD n d = true) : ∀ e ∈ d :: ds, nbD n e = true := fun e he => by
  rcases List.mem_cons.mp he with rfl | he
  · exact h
  · exact k e he
theorem nb_i {n : Nat} {i : Int} : nbD n (.int i) = true := by cases n <;> rfl
theorem nb_n {n : Nat} : nbD n .none = true := by cases n <;> rfl
theorem nb1 {n : Nat} {ns : List Int} : nbD (n + 1) (dI ns) = true := by
  induction n with
  | zero => exact nb_dI ns
  | succ n ih => exact nbm ih
theorem nb1t {n : Nat} {ns : List Int} : nbD (n + 1) (dT ns) = true := by
  induction n with
  | zero => exact nb_dT ns
  | succ n ih => exact nbm ih
theorem nb2 {n : Nat} {ns : List (List Int)} : nbD (n + 2) (dR ns) = true := by
  induction n with
  | zero => exact nb_dR ns
  | succ n ih => exact nbm ih
theorem nb2t {n : Nat} {ns : List (List Int)} : nbD (n + 2) (dTs ns) = true := by
  induction n with
  | zero => exact nb_dTs ns
  | succ n ih => exact nbm ih
theorem dI_iff {a b : List Int} : dI a = dI b ↔ a = b := ⟨dI_inj, fun h => h ▸ rfl⟩
theorem dT_iff {a b : List Int} : dT a = dT b ↔ a = b := ⟨dT_inj, fun h => h ▸ rfl⟩
theorem dR_iff {a b : List (List Int)} : dR a = dR b ↔ a = b := ⟨dR_inj, fun h => h ▸ rfl⟩
theorem dTs_iff {a b : List (List Int)} : dTs a = dTs b ↔ a = b := ⟨dTs_inj, fun h => h ▸ rfl⟩

/-! lists of truths -/
def dB (bs : List Bool) : PyData := .list (bs.map .bool)
theorem eqvAll_B : ∀ as bs : List Bool, PyData.eqvAll (as.map .bool) (bs.map .bool) = decide (as = bs)
  | [], [] => by simp [PyData.eqvAll]
  | [], _ :: _ => by simp [PyData.eqvAll]
  | _ :: _, [] => by simp [PyData.eqvAll]
  | a :: as, b :: bs => by
    have := eqvAll_B as bs
    simp only [List.map_cons, PyData.eqvAll, this]
    cases a <;> cases b <;> simp [PyData.eqv]
theorem shaped_B (bs : List Bool) : SeqAt.shaped (dB bs) = true := by
  have h1 : PyData.canLayAll0 (bs.map .bool) = true := by
    induction bs with
    | nil => simp [PyData.canLayAll0]
    | cons b bs ih => simp [PyData.canLayAll0, PyData.canLay0, ih]
  have h2 : PyData.depthAll (bs.map .bool) ≤ 1 := by
    clear h1
    induction bs with
    | nil => simp [PyData.depthAll]
    | cons b bs ih => simp only [List.map_cons, PyData.depthAll, PyData.depth]; omega
  unfold SeqAt.shaped dB
  rw [show (PyData.list (bs.map .bool)).canLay0 = true by simp [PyData.canLay0, h1], decide_eq_true (by simp only [PyData.depth]; omega)]
  rfl
inductive BoolsV : List V → List Bool → Prop
  | nil : BoolsV [] []
  | cons {a : Bool} {xs : List V} {bs : List Bool} (h : BoolsV xs bs) : BoolsV (.bl a :: xs) (a :: bs)
  | map {bs : List Bool} : BoolsV (bs.map V.bl) bs
theorem BoolsV.dp {K : PySem.W.Frag} {H : Hp} {xs : List V} {bs : List Bool} (h : BoolsV xs bs) : DpAll K H xs (bs.map .bool) := by
  induction h with
  | nil => exact .nil
  | cons _ ih => exact .cons (.bl _) ih
  | @map bs =>
    induction bs with
    | nil => exact .nil
    | cons b bs ih => exact .cons (.bl _) ih
section
variable {K : PySem.W.Frag} {L : Lg} {p q : Addr} {xs ys : List V} {as bs : List Bool} {Q : LVK}
theorem s_eq_bs (h1 : IsL K L p xs) (h2 : IsL K L q ys) (e1 : BoolsV xs as) (e2 : BoolsV ys bs) (k : Q (.bl (decide (as = bs))) L) : gEq K (.ref p) (.ref q) L Q :=
  s_eq_d (d := dB as) (e := dB bs) (fun H l => .lst (h1 H l) e1.dp) (fun H l => .lst (h2 H l) e2.dp) (shaped_B _) (shaped_B _) (by
    rw [show PyData.eqv (dB as) (dB bs) = decide (as = bs) by simp only [dB, PyData.eqv, eqvAll_B]]; exact k)
theorem s_ne_bs (h1 : IsL K L p xs) (h2 : IsL K L q ys) (e1 : BoolsV xs as) (e2 : BoolsV ys bs) (k : Q (.bl (!decide (as = bs))) L) : gNe K (.ref p) (.ref q) L Q :=
  s_ne_d (d := dB as) (e := dB bs) (fun H l => .lst (h1 H l) e1.dp) (fun H l => .lst (h2 H l) e2.dp) (shaped_B _) (shaped_B _) (by
    rw [show PyData.eqv (dB as) (dB bs) = decide (as = bs) by simp only [dB, PyData.eqv, eqvAll_B]]; exact k)
end
/-! ### comprehensions and loops of a shape -/
section
variable {K : PySem.W.Frag} {σ : St} {L L4 : Lg} {Q : LVK} {gg : LTG} {tt : LTT} {te : LTE} {vw : List Nat} {Dl p : Addr} {lo : Int} {n : Nat} {ns : List Int} {xs : List V} {as : List Addr} {acc : List V}
def AccI (acc : List V) (v : V) (L : Lg) : List V → Lg → Prop := fun acc' L' => acc' = acc ++ [v] ∧ L' = L
theorem s_lcyI {x v : V} (hz : acc.length < 1000000) (l : Lic L4 ([(Dl, .lst acc)] :: L)) (e : x = v) : LcY Dl acc (AccI acc v L) x L4 := s_lcy hz l ⟨by rw [e], rfl⟩
theorem map_snoc {g : Nat → Int} {i : Nat} : (((List.range i).map g).map V.int) ++ [V.int (g i)] = ((List.range (i + 1)).map g).map V.int := by
  rw [List.range_succ, List.map_append, List.map_append]; rfl
/-- [g(i) for i in range]: ints -/
theorem c_ints (g : Nat → Int) {σw : St} (hw : wipe σ vw = σw) (hz : n ≤ 1000000)
    (hs : ∀ (i : Nat) (acc : List V), i < n → acc.length < 1000000 → gg (.int (lo + i)) σw ([(Dl, .lst acc)] :: L) (LcT tt te Dl acc (AccI acc (.int (g i)) L) σw vw))
    (hd : Wk (Q (.ref Dl)) ([(Dl, .lst (((List.range n).map g).map V.int))] :: L)) : LcR (wkR lo n) gg tt te vw σ Dl L Q := by
  refine c_range (fun i acc L' => acc = ((List.range i).map g).map V.int ∧ L' = L) hw (Wk.go ⟨rfl, rfl⟩) ?_ ?_
  · rintro i acc L' hi ⟨rfl, rfl⟩
    have := hs i (((List.range i).map g).map V.int) hi (by simp; omega)
    have e : AccI (((List.range i).map g).map V.int) (.int (g i)) L' = fun acc' L'' => acc' = ((List.range (i + 1)).map g).map V.int ∧ L'' = L' := by
      funext a b
      unfold AccI
      rw [map_snoc]
    rw [e] at this
    exact this
  · rintro acc L' ⟨rfl, rfl⟩
    exact hd
theorem c_ints0 (g : Nat → Int) {σw : St} (hw : wipe σ vw = σw) (hz : n ≤ 1000000)
    (hs : ∀ (i : Nat) (acc : List V), i < n → acc.length < 1000000 → gg (.int (i : Int)) σw ([(Dl, .lst acc)] :: L) (LcT tt te Dl acc (AccI acc (.int (g i)) L) σw vw))
    (hd : Wk (Q (.ref Dl)) ([(Dl, .lst (((List.range n).map g).map V.int))] :: L)) : LcR (wkR 0 n) gg tt te vw σ Dl L Q :=
  c_ints g hw hz (fun i acc h1 h2 => by rw [Int.zero_add]; exact hs i acc h1 h2) hd
/-- [g(x) for x in ints] -/
theorem c_intsL (g : Int → Int) {σw : St} (hw : wipe σ vw = σw) (hx : IsL K L p xs) (hv : IntsV xs ns) (hz : ns.length ≤ 1000000)
    (hs : ∀ (x : Int) (acc : List V), x ∈ ns → acc.length < 1000000 → gg (.int x) σw ([(Dl, .lst acc)] :: L) (LcT tt te Dl acc (AccI acc (.int (g x)) L) σw vw))
    (hd : Wk (Q (.ref Dl)) ([(Dl, .lst ((ns.map g).map V.int))] :: L)) : LcR (wkL K p xs) gg tt te vw σ Dl L Q := by
  have hv := hv.eq
  subst hv
  refine c_list (fun i acc L' => acc = ((ns.take i).map g).map V.int ∧ i ≤ ns.length ∧ L' = L) hw (Wk.go ⟨by simp, Nat.zero_le _, rfl⟩) (fun i acc L' h => ?_) ?_ ?_
  · rw [h.2.2]; exact IsL.tl hx
  · rintro i acc x L' hi ⟨rfl, hl, rfl⟩
    rw [List.getElem?_map] at hi
    obtain ⟨y, hy, rfl⟩ := Option.map_eq_some_iff.mp hi
    have hlt : i < ns.length := (List.getElem?_eq_some_iff.mp hy).1
    have := hs y (((ns.take i).map g).map V.int) (List.mem_of_getElem? hy) (by simp; omega)
    have e : AccI (((ns.take i).map g).map V.int) (.int (g y)) L' = fun acc' L'' => acc' = ((ns.take (i + 1)).map g).map V.int ∧ i + 1 ≤ ns.length ∧ L'' = L' := by
      funext a b
      unfold AccI
      rw [List.take_succ, hy]
      have : i + 1 ≤ ns.length := hlt
      simp [this]
    rw [e] at this
    exact this
  · rintro acc L' ⟨rfl, _, rfl⟩
    rw [List.length_map, List.take_length]
    exact hd
/-- a filter that drops all -/
theorem c_drop {σw : St} (hw : wipe σ vw = σw) (hx : IsL K L p xs)
    (hs : ∀ (x : V), x ∈ xs → gg x σw ([(Dl, .lst [])] :: L) (LcT tt te Dl [] (fun acc' L' => acc' = [] ∧ L' = L) σw vw))
    (hd : Wk (Q (.ref Dl)) ([(Dl, .lst [])] :: L)) : LcR (wkL K p xs) gg tt te vw σ Dl L Q := by
  refine c_list (fun i acc L' => acc = [] ∧ L' = L) hw (Wk.go ⟨rfl, rfl⟩) (fun i acc L' h => ?_) ?_ ?_
  · rw [h.2]; exact IsL.tl hx
  · rintro i acc x L' hi ⟨rfl, rfl⟩
    exact hs x (List.mem_of_getElem? hi)
  · rintro acc L' ⟨rfl, rfl⟩
    exact hd
theorem s_lcnI (l : Lic L4 ([(Dl, .lst acc)] :: L)) : LcN Dl acc (fun acc' L' => acc' = acc ∧ L' = L) L4 := s_lcn l ⟨rfl, rfl⟩
/-- [a fresh row of ints for i in range]: a volume -/
def RowsP (g : Nat → List Int) (i : Nat) (L : Lg) : List V → Lg → Prop := fun acc L' => ∃ as : List Addr, acc = as.map V.ref ∧ as.length = i ∧ L' = cellsL as ((List.range i).map g) :: L
theorem s_lcyR {i : Nat} {a : Addr} {g : Nat → List Int} {r : List Int} {ys : List V} (h : At L4 a (.lst ys)) (v : IntsV ys r) (e : r = g i) (hl : as.length = i) (hz : i < 1000000)
    (l : LicS L4 ([(a, .lst ys)] :: [(Dl, .lst (as.map V.ref))] :: cellsL as ((List.range i).map g) :: L)) : LcY Dl (as.map V.ref) (RowsP g (i + 1) L) (.ref a) L4 := by
  have e' := v.eq
  subst e'
  subst e
  refine s_lcy (by simp; omega) (Lic.trans l.lic (lic_turn (by simp [hl]))) ⟨as ++ [a], by simp, by simp [hl], ?_⟩
  rw [List.range_succ, List.map_append]
  rfl
theorem c_rows0 (g : Nat → List Int) {σw : St} (hw : wipe σ vw = σw)
    (hs : ∀ (i : Nat) (as : List Addr), i < n → as.length = i → gg (.int (i : Int)) σw ([(Dl, .lst (as.map V.ref))] :: cellsL as ((List.range i).map g) :: L) (LcT tt te Dl (as.map V.ref) (RowsP g (i + 1) L) σw vw))
    (hd : ∀ as : List Addr, as.length = n → Q (.ref Dl) (volC Dl as ((List.range n).map g) :: L)) : LcR (wkR 0 n) gg tt te vw σ Dl L Q := by
  refine c_range0 (fun i acc L' => RowsP g i L acc L') hw (Wk.by_ lic_cells_nil ⟨[], rfl, rfl, rfl⟩) ?_ ?_
  · rintro i acc L' hi ⟨as, rfl, ha, rfl⟩
    exact hs i as hi ha
  · rintro acc L' ⟨as, rfl, ha, rfl⟩
    exact Wk.by_ lic_vol (hd as ha)
/-! loops over ints and rows -/
variable {tb : LTS} {n0 : St → Lg → Prop} {r0 : LVK} {b0 c0 : St → Lg → Prop}
theorem f_ints (Pv : Nat → St → Lg → Prop) (hv : IntsV xs ns) (h0 : Wk (Pv 0 σ) L) (hG : ∀ i σ L, Pv i σ L → IsL K L p xs) (hs : ∀ (i : Nat) (x : Int) σ L, ns[i]? = some x → Pv i σ L → gg (.int x) σ L fun σ2 L2 => tb ⟨Pv (i + 1), r0, n0, Pv (i + 1)⟩ σ2 L2) (hd : ∀ σ L, Pv ns.length σ L → n0 σ L) : ForR (wkL K p xs) gg tb ⟨n0, r0, b0, c0⟩ σ L := by
  have e := hv.eq
  subst e
  refine f_list Pv h0 hG (fun i x σ L hx hp => ?_) (fun σ L hp => hd σ L (by rw [List.length_map] at hp; exact hp))
  rw [List.getElem?_map] at hx
  obtain ⟨y, hy, rfl⟩ := Option.map_eq_some_iff.mp hx
  exact hs i y σ L hy hp
theorem adr_get {i : Nat} {x : V} (h : (as.map V.ref)[i]? = some x) : x = .ref (adrAt as (i : Int)) ∧ i < as.length := by
  rw [List.getElem?_map] at h
  obtain ⟨a, ha, rfl⟩ := Option.map_eq_some_iff.mp h
  have hlt := (List.getElem?_eq_some_iff.mp ha).1
  have := get_adr (as := as) (j := (i : Int)) (by omega) (by omega)
  simp only [Int.toNat_natCast] at this
  rw [ha] at this
  exact ⟨congrArg V.ref (Option.some.inj this), hlt⟩
theorem f_refs (Pv : Nat → St → Lg → Prop) (h0 : Wk (Pv 0 σ) L) (hG : ∀ i σ L, Pv i σ L → IsL K L p (as.map V.ref)) (hs : ∀ (i : Nat) σ L, i < as.length → Pv i σ L → gg (.ref (adrAt as (i : Int))) σ L fun σ2 L2 => tb ⟨Pv (i + 1), r0, n0, Pv (i + 1)⟩ σ2 L2) (hd : ∀ σ L, Pv as.length σ L → n0 σ L) : ForR (wkL K p (as.map V.ref)) gg tb ⟨n0, r0, b0, c0⟩ σ L := by
  refine f_list Pv h0 hG (fun i x σ L hx hp => ?_) (fun σ L hp => hd σ L (by rw [List.length_map] at hp; exact hp))
  obtain ⟨rfl, hlt⟩ := adr_get hx
  exact hs i σ L hlt hp
theorem c_refs (Pv : Nat → List V → Lg → Prop) {σw : St} (hw : wipe σ vw = σw) (h0 : Wk (Pv 0 []) L) (hG : ∀ i acc L, Pv i acc L → IsL K ([(Dl, .lst acc)] :: L) p (as.map V.ref)) (hs : ∀ (i : Nat) acc L, i < as.length → Pv i acc L → gg (.ref (adrAt as (i : Int))) σw ([(Dl, .lst acc)] :: L) (LcT tt te Dl acc (Pv (i + 1)) σw vw)) (hd : ∀ acc L, Pv as.length acc L → Wk (Q (.ref Dl)) ([(Dl, .lst acc)] :: L)) : LcR (wkL K p (as.map V.ref)) gg tt te vw σ Dl L Q := by
  refine c_list Pv hw h0 hG (fun i acc x L hx hp => ?_) (fun acc L hp => hd acc L (by rw [List.length_map] at hp; exact hp))
  obtain ⟨rfl, hlt⟩ := adr_get hx
  exact hs i acc L hlt hp
/-- a row put in the place of another one -/
theorem s_set_row {a : Addr} {rows : List (List Int)} {r : List Int} {j : Int} {L0 : Lg} {P : Lg → Prop} (hp : LicS L4 (volC p as rows :: [(a, .lst (r.map V.int))] :: L0)) (hw : Wr p (.lst (as.map V.ref)) (.lst ((as.map V.ref).set j.toNat (.ref a))) L4 L) (hl : as.length = rows.length) (h0 : 0 ≤ j) (h1 : j < as.length)
    (k : Wk P L) : gSet (.ref p) (.int j) (.ref a) L4 (Wk P) := s_set_l hw (by rw [List.length_map]; exact ixN_pos h0 h1) k
end
theorem cells_set_perm : ∀ {as : List Addr} {rows : List (List Int)} {i : Nat} {a : Addr} {r : List Int}, as.length = rows.length → i < as.length → ∃ x, ((a, HO.lst (r.map V.int)) :: cellsL as rows).Perm (cellsL (as.set i a) (rows.set i r) ++ [x])
  | [], _, _, _, _, _, h => by simp at h
  | _ :: _, [], _, _, _, h, _ => by simp at h
  | b :: as, s :: rows, 0, a, r, hl, _ => ⟨(b, .lst (s.map V.int)), by
    show ((a, HO.lst (r.map V.int)) :: (b, HO.lst (s.map V.int)) :: cellsL as rows).Perm ((a, HO.lst (r.map V.int)) :: (cellsL as rows ++ [(b, HO.lst (s.map V.int))]))
    exact List.Perm.cons _ (List.perm_append_singleton _ _).symm⟩
  | b :: as, s :: rows, i + 1, a, r, hl, h => by
    obtain ⟨x, hx⟩ := cells_set_perm (as := as) (rows := rows) (i := i) (a := a) (r := r) (by simpa using hl) (by simpa using h)
    refine ⟨x, ?_⟩
    show ((a, HO.lst (r.map V.int)) :: (b, HO.lst (s.map V.int)) :: cellsL as rows).Perm ((b, HO.lst (s.map V.int)) :: (cellsL (as.set i a) (rows.set i r) ++ [x]))
    exact (List.Perm.swap _ _ _).trans (List.Perm.cons _ hx)
theorem LicS.rowset {as : List Addr} {rows : List (List Int)} {i : Nat} {a p : Addr} {r : List Int} {L T : Lg} (hl : as.length = rows.length) (hi : i < as.length) (h : LicS L ([(p, .lst ((as.map V.ref).set i (.ref a)))] :: [(a, .lst (r.map V.int))] :: cellsL as rows :: T)) : LicS L (volC p (as.set i a) (rows.set i r) :: T) := by
  refine h.trans ?_
  obtain ⟨x, hx⟩ := cells_set_perm (a := a) (r := r) hl hi
  refine ⟨[x], ?_⟩
  rw [List.flatten_cons, List.flatten_cons, List.flatten_cons, List.flatten_cons]
  unfold volC
  rw [List.map_set]
  simp only [List.cons_append, List.nil_append]
  refine List.Perm.cons _ ?_
  rw [← List.cons_append]
  refine (hx.append_right _).trans ?_
  rw [List.append_assoc, List.append_assoc]
  exact List.Perm.append_left _ List.perm_append_comm
/-- volume[j] = the fresh row at a: the volume at the front -/
theorem s_set_row2 {L : Lg} {p a : Addr} {as : List Addr} {rows : List (List Int)} {ys : List V} {r : List Int} {j : Int} {P : Lg → Prop} (v : IntsV ys r) (hl : as.length = rows.length) (h0 : 0 ≤ j) (h1 : j < as.length)
    (k : Wk P (volC p (as.set j.toNat a) (rows.set j.toNat r) :: L)) : gSet (.ref p) (.int j) (.ref a) ([(a, .lst ys)] :: volC p as rows :: L) (Wk P) := by
  have e := v.eq
  subst e
  refine s_set_l (Wr.tl (Wr.hd (A := []))) (by rw [List.length_map]; exact ixN_pos h0 h1) ?_
  obtain ⟨L', l, q⟩ := k
  refine ⟨L', Lic.trans (LicS.lic (LicS.rowset hl (by omega) ?_)) l, q⟩
  exact ⟨[], by simp; exact List.Perm.swap _ _ _⟩
end VM

end

section
namespace VM
open PySem PySem.Spec L2
open PyProof.Rows hiding St

/-! ### pairs of a number and a row -/
def dP (w : Int × List Int) : PyData := .tuple [.int w.1, dI w.2]
def dW (ws : List (Int × List Int)) : PyData := .list (ws.map dP)
theorem dP_iff {a b : Int × List Int} : dP a = dP b ↔ a = b := by
  constructor
  · intro h
    simp only [dP, PyData.tuple.injEq, List.cons.injEq, PyData.int.injEq, and_true] at h
    exact Prod.ext h.1 (dI_inj h.2)
  · rintro rfl; rfl
theorem dW_inj : ∀ {ns ms : List (Int × List Int)}, dW ns = dW ms → ns = ms
  | [], [], _ => rfl
  | [], _ :: _, h => by simp [dW] at h
  | _ :: _, [], h => by simp [dW] at h
  | a :: ns, b :: ms, h => by
    simp only [dW, List.map_cons, PyData.list.injEq, List.cons.injEq] at h
    rw [dP_iff.mp h.1, dW_inj (congrArg PyData.list h.2)]
theorem dW_iff {a b : List (Int × List Int)} : dW a = dW b ↔ a = b := ⟨dW_inj, fun h => h ▸ rfl⟩
theorem nb3w {n : Nat} {ws : List (Int × List Int)} : nbD (n + 3) (dW ws) = true := nb_list fun d hd => by
  obtain ⟨w, _, rfl⟩ := List.mem_map.mp hd
  exact nb_tup (nba_cons nb_i (nba_cons nb1 nba_nil))
theorem dR_nil {a : List (List Int)} : dR a = dI [] ↔ a = [] := by
  cases a <;> simp [dR, dI]
theorem dW_nil {a : List (Int × List Int)} : dW a = dI [] ↔ a = [] := by
  cases a <;> simp [dW, dI]
theorem dW_nil' {a : List (Int × List Int)} : dI [] = dW a ↔ a = [] := by
  cases a <;> simp [dW, dI]
theorem dR_nil' {a : List (List Int)} : dI [] = dR a ↔ a = [] := by
  cases a <;> simp [dR, dI]
theorem Tel.dP_inv {c : Chunk} {v : V} {w : Int × List Int} (h : Tel c v (dP w)) : ∃ t a, v = .ref t ∧ (t, HO.tup [.int w.1, .ref a]) ∈ c ∧ (a, HO.lst (w.2.map V.int)) ∈ c := by
  obtain ⟨t, xs, rfl, h1, h2⟩ := h.tup_inv
  obtain ⟨x, r, rfl, h3, h4⟩ := h2.cons_inv
  obtain ⟨y, r, rfl, h5, h6⟩ := h4.cons_inv
  obtain rfl := h6.nil_inv
  obtain rfl := h3.int_inv
  obtain ⟨a, rfl, h7⟩ := h5.dI_inv
  exact ⟨t, a, rfl, h1, h7⟩
theorem Tel.dP {c : Chunk} {t a : Addr} {n : Int} {r : List Int} (h : (t, HO.tup [.int n, .ref a]) ∈ c) (k : (a, HO.lst (r.map V.int)) ∈ c) : Tel c (.ref t) (dP (n, r)) := .tup h (.cons (.int n) (.cons (.ints k) .nil))
theorem TelAll.pair {c : Chunk} {xs : List V} {ws : List (Int × List Int)} {i : Nat} {x : V} (h : TelAll c xs (ws.map VM.dP)) (hx : xs[i]? = some x) : ∃ w t a, ws[i]? = some w ∧ x = .ref t ∧ (t, HO.tup [.int w.1, .ref a]) ∈ c ∧ (a, HO.lst (w.2.map V.int)) ∈ c := by
  obtain ⟨e, he, t⟩ := h.get hx
  rw [List.getElem?_map] at he
  obtain ⟨w, hw, rfl⟩ := Option.map_eq_some_iff.mp he
  obtain ⟨t, a, e, h1, h2⟩ := t.dP_inv
  exact ⟨w, t, a, hw, e, h1, h2⟩
/-- pairs at D: tuples at ts, rows at as -/
def tupC (D : Addr) (ts : List Addr) (ws : List (Int × List Int)) (as : List Addr) : Chunk := (D, .lst (ts.map V.ref)) :: ts.zip (List.zipWith (fun w a => HO.tup [V.int w.1, V.ref a]) ws as)
section
variable {K : PySem.W.Frag} {L : Lg} {D t a : Addr} {ts as : List Addr} {ws : List (Int × List Int)} {rows : List (List Int)} {i : Nat} {w : Int × List Int} {r : List Int}
theorem tup_top (h : tupC D ts ws as ∈ L) : At L D (.lst (ts.map V.ref)) := At.mem h List.mem_cons_self
theorem zip_mem {α β : Type} : ∀ {xs : List α} {ys : List β} {i : Nat} {x : α} {y : β}, xs[i]? = some x → ys[i]? = some y → (x, y) ∈ xs.zip ys
  | [], _, _, _, _, h, _ => by simp at h
  | _ :: _, [], _, _, _, _, h => by simp at h
  | a :: xs, b :: ys, 0, x, y, h1, h2 => by
    simp only [List.getElem?_cons_zero, Option.some.injEq] at h1 h2
    subst h1; subst h2
    exact List.mem_cons_self
  | a :: xs, b :: ys, i + 1, x, y, h1, h2 => by
    simp only [List.getElem?_cons_succ] at h1 h2
    exact List.mem_cons_of_mem _ (zip_mem h1 h2)
theorem tup_one (h : tupC D ts ws as ∈ L) (h1 : ts[i]? = some t) (h2 : ws[i]? = some w) (h3 : as[i]? = some a) : At L t (.tup [.int w.1, .ref a]) :=
  At.mem h (List.mem_cons_of_mem _ (zip_mem h1 (by rw [List.getElem?_zipWith, h2, h3])))
theorem cells_at (h : cellsL as rows ∈ L) (h1 : as[i]? = some a) (h2 : rows[i]? = some r) : At L a (.lst (r.map V.int)) := At.mem h (cells_mem h1 h2)
theorem cell_at {j : Int} (h : cellsL as rows ∈ L) (hl : as.length = rows.length) (h0 : 0 ≤ j) (h1 : j < as.length) : At L (adrAt as j) (.lst ((rowAt rows j).map V.int)) := cells_at h (get_adr h0 h1) (get_row h0 (by omega))
theorem tup_at {j : Int} (h : tupC D ts ws as ∈ L) (hl : ts.length = ws.length) (hl2 : as.length = ws.length) (h0 : 0 ≤ j) (h1 : j < ts.length) : At L (adrAt ts j) (.tup [.int (ws.getD j.toNat (0, [])).1, .ref (adrAt as j)]) := by
  refine tup_one h (get_adr h0 h1) ?_ (get_adr h0 (by omega))
  have hn : j.toNat < ws.length := by omega
  simp [List.getD_eq_getElem?_getD, List.getElem?_eq_getElem hn]
theorem DpLA.mk {xs : List V} {ds : List PyData} (hl : xs.length = ds.length) (h : ∀ (i : Nat) x d, xs[i]? = some x → ds[i]? = some d → DpL K L x d) : DpLA K L xs ds := by
  induction xs generalizing ds with
  | nil => cases ds with
    | nil => exact .nil
    | cons _ _ => simp at hl
  | cons x xs ih => cases ds with
    | nil => simp at hl
    | cons d ds => exact .cons (h 0 x d rfl rfl) (ih (by simpa using hl) fun i x d h1 h2 => h (i + 1) x d h1 h2)
theorem DpL.pairs (h : tupC D ts ws as ∈ L) (k : cellsL as (ws.map Prod.snd) ∈ L) (hl : ts.length = ws.length) (hl2 : as.length = ws.length) : DpL K L (.ref D) (dW ws) := by
  refine DpL.lst (IsL.at_ (tup_top h)) (DpLA.mk (by simp [hl]) fun i x d hx hd => ?_)
  rw [List.getElem?_map] at hx hd
  obtain ⟨t, ht, rfl⟩ := Option.map_eq_some_iff.mp hx
  obtain ⟨w, hw, rfl⟩ := Option.map_eq_some_iff.mp hd
  have hi := (List.getElem?_eq_some_iff.mp hw).1
  have ha : as[i]? = some as[i] := List.getElem?_eq_getElem (by omega)
  have h1 := tup_one h ht hw ha
  have h2 := cells_at k ha (r := w.2) (by rw [List.getElem?_map, hw]; rfl)
  exact DpL.tup (IsT.at_ h1) (.cons .int (.cons (DpL.ints (IsL.at_ h2)) .nil))
theorem Tel.pairs {rows : List (List Int)} (hr : rows = ws.map Prod.snd) (hl : ts.length = ws.length) (hl2 : as.length = ws.length) : Tel (tupC D ts ws as ++ cellsL as rows) (.ref D) (dW ws) := by
  subst hr
  have mk : ∀ (c : Chunk) (xs : List V) (ds : List PyData), xs.length = ds.length → (∀ (i : Nat) x d, xs[i]? = some x → ds[i]? = some d → Tel c x d) → TelAll c xs ds := by
    intro c xs
    induction xs with
    | nil => intro ds hl _; cases ds with
      | nil => exact .nil
      | cons _ _ => simp at hl
    | cons x xs ih => intro ds hl h; cases ds with
      | nil => simp at hl
      | cons d ds => exact .cons (h 0 x d rfl rfl) (ih ds (by simpa using hl) fun i x d h1 h2 => h (i + 1) x d h1 h2)
  refine .lst (List.mem_append_left _ List.mem_cons_self) (mk _ _ _ (by simp [hl]) fun i x d hx hd => ?_)
  rw [List.getElem?_map] at hx hd
  obtain ⟨t, ht, rfl⟩ := Option.map_eq_some_iff.mp hx
  obtain ⟨w, hw, rfl⟩ := Option.map_eq_some_iff.mp hd
  have hi := (List.getElem?_eq_some_iff.mp hw).1
  have ha : as[i]? = some as[i] := List.getElem?_eq_getElem (by omega)
  refine Tel.dP (a := as[i]) (List.mem_append_left _ (List.mem_cons_of_mem _ (zip_mem ht (by rw [List.getElem?_zipWith, hw, ha])))) (List.mem_append_right _ (cells_mem ha (by rw [List.getElem?_map, hw]; rfl)))
/-! loops over pairs told by a chunk -/
variable {σ : St} {gg : LTG} {tb : LTS} {n0 : St → Lg → Prop} {r0 : LVK} {b0 c0 : St → Lg → Prop} {q : Addr} {xs : List V} {c : Chunk}
theorem f_pairs (Pv : Nat → St → Lg → Prop) (ht : TelAll c xs (ws.map VM.dP)) (h0 : Wk (Pv 0 σ) L) (hG : ∀ i σ L, Pv i σ L → IsL K L q xs)
    (hs : ∀ (i : Nat) n r t a σ L, ws[i]? = some (n, r) → (t, HO.tup [.int n, .ref a]) ∈ c → (a, HO.lst (r.map V.int)) ∈ c → Pv i σ L → gg (.ref t) σ L fun σ2 L2 => tb ⟨Pv (i + 1), r0, n0, Pv (i + 1)⟩ σ2 L2) (hd : ∀ σ L, Pv ws.length σ L → n0 σ L) : ForR (wkL K q xs) gg tb ⟨n0, r0, b0, c0⟩ σ L := by
  refine f_list Pv h0 hG (fun i x σ L hx hp => ?_) (fun σ L hp => hd σ L (by rw [ht.len, List.length_map] at hp; exact hp))
  obtain ⟨⟨n, r⟩, t, a, hw, rfl, h1, h2⟩ := ht.pair hx
  exact hs i n r t a σ L hw h1 h2 hp
theorem LicS.tup1 {ts : List Addr} {ws : List (Int × List Int)} {as : List Addr} {D t a : Addr} {w : Int × List Int} {T : Lg} (hl : ts.length = ws.length) (hl2 : as.length = ws.length) (h : LicS L ([(D, .lst ((ts ++ [t]).map V.ref))] :: [(t, .tup [.int w.1, .ref a])] :: (ts.zip (List.zipWith (fun w a => HO.tup [V.int w.1, V.ref a]) ws as)) :: T)) : LicS L (tupC D (ts ++ [t]) (ws ++ [w]) (as ++ [a]) :: T) := by
  refine h.trans ⟨[], ?_⟩
  unfold tupC
  rw [List.zipWith_append (by omega), List.zip_append (by simp; omega)]
  simp only [List.flatten_cons, List.cons_append, List.nil_append, List.append_nil, List.append_assoc, List.zip_cons_cons, List.zipWith_cons_cons, List.zipWith_nil_right, List.zip_nil_right]
  exact List.Perm.cons _ List.perm_middle.symm
/-- [(n, list(r)) for n, r in ws] -/
theorem s_copyW {i j k : Nat} {Q : LVK} {vs : List Nat} (hv : σ[i]? = some (some (.ref q))) (hm : c ∈ L) (ht : Tel c (.ref q) (dW ws)) (hz : ws.length ≤ 1000000) (hj : j < σ.length) (hk : k < σ.length) (hjk : j ≠ k) (hvs : vs = [j, k])
    (kk : ∀ D ts as, ts.length = ws.length → as.length = ws.length → Q (.ref D) (tupC D ts ws as :: cellsL as (ws.map Prod.snd) :: L)) :
    lLc (kSeq K (lVar i)) (hTup K 2 (hCons (hName j) (hCons (hName k) hNil))) lYes (lTup (lCons (lVar j) (lCons (lCB (gList K) (lCons (lVar k) lNil)) lNil))) vs σ L Q := by
  subst hvs
  obtain ⟨_, xs, e, hq, hall⟩ := ht.list_inv
  cases e
  obtain ⟨σw, hw⟩ : ∃ σw, wipe σ [j, k] = σw := ⟨_, rfl⟩
  have hj' : j < σw.length := by rw [← hw, wipe_length]; exact hj
  have hk' : k < σw.length := by rw [← hw, wipe_length]; exact hk
  have hwj : ∀ x y, wipe ((σw.set j x).set k y) [j, k] = σw := fun x y => by
    rw [← hw]
    simp only [wipe]
    apply List.ext_getElem?
    intro m
    simp only [List.getElem?_set, List.length_set]
    by_cases e1 : k = m <;> by_cases e2 : j = m <;> simp_all
  have setat : ∀ (σ : St) (j : Nat) (v : V), j < σ.length → SetAt v σ j (σ.set j (some v)) := by
    intro σ
    induction σ with
    | nil => intro j v h; simp at h
    | cons x σ ih =>
      intro j v h
      cases j with
      | zero => exact .hd
      | succ j => exact .tl (ih j v (by simpa using h))
  refine ⟨.ref q, hv, q, xs, rfl, .inl ⟨IsL.at_ (At.mem hm hq), fun D hD => ?_⟩⟩
  refine c_list (fun n acc L' => ∃ ts as : List Addr, acc = ts.map V.ref ∧ ts.length = n ∧ as.length = n ∧ n ≤ ws.length ∧ L' = (ts.zip (List.zipWith (fun w a => HO.tup [V.int w.1, V.ref a]) (ws.take n) as)) :: cellsL as ((ws.take n).map Prod.snd) :: L) hw ?_ ?_ ?_ ?_
  · exact Wk.by_ (LicS.lic (LicS.empty (LicS.empty LicS.refl))) ⟨[], [], rfl, rfl, rfl, Nat.zero_le _, by simp [cellsL]⟩
  · rintro n acc L' ⟨ts, as, rfl, _, _, hn, rfl⟩
    exact IsL.tl (IsL.tl (IsL.tl (IsL.at_ (At.mem hm hq))))
  · rintro n acc x L' hx ⟨ts, as, rfl, hts, has, hn, rfl⟩
    obtain ⟨⟨b, r⟩, t, a, hwn, rfl, m1, m2⟩ := hall.pair hx
    have hlt : n < ws.length := (List.getElem?_eq_some_iff.mp hwn).1
    refine s_htup (xs := [.int b, .ref a]) (IsT.at_ (At.tl (At.tl (At.tl (At.mem hm m1))))) rfl ?_
    refine s_hcons (s_name (setat _ _ _ hj') (s_hcons (s_name (setat _ _ _ (by rw [List.length_set]; exact hk')) (s_hnil ?_))))
    refine s_lct (hwj _ _) (s_yes ?_)
    rw [if_pos rfl]
    refine s_tup (s_cons (s_var (v := .int b) (by rw [List.getElem?_set_ne (Ne.symm hjk), List.getElem?_set_self hj']) (s_cons (s_cb (s_cons (s_var (v := .ref a) (by rw [List.getElem?_set_self (by rw [List.length_set]; exact hk')]) (s_nil ?_)))) )))
    refine s_list_l (xs := r.map V.int) (IsL.at_ (At.tl (At.tl (At.tl (At.mem hm m2))))) fun a2 => s_nil (s_new (show 2 ≤ sizeLine by decide) fun t2 => ?_)
    refine s_lcy (L5 := ((ts ++ [t2]).zip (List.zipWith (fun w a => HO.tup [V.int w.1, V.ref a]) (ws.take n ++ [(b, r)]) (as ++ [a2]))) :: cellsL (as ++ [a2]) ((ws.take n ++ [(b, r)]).map Prod.snd) :: L) (by simp; omega) ?_ ⟨ts ++ [t2], as ++ [a2], by simp, by simp [hts], by simp [has], hlt, ?_⟩
    · have htk : (ws.take n).length = n := by simp; omega
      rw [List.map_append, List.zipWith_append (by omega), List.zip_append (by simp; omega)]
      refine LicS.lic (LicS.pull (.tl (.tl .hd)) (LicS.trans (?_ : LicS _ ((ts.zip (List.zipWith (fun w a => HO.tup [V.int w.1, V.ref a]) (ws.take n) as)) :: [(t2, HO.tup [V.int b, V.ref a2])] :: cellsL (as ++ [a2]) (List.map Prod.snd (ws.take n) ++ [r]) :: L)) (LicS.of_flat (by simp))))
      refine LicS.pull (.tl (.tl .hd)) (LicS.pull .hd ?_)
      exact LicS.row (by simp; omega) LicS.refl
    · rw [List.take_succ, hwn]; rfl
  · rintro acc L' ⟨ts, as, rfl, hts, has, hn, rfl⟩
    have hxl : xs.length = ws.length := by rw [hall.len, List.length_map]
    rw [hxl] at hts has ⊢
    rw [List.take_length]
    refine Wk.by_ (LicS.lic ?_) (kk D ts as hts has)
    exact LicS.of_flat (by simp [tupC])
end
theorem Tel.wnil {x : Addr} : Tel [(x, HO.lst [])] (.ref x) (dW []) := .lst List.mem_cons_self .nil
/-! a chunk put in the place of one -/
inductive Rp (c c' : Chunk) : Lg → Lg → Prop
  | hd {L : Lg} : Rp c c' (c :: L) (c' :: L)
  | tl {d : Chunk} {L L' : Lg} (h : Rp c c' L L') : Rp c c' (d :: L) (d :: L')
theorem Rp.wr {c c' : Chunk} {L L' : Lg} {p : Addr} {o o' : HO} (h : Rp c c' L L') (w : ∀ L, Wr p o o' (c :: L) (c' :: L)) : Wr p o o' L L' := by
  induction h with
  | hd => exact w _
  | tl _ ih => exact Wr.tl ih
theorem s_set_volR {p : Addr} {as : List Addr} {rows : List (List Int)} {L L' : Lg} {j i v : Int} {Q : Lg → Prop} (h : Rp (volC p as rows) (volC p as (putAt rows j i.toNat v)) L L') (hl : as.length = rows.length) (h0 : 0 ≤ j) (h1 : j < as.length) (h2 : 0 ≤ i) (h3 : i < (rowAt rows j).length) (k : Q L') : gSet (.ref (adrAt as j)) (.int i) (.int v) L Q := s_set_i (h.wr fun _ => Wr.volset hl h0 h1) (ixN_pos h2 h3) k
theorem Wr.cellset {as : List Addr} {rows : List (List Int)} {L : Lg} {j : Int} {n : Nat} {v : Int} (hl : as.length = rows.length) (h0 : 0 ≤ j) (h1 : j < as.length) : Wr (adrAt as j) (.lst ((rowAt rows j).map V.int)) (.lst (((rowAt rows j).set n v).map V.int)) (cellsL as rows :: L) (cellsL as (putAt rows j n v) :: L) := by
  obtain ⟨A, B, e1, e2⟩ := cells_split (get_adr h0 h1) (get_row (rows := rows) h0 (by omega))
  unfold putAt
  rw [e1, e2]
  exact Wr.hd
theorem s_set_cellR {as : List Addr} {rows : List (List Int)} {L L' : Lg} {j i v : Int} {Q : Lg → Prop} (h : Rp (cellsL as rows) (cellsL as (putAt rows j i.toNat v)) L L') (hl : as.length = rows.length) (h0 : 0 ≤ j) (h1 : j < as.length) (h2 : 0 ≤ i) (h3 : i < (rowAt rows j).length) (k : Q L') : gSet (.ref (adrAt as j)) (.int i) (.int v) L Q := s_set_i (h.wr fun _ => Wr.cellset hl h0 h1) (ixN_pos h2 h3) k
/-! tests that are known -/
section
variable {c A B : Prop} {d : Decidable c}
theorem s_iteDT (h : c) (k : A) : if @decide c d = true then A else B := by rw [if_pos (decide_eq_true h)]; exact k
theorem s_iteDF (h : ¬ c) (k : B) : if @decide c d = true then A else B := by rw [if_neg (by rw [decide_eq_false h]; simp)]; exact k
theorem s_iteNT (h : c) (k : B) : if (!@decide c d) = true then A else B := by rw [if_neg (by rw [decide_eq_true h]; simp)]; exact k
theorem s_iteNF (h : ¬ c) (k : A) : if (!@decide c d) = true then A else B := by rw [if_pos (by rw [decide_eq_false h]; simp)]; exact k
end
/-! comprehensions, the walk's own -/
section
variable {K : PySem.W.Frag} {σ σw : St} {L : Lg} {Q : LVK} {gg : LTG} {tt : LTT} {te : LTE} {vw : List Nat} {p : Addr} {lo : Int} {n : Nat} {ns : List Int} {xs : List V}
theorem a_ints (g : Nat → Int) (hw : wipe σ vw = σw) (hz : n ≤ 1000000)
    (hs : ∀ (i : Nat) (acc : List V) (Dl : Addr), i < n → acc.length < 1000000 → gg (.int (i : Int)) σw ([(Dl, .lst acc)] :: L) (LcT tt te Dl acc (AccI acc (.int (g i)) L) σw vw))
    (hd : ∀ Dl, Wk (Q (.ref Dl)) ([(Dl, .lst (((List.range n).map g).map V.int))] :: L)) : ∀ Dl, Dl ∉ keys L → LcR (wkR 0 n) gg tt te vw σ Dl L Q := fun Dl _ => c_ints0 g hw hz (fun i acc h1 h2 => hs i acc Dl h1 h2) (hd Dl)
theorem a_intsN (g : Nat → Int) (hw : wipe σ vw = σw) (hz : n ≤ 1000000)
    (hs : ∀ (i : Nat) (acc : List V) (Dl : Addr), i < n → acc.length < 1000000 → gg (.int (lo + i)) σw ([(Dl, .lst acc)] :: L) (LcT tt te Dl acc (AccI acc (.int (g i)) L) σw vw))
    (hd : ∀ Dl, Wk (Q (.ref Dl)) ([(Dl, .lst (((List.range n).map g).map V.int))] :: L)) : ∀ Dl, Dl ∉ keys L → LcR (wkR lo n) gg tt te vw σ Dl L Q := fun Dl _ => c_ints g hw hz (fun i acc h1 h2 => hs i acc Dl h1 h2) (hd Dl)
theorem a_intsL (g : Int → Int) (hx : IsL K L p xs) (hv : IntsV xs ns) (hw : wipe σ vw = σw) (hz : ns.length ≤ 1000000)
    (hs : ∀ (x : Int) (acc : List V) (Dl : Addr), x ∈ ns → acc.length < 1000000 → gg (.int x) σw ([(Dl, .lst acc)] :: L) (LcT tt te Dl acc (AccI acc (.int (g x)) L) σw vw))
    (hd : ∀ Dl, Wk (Q (.ref Dl)) ([(Dl, .lst ((ns.map g).map V.int))] :: L)) : ∀ Dl, Dl ∉ keys L → LcR (wkL K p xs) gg tt te vw σ Dl L Q := fun Dl _ => c_intsL g hw hx hv hz (fun x acc h1 h2 => hs x acc Dl h1 h2) (hd Dl)
theorem a_rows (g : Nat → List Int) (hw : wipe σ vw = σw)
    (hs : ∀ (i : Nat) (as : List Addr) (Dl : Addr), i < n → as.length = i → gg (.int (i : Int)) σw ([(Dl, .lst (as.map V.ref))] :: cellsL as ((List.range i).map g) :: L) (LcT tt te Dl (as.map V.ref) (RowsP g (i + 1) L) σw vw))
    (hd : ∀ (Dl : Addr) (as : List Addr), as.length = ((List.range n).map g).length → as.length = n → Q (.ref Dl) (volC Dl as ((List.range n).map g) :: L)) : ∀ Dl, Dl ∉ keys L → LcR (wkR 0 n) gg tt te vw σ Dl L Q := fun Dl _ => c_rows0 g hw (fun i as h1 h2 => hs i as Dl h1 h2) fun as ha => hd Dl as (by simpa using ha) ha
theorem a_boolsL (g : Int → Bool) (hx : IsL K L p xs) (hv : IntsV xs ns) (hw : wipe σ vw = σw) (hz : ns.length ≤ 1000000)
    (hs : ∀ (x : Int) (acc : List V) (Dl : Addr), x ∈ ns → acc.length < 1000000 → gg (.int x) σw ([(Dl, .lst acc)] :: L) (LcT tt te Dl acc (AccI acc (.bl (g x)) L) σw vw))
    (hd : ∀ Dl, Wk (Q (.ref Dl)) ([(Dl, .lst ((ns.map g).map V.bl))] :: L)) : ∀ Dl, Dl ∉ keys L → LcR (wkL K p xs) gg tt te vw σ Dl L Q := fun Dl _ => by
  have hv := hv.eq
  subst hv
  refine c_list (fun i acc L' => acc = ((ns.take i).map g).map V.bl ∧ i ≤ ns.length ∧ L' = L) hw (Wk.go ⟨by simp, Nat.zero_le _, rfl⟩) (fun i acc L' h => ?_) ?_ ?_
  · rw [h.2.2]; exact IsL.tl hx
  · rintro i acc x L' hi ⟨rfl, hl, rfl⟩
    rw [List.getElem?_map] at hi
    obtain ⟨y, hy, rfl⟩ := Option.map_eq_some_iff.mp hi
    have hlt : i < ns.length := (List.getElem?_eq_some_iff.mp hy).1
    have := hs y (((ns.take i).map g).map V.bl) Dl (List.mem_of_getElem? hy) (by simp; omega)
    have e : AccI (((ns.take i).map g).map V.bl) (.bl (g y)) L' = fun acc' L'' => acc' = ((ns.take (i + 1)).map g).map V.bl ∧ i + 1 ≤ ns.length ∧ L'' = L' := by
      funext a b
      unfold AccI
      rw [List.take_succ, hy]
      have : i + 1 ≤ ns.length := hlt
      simp [this]
    rw [e] at this
    exact this
  · rintro acc L' ⟨rfl, _, rfl⟩
    rw [List.length_map, List.take_length]
    exact hd Dl
theorem a_bools (g : Nat → Bool) (hw : wipe σ vw = σw) (hz : n ≤ 1000000)
    (hs : ∀ (i : Nat) (acc : List V) (Dl : Addr), i < n → acc.length < 1000000 → gg (.int (i : Int)) σw ([(Dl, .lst acc)] :: L) (LcT tt te Dl acc (AccI acc (.bl (g i)) L) σw vw))
    (hd : ∀ Dl, Wk (Q (.ref Dl)) ([(Dl, .lst (((List.range n).map g).map V.bl))] :: L)) : ∀ Dl, Dl ∉ keys L → LcR (wkR 0 n) gg tt te vw σ Dl L Q := fun Dl _ => by
  refine c_range0 (fun i acc L' => acc = ((List.range i).map g).map V.bl ∧ L' = L) hw (Wk.go ⟨rfl, rfl⟩) ?_ ?_
  · rintro i acc L' hi ⟨rfl, rfl⟩
    have := hs i (((List.range i).map g).map V.bl) Dl hi (by simp; omega)
    have e : AccI (((List.range i).map g).map V.bl) (.bl (g i)) L' = fun acc' L'' => acc' = ((List.range (i + 1)).map g).map V.bl ∧ L'' = L' := by
      funext a b
      unfold AccI
      rw [List.range_succ, List.map_append, List.map_append]; rfl
    rw [e] at this
    exact this
  · rintro acc L' ⟨rfl, rfl⟩
    exact hd Dl
theorem s_all {bs : List Bool} (h : At L p (.lst (bs.map V.bl))) (k : Q (.bl (bs.all id)) L) : gAll K [.ref p] L Q := ⟨p, bs, rfl, IsL.at_ h, k⟩
theorem s_add_l2 {q : Addr} {ys : List V} (h1 : At L p (.lst xs)) (h2 : At L q (.lst ys)) (hz : xs.length + ys.length ≤ 1000000) (k : ∀ r, Q (.ref r) ([(r, .lst (xs ++ ys))] :: L)) : gAdd K (.ref p) (.ref q) L Q := s_add_l h1 h2 (Nat.le_trans hz (by decide)) k
theorem s_len_refs {as : List Addr} (h : IsL K L p (as.map V.ref)) (k : Q (.int as.length) L) : gLen K [.ref p] L Q := s_len_l h (by rw [List.length_map]; exact k)
theorem filt_nt {ns : List Int} : ns.filter (fun _ => !true) = [] := by simp
theorem s_ix_ivE {ns : List Int} {i x : Int} (h : IsL K L p xs) (e : IntsV xs ns) (h0 : 0 ≤ i) (h1 : i < ns.length) (he : ns.getD i.toNat 0 = x) (k : Q (.int x) L) : gIx K (.ref p) (.int i) L Q := s_ix_iv h e h0 h1 (by rw [he]; exact k)
theorem s_ix_tvE {ns : List Int} {i x : Int} (h : IsT K L p xs) (e : IntsV xs ns) (h0 : 0 ≤ i) (h1 : i < ns.length) (he : ns.getD i.toNat 0 = x) (k : Q (.int x) L) : gIx K (.ref p) (.int i) L Q := s_ix_tv h e h0 h1 (by rw [he]; exact k)
theorem filt_ff {ns : List Int} : ns.filter (fun _ => false) = [] := by simp
theorem cutG_len {α : Type} {xs : List α} {lo hi : Option Int} : (cutG xs lo hi).length ≤ xs.length := by
  unfold cutG
  simp only [List.length_take, List.length_drop]
  omega
/-- volume[j] = the fresh row at a -/
theorem s_set_rowR {L1 L2 : Lg} {a : Addr} {as : List Addr} {rows : List (List Int)} {ys : List V} {r : List Int} {j : Int} {P : Lg → Prop} (h1 : Pull [(a, .lst ys)] L L1) (h2 : Pull (volC p as rows) L1 L2) (v : IntsV ys r) (hl : as.length = rows.length) (h0 : 0 ≤ j) (h3 : j < as.length)
    (k : Wk P (volC p (as.set j.toNat a) (rows.set j.toNat r) :: L2)) : gSet (.ref p) (.int j) (.ref a) L (Wk P) := by
  have e := v.eq
  subst e
  -- the volume's place
  have wr : ∀ {L L1 : Lg}, Pull (volC p as rows) L L1 → ∃ L', Wr p (.lst (as.map V.ref)) (.lst ((as.map V.ref).set j.toNat (.ref a))) L L' ∧ Pull ((p, .lst ((as.map V.ref).set j.toNat (.ref a))) :: cellsL as rows) L' L1 := by
    intro L L1 h
    induction h with
    | hd => exact ⟨_, Wr.hd (A := []), .hd⟩
    | tl _ ih =>
      obtain ⟨L', w, q⟩ := ih
      exact ⟨_, .tl w, .tl q⟩
  -- the pulls the other way round
  have sw : ∀ {L L1 L2 : Lg} {c d : Chunk}, Pull c L L1 → Pull d L1 L2 → ∃ L3, Pull d L L3 ∧ Pull c L3 L2 := by
    intro L L1 L2 c d h
    induction h generalizing L2 with
    | hd => intro k; exact ⟨_, .tl k, .hd⟩
    | tl h ih =>
      intro k
      cases k with
      | hd => exact ⟨_, .hd, h⟩
      | tl k =>
        obtain ⟨L3, a, b⟩ := ih k
        exact ⟨_, .tl a, .tl b⟩
  obtain ⟨L3, g1, g2⟩ := sw h1 h2
  obtain ⟨L', w, q⟩ := wr g1
  refine s_set_l w (by rw [List.length_map]; exact ixN_pos h0 h3) ?_
  obtain ⟨L5, l, z⟩ := k
  refine ⟨L5, Lic.trans (LicS.lic (LicS.rowset hl (by omega) ?_)) l, z⟩
  exact LicS.trans (LicS.pull q (LicS.pull g2 LicS.refl)) ⟨[], by simp only [List.flatten_cons, List.cons_append, List.nil_append, List.append_nil]; exact List.Perm.cons _ List.perm_middle⟩
theorem IntsV.rep {k : Nat} {a : Int} : IntsV ((List.replicate k [V.int a]).flatten) (List.replicate k a) := by
  have e : (List.replicate k [V.int a]).flatten = (List.replicate k a).map V.int := by
    induction k with
    | zero => rfl
    | succ k ih => rw [List.replicate_succ, List.flatten_cons, ih, List.replicate_succ]; rfl
  rw [e]
  exact .map
/-- a filter of refs that drops all -/
def AccN (L : Lg) : List V → Lg → Prop := fun acc' L' => acc' = [] ∧ L' = L
theorem s_lcnN {Dl : Addr} {L3 : Lg} (l : Lic L3 ([(Dl, .lst [])] :: L)) : LcN Dl [] (AccN L) L3 := s_lcn l ⟨rfl, rfl⟩
theorem a_dropR {as : List Addr} (hx : IsL K L p (as.map V.ref)) (hw : wipe σ vw = σw)
    (hs : ∀ (i : Nat) (Dl : Addr), i < as.length → gg (.ref (adrAt as (i : Int))) σw ([(Dl, .lst [])] :: L) (LcT tt te Dl [] (AccN L) σw vw))
    (hd : ∀ Dl, Wk (Q (.ref Dl)) ([(Dl, .lst [])] :: L)) : ∀ Dl, Dl ∉ keys L → LcR (wkL K p (as.map V.ref)) gg tt te vw σ Dl L Q := fun Dl _ => by
  refine c_refs (fun i acc L' => AccN L acc L') hw (Wk.go ⟨rfl, rfl⟩) (fun i acc L' h => ?_) ?_ ?_
  · rw [h.2]; exact IsL.tl hx
  · rintro i acc L' hi ⟨rfl, rfl⟩
    exact hs i Dl hi
  · rintro acc L' ⟨rfl, rfl⟩
    exact hd Dl
/-- a filter of ints by a test -/
def AccB (acc : List V) (b : Bool) (v : V) (L : Lg) : List V → Lg → Prop := fun acc' L' => acc' = (if b = true then acc ++ [v] else acc) ∧ L' = L
theorem a_filt (f : Int → Bool) (hx : IsL K L p xs) (hv : IntsV xs ns) (hw : wipe σ vw = σw) (hz : ns.length ≤ 1000000)
    (hs : ∀ (x : Int) (acc : List V) (Dl : Addr), x ∈ ns → acc.length < 1000000 → gg (.int x) σw ([(Dl, .lst acc)] :: L) (LcT tt te Dl acc (AccB acc (f x) (.int x) L) σw vw))
    (hd : ∀ Dl, Wk (Q (.ref Dl)) ([(Dl, .lst ((ns.filter f).map V.int))] :: L)) : ∀ Dl, Dl ∉ keys L → LcR (wkL K p xs) gg tt te vw σ Dl L Q := fun Dl _ => by
  have hv := hv.eq
  subst hv
  refine c_list (fun i acc L' => acc = ((ns.take i).filter f).map V.int ∧ i ≤ ns.length ∧ L' = L) hw (Wk.go ⟨by simp, Nat.zero_le _, rfl⟩) (fun i acc L' h => ?_) ?_ ?_
  · rw [h.2.2]; exact IsL.tl hx
  · rintro i acc x L' hi ⟨rfl, hl, rfl⟩
    rw [List.getElem?_map] at hi
    obtain ⟨y, hy, rfl⟩ := Option.map_eq_some_iff.mp hi
    have hlt : i < ns.length := (List.getElem?_eq_some_iff.mp hy).1
    have hle : ((ns.take i).filter f).length ≤ i := Nat.le_trans (List.length_filter_le _ _) (by simp; omega)
    have := hs y (((ns.take i).filter f).map V.int) Dl (List.mem_of_getElem? hy) (by rw [List.length_map]; omega)
    have e : AccB (((ns.take i).filter f).map V.int) (f y) (.int y) L' = fun acc' L'' => acc' = ((ns.take (i + 1)).filter f).map V.int ∧ i + 1 ≤ ns.length ∧ L'' = L' := by
      funext a b
      unfold AccB
      rw [List.take_succ, hy]
      have : i + 1 ≤ ns.length := hlt
      cases hf : f y <;> simp [this, hf]
    rw [e] at this
    exact this
  · rintro acc L' ⟨rfl, _, rfl⟩
    rw [List.length_map, List.take_length]
    exact hd Dl
theorem s_flt {acc : List V} {Dl : Addr} {b c : Bool} {v : V} {L3 : Lg} (e : b = c) (h : te σ L3 (LcY Dl acc (AccI acc v L))) (l : Lic L3 ([(Dl, .lst acc)] :: L)) : if b = true then te σ L3 (LcY Dl acc (AccB acc c v L)) else LcN Dl acc (AccB acc c v L) L3 := by
  subst e
  cases b
  · rw [if_neg (by simp)]
    exact s_lcn l ⟨rfl, rfl⟩
  · rw [if_pos rfl]
    exact h
/-- the test known: the turn's end -/
theorem s_lcyB {acc : List V} {Dl : Addr} {c : Bool} {x v : V} {L4 : Lg} (hc : c = true) (hz : acc.length < 1000000) (l : Lic L4 ([(Dl, .lst acc)] :: L)) (e : x = v) : LcY Dl acc (AccB acc c v L) x L4 := s_lcy hz l ⟨by rw [if_pos hc, e], rfl⟩
theorem s_lcnB {acc : List V} {Dl : Addr} {c : Bool} {v : V} {L4 : Lg} (hc : c = false) (l : Lic L4 ([(Dl, .lst acc)] :: L)) : LcN Dl acc (AccB acc c v L) L4 := s_lcn l ⟨by rw [hc]; rfl, rfl⟩
end
/-- rows put, one by one -/
def putsM (rows : List (List Int)) (ws : List (Int × List Int)) : List (List Int) := ws.foldl (fun rs w => rs.set w.1.toNat w.2) rows
theorem putsM_len : ∀ (ws : List (Int × List Int)) (rows : List (List Int)), (putsM rows ws).length = rows.length
  | [], _ => rfl
  | w :: ws, rows => by
    show (putsM (rows.set w.1.toNat w.2) ws).length = _
    rw [putsM_len ws, List.length_set]
theorem putsM_take {ws : List (Int × List Int)} {rows : List (List Int)} {i : Nat} {w : Int × List Int} (h : ws[i]? = some w) : putsM rows (ws.take (i + 1)) = (putsM rows (ws.take i)).set w.1.toNat w.2 := by
  rw [List.take_succ, h]
  simp [putsM, List.foldl_append]
theorem putsM_all {m : Nat} : ∀ (ws : List (Int × List Int)) (rows : List (List Int)), (∀ r ∈ rows, r.length = m) → (∀ w ∈ ws, w.2.length = m) → ∀ r ∈ putsM rows ws, r.length = m
  | [], _, h, _ => h
  | w :: ws, rows, h, hw => putsM_all ws _ (fun r hr => by
      rcases List.mem_or_eq_of_mem_set hr with h' | h'
      · exact h r h'
      · rw [h']; exact hw w List.mem_cons_self) fun w' hw' => hw w' (List.mem_cons_of_mem _ hw')
end VM

end

section
namespace VM
open PySem PySem.Spec L2
open PyProof.Rows hiding St

/-! ### defaults -/
def OkMD (P : Program) (w : World) (K : PySem.W.Frag) (mg : Str → Option Value) (base : Heap) (k : Nat) (f : Addr) (ps : List Str) (dvs : List V) (sp : LSp) : Prop := ∃ fd, FnOk P w K mg base CX0 k f fd ps (UpP sp) ∧ (∀ j, j ≤ dvs.length → ∃ ds, Vals (dvs.drop j) ds ∧ Binds K fd ps ds) ∧ PySem.W.keepIn K (.ref f) = true
def OkFD (P : Program) (w : World) (K : PySem.W.Frag) (mg : Str → Option Value) (base : Heap) (k : Nat) (x : Str) (ps : List Str) (dvs : List V) (sp : LSp) : Prop := mg x = some (.ref (He.ga K x)) ∧ OkMD P w K mg base k (He.ga K x) ps dvs sp
def CatK (dl : List V) (P : List V → Lg → Prop) : List V → Lg → Prop := fun vs L => P (vs ++ dl) L
def lCallD (dl : List V) (sp : LSp) (t : LTA) : LTE := fun σ L Q => t σ L (CatK dl fun vs => Wk fun L1 => sp vs L1 Q noX)
def lMakeD (C : Addr) (dl : List V) (sp : LSp) (t : LTA) : LTE := fun σ L Q => t σ L (CatK dl (MakeP C sp Q))
section
variable {X : Cx} {k : Nat} {f C : Addr} {ps : List Str} {dvs dl : List V} {sp : LSp} {x m : Str} {p pos apos : Pos} {e o : Expr} {es : List Expr} {ta te : LTE} {t : LTA}
theorem lcallOD (G : OkFD X.prog X.w X.K X.mg X.base k x ps dvs sp) (j : Nat) (hj : j ≤ dvs.length) (hd : dvs.drop j = dl) (hr : Room k X.A) (hg : Gl X x) (ha : LA X (e :: es) t) (hdb : (x == ("__debug__" : Str)) = false := by decide)
    (he : starEach (e :: es) X.env = (false, eval e X.env) :: starEach es X.env := by rfl) (hpl : (backTo pos (starEach es X.env)).any (·.1) = false := by rfl) : LE X (.Call (.Name x p) (e :: es) [] pos) (lCallD dl sp t) := by
  obtain ⟨hm, fd, F, hb, kp⟩ := G
  obtain ⟨ds, rd, b⟩ := hb j hj
  rw [hd] at rd
  exact lcall (E := noX) (dvs := dl) (FnOk.wk F) hr hg hm kp b rd passN ha hdb he hpl
theorem lmakeOD (M : Mk X.K C f) (hm : X.mg x = some (.ref C)) (G : OkMD X.prog X.w X.K X.mg X.base k f ps dvs sp) (j : Nat) (hj : j ≤ dvs.length) (hd : dvs.drop j = dl) (hr : Room (k + 1) X.A) (hg : Gl X x)
    (ha : LA X (e :: es) t) (hdb : (x == ("__debug__" : Str)) = false := by decide) (he : starEach (e :: es) X.env = (false, eval e X.env) :: starEach es X.env := by rfl) (hpl : (backTo pos (starEach es X.env)).any (·.1) = false := by rfl) :
    LE X (.Call (.Name x p) (e :: es) [] pos) (lMakeD C dl sp t) := by
  obtain ⟨fd, F, hb, kp⟩ := G
  obtain ⟨ds, rd, b⟩ := hb j hj
  rw [hd] at rd
  exact lmake (E := noX) (dvs := dl) M F hr hg hm b rd passN ha hdb he hpl
end
/-! ### objects of several classes -/
def lAlt (t t' : LTE) : LTE := fun σ L Q => t σ L Q ∨ t' σ L Q
theorem LE.alt {X : Cx} {e : Expr} {t t' : LTE} (p : LE X e t) (q : LE X e t') : LE X e (lAlt t t') := by
  refine ⟨fun pins s σ H Q I h => ?_⟩
  obtain ⟨L, QL, hL, h, k⟩ := h
  rcases h with h | h
  · exact p.run pins s σ H Q I ⟨L, QL, hL, h, k⟩
  · exact q.run pins s σ H Q I ⟨L, QL, hL, h, k⟩
theorem s_altL {σ : St} {L : Lg} {Q : LVK} {t t' : LTE} (k : t σ L Q) : lAlt t t' σ L Q := .inl k
theorem s_altR {σ : St} {L : Lg} {Q : LVK} {t t' : LTE} (k : t' σ L Q) : lAlt t t' σ L Q := .inr k
def ObjB (K : PySem.W.Frag) (C : Addr) : Bool := decide (PySem.W.findIn K (.ref C) "__class__" = some (some (.builtin "object.__class__"))) && (decide (PySem.W.specialIn K (.builtin "object.__class__") "__get__" = some (some (.builtin "getset_descriptor.__get__"))) && (decide (PySem.W.takesIn K (.builtin "object.__class__") = some true) && decide (PySem.W.mroIn K C (.type "object") = some true)))
theorem ty_o {K : PySem.W.Frag} {L : Lg} {p C dx : Addr} {fs : List (Str × V)} (h : At L p (.ins C dx fs)) (c : Cls K C) (b : ObjB K C = true) : TyXL K L (.ref p) (.ref C) := fun H l => by
  unfold ObjB at b
  simp only [Bool.and_eq_true, decide_eq_true_eq] at b
  exact .base (.ins (h H l) c b.1 b.2.1 b.2.2.1 b.2.2.2)
theorem s_isi_own {K : PySem.W.Frag} {L : Lg} {Q : LVK} {p C D dx : Addr} {fs : List (Str × V)} {r : Bool} (h : At L p (.ins C dx fs)) (c : Cls K C) (b : ObjB K C = true) (hk : PySem.W.kitOne K (.ref C) (.ref D) = some r) (k : Q (.bl r) L) : lIsi K [.ref p, .ref D] L Q :=
  ⟨.ref p, .ref D, .ref C, .ref D, r, rfl, .own D, ty_o h c b, hk, k⟩
/-! ### plain steps, found by their head -/
class S1 (g : Prop) (n : outParam Prop) : Prop where
  go : n → g
class SN (g : Prop) (n : outParam Prop) : Prop where
  go : n → g
instance (priority := low) SN.base {g : Prop} : SN g g := ⟨id⟩
instance SN.more {g m n : Prop} [a : S1 g m] [b : SN m n] : SN g n := ⟨fun h => a.go (b.go h)⟩
class SX (g : Prop) (n : outParam Prop) : Prop where
  go : n → g
instance SX.mk1 {g m n : Prop} [a : S1 g m] [b : SN m n] : SX g n := ⟨fun h => a.go (b.go h)⟩
class SlotIs (σ : St) (i : Nat) (v : outParam V) : Prop where
  get : σ[i]? = some (some v)
instance SlotIs.zero {v : V} {σ : St} : SlotIs (some v :: σ) 0 v := ⟨rfl⟩
instance SlotIs.succ {x : Option V} {σ : St} {i : Nat} {v : V} [h : SlotIs σ i v] : SlotIs (x :: σ) (i + 1) v := ⟨h.get⟩
class SetIs (v : V) (σ : St) (i : Nat) (σ' : outParam St) : Prop where
  set : SetAt v σ i σ'
instance SetIs.zero {x : Option V} {v : V} {σ : St} : SetIs v (x :: σ) 0 (some v :: σ) := ⟨.hd⟩
instance SetIs.succ {x : Option V} {σ σ' : St} {i : Nat} {v : V} [h : SetIs v σ i σ'] : SetIs v (x :: σ) (i + 1) (x :: σ') := ⟨.tl h.set⟩
section
variable {σ σ' : St} {L L' : Lg} {Q : LVK} {i : Nat} {v : V} {ta tb te : LTE} {tr : LTA} {t u : LTT} {K : PySem.W.Frag}
instance j_var [h : SlotIs σ i v] : S1 (lVar i σ L Q) (Q v L) := ⟨s_var h.get⟩
instance j_c : S1 (lC v σ L Q) (Q v L) := ⟨s_c⟩
instance j_op {r : LR2} : S1 (lOp r ta tb σ L Q) (ta σ L fun x L1 => tb σ L1 fun y L2 => r x y L2 Q) := ⟨s_op⟩
instance j_un {r : LR1} : S1 (lUn r ta σ L Q) (ta σ L fun x L1 => r x L1 Q) := ⟨s_un⟩
instance j_test {Q : Bool → Lg → Prop} : S1 (lTest te σ L Q) (te σ L (BlK Q)) := ⟨s_test⟩
instance j_blk {Q : Bool → Lg → Prop} {b : Bool} : S1 (BlK Q (.bl b) L) (Q b L) := ⟨s_blk⟩
instance j_intk {Q : Int → Lg → Prop} {b : Int} : S1 (IntK Q (.int b) L) (Q b L) := ⟨s_intk⟩
instance j_not {Q : Bool → Lg → Prop} : S1 (lNot t σ L Q) (t σ L fun c L1 => Q (!c) L1) := ⟨s_not⟩
instance j_and {Q : Bool → Lg → Prop} : S1 (lAnd t u σ L Q) (t σ L fun c L1 => if c = true then u σ L1 Q else Q false L1) := ⟨s_and⟩
instance j_or {Q : Bool → Lg → Prop} : S1 (lOr t u σ L Q) (t σ L fun c L1 => if c = true then Q true L1 else u σ L1 Q) := ⟨s_or⟩
instance j_andV : S1 (lAndV ta tb σ L Q) (ta σ L (BlK fun c L1 => if c = true then tb σ L1 Q else Q (.bl false) L1)) := ⟨s_andV⟩
instance j_orV : S1 (lOrV ta tb σ L Q) (ta σ L (BlK fun c L1 => if c = true then Q (.bl true) L1 else tb σ L1 Q)) := ⟨s_orV⟩
instance j_notV : S1 (lNotV ta σ L Q) (ta σ L (BlK fun c L1 => Q (.bl (!c)) L1)) := ⟨s_notV⟩
instance j_nil {Q : List V → Lg → Prop} : S1 (lNil σ L Q) (Q [] L) := ⟨s_nil⟩
instance j_cons {Q : List V → Lg → Prop} : S1 (lCons te tr σ L Q) (te σ L fun x L1 => tr σ L1 fun xs L2 => Q (x :: xs) L2) := ⟨s_cons⟩
instance j_tup : S1 (lTup tr σ L Q) (tr σ L (NewK .tup Q)) := ⟨s_tup⟩
instance j_lst : S1 (lLst tr σ L Q) (tr σ L (NewK .lst Q)) := ⟨s_lst⟩
instance j_sl {r : V → Option Int → Option Int → Lg → LVK → Prop} {tl th : LTO} : S1 (lSl r te tl th σ L Q) (te σ L fun x L1 => tl σ L1 fun l L2 => th σ L2 fun u L3 => r x l u L3 Q) := ⟨s_sl⟩
instance j_nopart {Q : Option Int → Lg → Prop} : S1 (lNoPart σ L Q) (Q none L) := ⟨s_nopart⟩
instance j_part {Q : Option Int → Lg → Prop} : S1 (lPart te σ L Q) (te σ L (IntK fun i L1 => Q (some i) L1)) := ⟨s_part⟩
instance j_cb {r : LRC} : S1 (lCB r tr σ L Q) (tr σ L fun vs L1 => r vs L1 Q) := ⟨s_cb⟩
instance j_bm0 {T : String} {r : V → LRC} : S1 (lBM0 K T r te σ L Q) (te σ L fun x L1 => TyL K T x L1 ∧ r x [] L1 Q) := ⟨s_bm0⟩
instance j_bm {T : String} {r : V → LRC} : S1 (lBM K T r te tr σ L Q) (te σ L fun x L1 => TyL K T x L1 ∧ tr σ L1 fun xs L2 => r x xs L2 Q) := ⟨s_bm⟩
instance j_fld {f : Str} : S1 (lFld K te f σ L Q) (te σ L fun x L1 => FldL K f x L1 Q) := ⟨s_fld⟩
instance j_tru {r : V → Lg → (Bool → Lg → Prop) → Prop} {Q : Bool → Lg → Prop} : S1 (lTru r te σ L Q) (te σ L fun x L1 => r x L1 Q) := ⟨s_tru⟩
instance j_yes {Q : Bool → Lg → Prop} : S1 (lYes σ L Q) (Q true L) := ⟨s_yes⟩
instance j_callP {sp : LSp} : S1 (lCallP sp tr σ L Q) (tr σ L fun vs => Wk fun L1 => sp vs L1 Q noX) := ⟨s_callP⟩
instance j_callD {sp : LSp} {dl : List V} : S1 (lCallD dl sp tr σ L Q) (tr σ L (CatK dl fun vs => Wk fun L1 => sp vs L1 Q noX)) := ⟨id⟩
instance j_makeD {C : Addr} {sp : LSp} {dl : List V} : S1 (lMakeD C dl sp tr σ L Q) (tr σ L (CatK dl (MakeP C sp Q))) := ⟨id⟩
instance j_cat0 {P : List V → Lg → Prop} {vs : List V} : S1 (CatK [] P vs L) (P vs L) := ⟨fun h => by unfold CatK; rw [List.append_nil]; exact h⟩
instance j_cat11 {P : List V → Lg → Prop} {a d : V} : S1 (CatK [d] P [a] L) (P [a, d] L) := ⟨id⟩
instance j_cat21 {P : List V → Lg → Prop} {a b d : V} : S1 (CatK [d] P [a, b] L) (P [a, b, d] L) := ⟨id⟩
instance j_cat31 {P : List V → Lg → Prop} {a b c d : V} : S1 (CatK [d] P [a, b, c] L) (P [a, b, c, d] L) := ⟨id⟩
instance j_cat41 {P : List V → Lg → Prop} {a b c e d : V} : S1 (CatK [d] P [a, b, c, e] L) (P [a, b, c, e, d] L) := ⟨id⟩
instance j_cat32 {P : List V → Lg → Prop} {a b c e d : V} : S1 (CatK [d, e] P [a, b, c] L) (P [a, b, c, d, e] L) := ⟨id⟩
instance j_methP {C : Addr} {m : Str} {sp : LSp} : S1 (lMethP C m sp ta tr σ L Q) (ta σ L fun x L1 => ObjL C m x L1 ∧ tr σ L1 fun vs => Wk fun L2 => sp (x :: vs) L2 Q noX) := ⟨s_methP⟩
instance j_makeP {C : Addr} {sp : LSp} : S1 (lMakeP C sp tr σ L Q) (tr σ L (MakeP C sp Q)) := ⟨s_makeP⟩
variable {D : LEnds} {s1 s2 : LTS} {g : LTG} {gs : LTGs}
variable {n0 : St → Lg → Prop} {r0 : LVK} {b0 c0 : St → Lg → Prop}
instance j_seq : S1 (lSeq s1 s2 ⟨n0, r0, b0, c0⟩ σ L) (s1 ⟨fun σ' => Wk (s2 ⟨n0, r0, b0, c0⟩ σ'), fun v => Wk (r0 v), fun σ => Wk (b0 σ), fun σ => Wk (c0 σ)⟩ σ L) := ⟨s_seq⟩
instance j_last : S1 (lLast s1 ⟨n0, r0, b0, c0⟩ σ L) (s1 ⟨fun σ => Wk (n0 σ), fun v => Wk (r0 v), fun σ => Wk (b0 σ), fun σ => Wk (c0 σ)⟩ σ L) := ⟨s_last⟩
instance j_next : S1 (lNext ⟨n0, r0, b0, c0⟩ σ L) (n0 σ L) := ⟨s_next⟩
instance j_drop : S1 (lDrop te ⟨n0, r0, b0, c0⟩ σ L) (te σ L fun _ L1 => n0 σ L1) := ⟨s_drop⟩
instance j_ret : S1 (lRet te ⟨n0, r0, b0, c0⟩ σ L) (te σ L r0) := ⟨s_ret⟩
instance j_retN : S1 (lRetN ⟨n0, r0, b0, c0⟩ σ L) (r0 .non L) := ⟨s_retN⟩
instance j_break : S1 (lBreak ⟨n0, r0, b0, c0⟩ σ L) (b0 σ L) := ⟨s_break⟩
instance j_cont : S1 (lCont ⟨n0, r0, b0, c0⟩ σ L) (c0 σ L) := ⟨s_cont⟩
instance j_if : S1 (lIf t s1 s2 D σ L) (t σ L fun b L1 => if b = true then s1 D σ L1 else s2 D σ L1) := ⟨s_if⟩
instance j_asg : S1 (lAsg te g ⟨n0, r0, b0, c0⟩ σ L) (te σ L fun x L1 => g x σ L1 n0) := ⟨s_asg⟩
instance j_name {Q : St → Lg → Prop} [h : SetIs v σ i σ'] : S1 (hName i v σ L Q) (Q σ' L) := ⟨s_name h.set⟩
instance j_hnil {Q : St → Lg → Prop} : S1 (hNil [] σ L Q) (Q σ L) := ⟨s_hnil⟩
instance j_hcons {vs : List V} {Q : St → Lg → Prop} : S1 (hCons g gs (v :: vs) σ L Q) (g v σ L fun σ' L' => gs vs σ' L' Q) := ⟨s_hcons⟩
instance j_hsub {r : LTSet} {Q : St → Lg → Prop} : S1 (hSub ta tb r v σ L Q) (ta σ L fun o L1 => tb σ L1 fun i L2 => r o i v L2 fun L3 => Q σ L3) := ⟨s_hsub⟩
instance j_setf {f : Str} {tv : LTE} : S1 (lSetF K ta tv f ⟨n0, r0, b0, c0⟩ σ L) (tv σ L fun y L1 => ta σ L1 fun x L2 => SetFL K f x y L2 (n0 σ)) := ⟨s_setf⟩
instance j_for {wi : LTI} : S1 (lFor wi g s1 D σ L) (wi σ L fun W L1 => ForR W g s1 D σ L1) := ⟨s_for⟩
instance j_iteT {A B : Prop} : S1 (if true = true then A else B) A := ⟨iteT⟩
instance j_iteF {A B : Prop} : S1 (if false = true then A else B) B := ⟨iteF⟩
variable {R : LWk → Lg → Prop}
instance j_rng1 : S1 (kRng1 tr σ L R) (tr σ L (RngK1 R)) := ⟨s_rng1⟩
instance j_rng2 : S1 (kRng2 tr σ L R) (tr σ L (RngK2 R)) := ⟨s_rng2⟩
instance j_kseq {tl : LTE} : S1 (kSeq K tl σ L R) (tl σ L (SeqK K R)) := ⟨s_kseq⟩
instance j_ktup {tl : LTE} : S1 (kTup K tl σ L R) (tl σ L (TupK K R)) := ⟨s_ktup⟩
/-! operations on ints -/
variable {a b : Int}
instance j_add : S1 (gAdd K (.int a) (.int b) L Q) (Q (.int (a + b)) L) := ⟨s_add_i⟩
instance j_ii {g : Int → Int → V} : S1 (iI0 g (.int a) (.int b) L Q) (Q (g a b) L) := ⟨fun h => ⟨a, b, rfl, rfl, h⟩⟩
instance j_eq : S1 (gEq K (.int a) (.int b) L Q) (Q (.bl (decide (a = b))) L) := ⟨s_eq_i⟩
instance j_ne : S1 (gNe K (.int a) (.int b) L Q) (Q (.bl (!decide (a = b))) L) := ⟨s_ne_i⟩
instance j_neg : S1 (gNeg (.int a) L Q) (Q (.int (-a)) L) := ⟨s_neg⟩
instance j_eqs {x y : Str} : S1 (gEq K (.str x) (.str y) L Q) (Q (.bl (decide (x = y))) L) := ⟨s_eq_s⟩
instance j_nes {x y : Str} : S1 (gNe K (.str x) (.str y) L Q) (Q (.bl (!decide (x = y))) L) := ⟨s_ne_s⟩
instance j_eqb {x y : Bool} : S1 (gEq K (.bl x) (.bl y) L Q) (Q (.bl (decide (x = y))) L) := ⟨s_eq_b⟩
instance j_neb {x y : Bool} : S1 (gNe K (.bl x) (.bl y) L Q) (Q (.bl (!decide (x = y))) L) := ⟨s_ne_b⟩
instance j_trub {Q : Bool → Lg → Prop} {b : Bool} : S1 (gTru K (.bl b) L Q) (Q b L) := ⟨s_tru_b⟩
instance j_abs : S1 (gAbs [.int a] L Q) (Q (.int (if a < 0 then -a else a)) L) := ⟨s_abs⟩
instance j_max : S1 (gMax2 [.int a, .int b] L Q) (Q (.int (if b > a then b else a)) L) := ⟨s_max2⟩
instance j_min : S1 (gMin2 [.int a, .int b] L Q) (Q (.int (if b < a then b else a)) L) := ⟨s_min2⟩
end
end VM

end

section
namespace VM
open PySem PySem.Spec L2
open PyProof.Rows hiding St

/-! ### loops where some slots change -/
def SlW (σ0 : St) (ks : List Nat) (P : Nat → Lg → Prop) : Nat → St → Lg → Prop := fun i σ L => wipe σ ks = wipe σ0 ks ∧ P i L
theorem unset {α : Type} {σ τ : List (Option α)} {k : Nat} (h : σ.set k none = τ) : ∃ a, σ = τ.set k a := by
  subst h
  by_cases hk : k < σ.length
  · refine ⟨σ[k], ?_⟩
    rw [List.set_set]
    apply List.ext_getElem?
    intro m
    rw [List.getElem?_set]
    by_cases e : k = m
    · subst e
      rw [if_pos rfl, if_pos hk, List.getElem?_eq_getElem hk]
    · rw [if_neg e]
  · refine ⟨none, ?_⟩
    have e : ∀ x, σ.set k x = σ := fun x => List.set_eq_of_length_le (by omega)
    rw [e, e]
theorem wipe_sets {σ0 : St} : ∀ {ks : List Nat} {k : Nat} {a : Option V} {σ : St}, k ∈ ks → wipe (σ.set k a) ks = wipe σ ks
  | j :: ks, k, a, σ, h => by
    show (wipe (σ.set k a) ks).set j none = (wipe σ ks).set j none
    by_cases e : j = k
    · subst e
      by_cases hk : j ∈ ks
      · rw [wipe_sets (σ0 := σ0) hk]
      · have : ∀ (ks : List Nat) (σ : St), j ∉ ks → wipe (σ.set j a) ks = (wipe σ ks).set j a := by
          intro ks
          induction ks with
          | nil => intro σ _; rfl
          | cons m ks ih =>
            intro σ hm
            simp only [List.mem_cons, not_or] at hm
            show (wipe (σ.set j a) ks).set m none = ((wipe σ ks).set m none).set j a
            rw [ih σ hm.2, List.set_comm _ _ hm.1]
        rw [this ks σ hk, List.set_set]
    · rcases List.mem_cons.mp h with h | h
      · exact absurd h.symm e
      · rw [wipe_sets (σ0 := σ0) h]
section
variable {K : PySem.W.Frag} {σ : St} {L : Lg} {gg : LTG} {tb : LTS} {n0 : St → Lg → Prop} {r0 : LVK} {b0 c0 : St → Lg → Prop} {lo : Int} {n : Nat} {p : Addr} {xs : List V} {ns : List Int} {as : List Addr} {ws : List (Int × List Int)} {ts : List (List Int)} {c : Chunk}
theorem TelAll.tup {i : Nat} {x : V} (h : TelAll c xs (ts.map dT)) (hx : xs[i]? = some x) : ∃ r t, ts[i]? = some r ∧ x = .ref t ∧ (t, HO.tup (r.map V.int)) ∈ c := by
  obtain ⟨e, he, t⟩ := h.get hx
  rw [List.getElem?_map] at he
  obtain ⟨w, hw, rfl⟩ := Option.map_eq_some_iff.mp he
  obtain ⟨t, e, h1⟩ := t.dT_inv
  exact ⟨w, t, hw, e, h1⟩
theorem f_intsT (Pv : Nat → St → Lg → Prop) (hv : IntsV xs ns) (h0 : Wk (Pv 0 σ) L) (hG : ∀ i σ L, Pv i σ L → IsT K L p xs) (hs : ∀ (i : Nat) (x : Int) σ L, ns[i]? = some x → Pv i σ L → gg (.int x) σ L fun σ2 L2 => tb ⟨Pv (i + 1), r0, n0, Pv (i + 1)⟩ σ2 L2) (hd : ∀ σ L, Pv ns.length σ L → n0 σ L) : ForR (wkT K p xs) gg tb ⟨n0, r0, b0, c0⟩ σ L := by
  have e := hv.eq
  subst e
  refine f_tup Pv h0 hG (fun i x σ L hx hp => ?_) (fun σ L hp => hd σ L (by rw [List.length_map] at hp; exact hp))
  rw [List.getElem?_map] at hx
  obtain ⟨y, hy, rfl⟩ := Option.map_eq_some_iff.mp hx
  exact hs i y σ L hy hp
/-! loops over lists of tuples -/
theorem f_tups (Pv : Nat → St → Lg → Prop) (ht : TelAll c xs (ts.map dT)) (h0 : Wk (Pv 0 σ) L) (hG : ∀ i σ L, Pv i σ L → IsL K L p xs)
    (hs : ∀ (i : Nat) r t σ L, ts[i]? = some r → (t, HO.tup (r.map V.int)) ∈ c → Pv i σ L → gg (.ref t) σ L fun σ2 L2 => tb ⟨Pv (i + 1), r0, n0, Pv (i + 1)⟩ σ2 L2) (hd : ∀ σ L, Pv ts.length σ L → n0 σ L) : ForR (wkL K p xs) gg tb ⟨n0, r0, b0, c0⟩ σ L := by
  refine f_list Pv h0 hG (fun i x σ L hx hp => ?_) (fun σ L hp => hd σ L (by rw [ht.len, List.length_map] at hp; exact hp))
  obtain ⟨r, t, hw, rfl, h1⟩ := ht.tup hx
  exact hs i r t σ L hw h1 hp
theorem unw1 {σ σ1 : St} {k0 : Nat} (h : wipe σ1 [k0] = wipe σ [k0]) : ∃ a0, σ1 = ((wipe σ [k0]).set k0 a0) := by
  generalize wipe σ [k0] = τ at h ⊢
  obtain ⟨a0, h⟩ := unset h
  exact ⟨a0, h⟩
def SlV1 (σ : St) (k0 : Nat) (P : Nat → Option V → Lg → Prop) : Nat → St → Lg → Prop := fun i σ1 L => ∃ a0, σ1 = ((wipe σ [k0]).set k0 a0) ∧ P i a0 L
theorem frv_1 {k0 : Nat} (P : Nat → Option V → Lg → Prop) (h0 : Wk (SlV1 σ k0 P 0 σ) L) (hs : ∀ (i : Nat) a0 L, i < n → P i a0 L → gg (.int (i : Int)) ((wipe σ [k0]).set k0 a0) L (fun σ2 L2 => tb ⟨SlV1 σ k0 P (i + 1), r0, n0, SlV1 σ k0 P (i + 1)⟩ σ2 L2)) (hd : ∀ a0 L, P n a0 L → n0 ((wipe σ [k0]).set k0 a0) L) : ForR (wkR 0 n) gg tb ⟨n0, r0, b0, c0⟩ σ L := by
  refine f_range0 (SlV1 σ k0 P) h0 ?_ ?_
  · rintro i σ1 L hi ⟨a0, rfl, hP⟩
    exact hs i a0 L hi hP
  · rintro σ1 L ⟨a0, rfl, hP⟩
    exact hd a0 L hP
theorem frnv_1 {k0 : Nat} (P : Nat → Option V → Lg → Prop) (h0 : Wk (SlV1 σ k0 P 0 σ) L) (hs : ∀ (i : Nat) a0 L, i < n → P i a0 L → gg (.int (lo + i)) ((wipe σ [k0]).set k0 a0) L (fun σ2 L2 => tb ⟨SlV1 σ k0 P (i + 1), r0, n0, SlV1 σ k0 P (i + 1)⟩ σ2 L2)) (hd : ∀ a0 L, P n a0 L → n0 ((wipe σ [k0]).set k0 a0) L) : ForR (wkR lo n) gg tb ⟨n0, r0, b0, c0⟩ σ L := by
  refine f_range (SlV1 σ k0 P) h0 ?_ ?_
  · rintro i σ1 L hi ⟨a0, rfl, hP⟩
    exact hs i a0 L hi hP
  · rintro σ1 L ⟨a0, rfl, hP⟩
    exact hd a0 L hP
theorem fiv_1 {k0 : Nat} (P : Nat → Option V → Lg → Prop) (hv : IntsV xs ns) (h0 : Wk (SlV1 σ k0 P 0 σ) L) (hG : ∀ i a0 L, P i a0 L → IsL K L p xs) (hs : ∀ (i : Nat) (x : Int) a0 L, ns[i]? = some x → P i a0 L → gg (.int x) ((wipe σ [k0]).set k0 a0) L (fun σ2 L2 => tb ⟨SlV1 σ k0 P (i + 1), r0, n0, SlV1 σ k0 P (i + 1)⟩ σ2 L2)) (hd : ∀ a0 L, P ns.length a0 L → n0 ((wipe σ [k0]).set k0 a0) L) : ForR (wkL K p xs) gg tb ⟨n0, r0, b0, c0⟩ σ L := by
  refine f_ints (SlV1 σ k0 P) hv h0 (fun i σ1 L ⟨a0, _, h⟩ => hG i a0 L h) ?_ ?_
  · rintro i x σ1 L hi ⟨a0, rfl, hP⟩
    exact hs i x a0 L hi hP
  · rintro σ1 L ⟨a0, rfl, hP⟩
    exact hd a0 L hP
theorem fvv_1 {k0 : Nat} (P : Nat → Option V → Lg → Prop) (h0 : Wk (SlV1 σ k0 P 0 σ) L) (hG : ∀ i a0 L, P i a0 L → IsL K L p (as.map V.ref)) (hs : ∀ (i : Nat) a0 L, i < as.length → P i a0 L → gg (.ref (adrAt as (i : Int))) ((wipe σ [k0]).set k0 a0) L (fun σ2 L2 => tb ⟨SlV1 σ k0 P (i + 1), r0, n0, SlV1 σ k0 P (i + 1)⟩ σ2 L2)) (hd : ∀ a0 L, P as.length a0 L → n0 ((wipe σ [k0]).set k0 a0) L) : ForR (wkL K p (as.map V.ref)) gg tb ⟨n0, r0, b0, c0⟩ σ L := by
  refine f_refs (SlV1 σ k0 P) h0 (fun i σ1 L ⟨a0, _, h⟩ => hG i a0 L h) ?_ ?_
  · rintro i σ1 L hi ⟨a0, rfl, hP⟩
    exact hs i a0 L hi hP
  · rintro σ1 L ⟨a0, rfl, hP⟩
    exact hd a0 L hP
theorem fpv_1 {k0 : Nat} (P : Nat → Option V → Lg → Prop) (ht : TelAll c xs (ws.map VM.dP)) (h0 : Wk (SlV1 σ k0 P 0 σ) L) (hG : ∀ i a0 L, P i a0 L → IsL K L p xs) (hs : ∀ (i : Nat) b r t a a0 L, ws[i]? = some (b, r) → (t, HO.tup [.int b, .ref a]) ∈ c → (a, HO.lst (r.map V.int)) ∈ c → P i a0 L → gg (.ref t) ((wipe σ [k0]).set k0 a0) L (fun σ2 L2 => tb ⟨SlV1 σ k0 P (i + 1), r0, n0, SlV1 σ k0 P (i + 1)⟩ σ2 L2)) (hd : ∀ a0 L, P ws.length a0 L → n0 ((wipe σ [k0]).set k0 a0) L) : ForR (wkL K p xs) gg tb ⟨n0, r0, b0, c0⟩ σ L := by
  refine f_pairs (SlV1 σ k0 P) ht h0 (fun i σ1 L ⟨a0, _, h⟩ => hG i a0 L h) ?_ ?_
  · rintro i b r t a σ1 L hi m1 m2 ⟨a0, rfl, hP⟩
    exact hs i b r t a a0 L hi m1 m2 hP
  · rintro σ1 L ⟨a0, rfl, hP⟩
    exact hd a0 L hP
theorem fqv_1 {k0 : Nat} (P : Nat → Option V → Lg → Prop) (ht : TelAll c xs (ts.map dT)) (h0 : Wk (SlV1 σ k0 P 0 σ) L) (hG : ∀ i a0 L, P i a0 L → IsL K L p xs) (hs : ∀ (i : Nat) r t a0 L, ts[i]? = some r → (t, HO.tup (r.map V.int)) ∈ c → P i a0 L → gg (.ref t) ((wipe σ [k0]).set k0 a0) L (fun σ2 L2 => tb ⟨SlV1 σ k0 P (i + 1), r0, n0, SlV1 σ k0 P (i + 1)⟩ σ2 L2)) (hd : ∀ a0 L, P ts.length a0 L → n0 ((wipe σ [k0]).set k0 a0) L) : ForR (wkL K p xs) gg tb ⟨n0, r0, b0, c0⟩ σ L := by
  refine f_tups (SlV1 σ k0 P) ht h0 (fun i σ1 L ⟨a0, _, h⟩ => hG i a0 L h) ?_ ?_
  · rintro i r t σ1 L hi m1 ⟨a0, rfl, hP⟩
    exact hs i r t a0 L hi m1 hP
  · rintro σ1 L ⟨a0, rfl, hP⟩
    exact hd a0 L hP
theorem fr_1 {k0 : Nat} (P : Nat → Lg → Prop) (h0 : Wk (P 0) L) (hs : ∀ (i : Nat) a0 L, i < n → P i L → gg (.int (i : Int)) ((wipe σ [k0]).set k0 a0) L (fun σ2 L2 => tb ⟨SlW σ [k0] P (i + 1), r0, n0, SlW σ [k0] P (i + 1)⟩ σ2 L2)) (hd : ∀ a0 L, P n L → n0 ((wipe σ [k0]).set k0 a0) L) : ForR (wkR 0 n) gg tb ⟨n0, r0, b0, c0⟩ σ L := by
  obtain ⟨L0, l0, q0⟩ := h0
  refine f_range0 (SlW σ [k0] P) ⟨L0, l0, rfl, q0⟩ ?_ ?_
  · rintro i σ1 L hi ⟨hσ, hP⟩
    obtain ⟨a0, rfl⟩ := unw1 hσ
    exact hs i a0 L hi hP
  · rintro σ1 L ⟨hσ, hP⟩
    obtain ⟨a0, rfl⟩ := unw1 hσ
    exact hd a0 L hP
theorem frn_1 {k0 : Nat} (P : Nat → Lg → Prop) (h0 : Wk (P 0) L) (hs : ∀ (i : Nat) a0 L, i < n → P i L → gg (.int (lo + i)) ((wipe σ [k0]).set k0 a0) L (fun σ2 L2 => tb ⟨SlW σ [k0] P (i + 1), r0, n0, SlW σ [k0] P (i + 1)⟩ σ2 L2)) (hd : ∀ a0 L, P n L → n0 ((wipe σ [k0]).set k0 a0) L) : ForR (wkR lo n) gg tb ⟨n0, r0, b0, c0⟩ σ L := by
  obtain ⟨L0, l0, q0⟩ := h0
  refine f_range (SlW σ [k0] P) ⟨L0, l0, rfl, q0⟩ ?_ ?_
  · rintro i σ1 L hi ⟨hσ, hP⟩
    obtain ⟨a0, rfl⟩ := unw1 hσ
    exact hs i a0 L hi hP
  · rintro σ1 L ⟨hσ, hP⟩
    obtain ⟨a0, rfl⟩ := unw1 hσ
    exact hd a0 L hP
theorem fi_1 {k0 : Nat} (P : Nat → Lg → Prop) (hv : IntsV xs ns) (h0 : Wk (P 0) L) (hG : ∀ i L, P i L → IsL K L p xs) (hs : ∀ (i : Nat) (x : Int) a0 L, ns[i]? = some x → P i L → gg (.int x) ((wipe σ [k0]).set k0 a0) L (fun σ2 L2 => tb ⟨SlW σ [k0] P (i + 1), r0, n0, SlW σ [k0] P (i + 1)⟩ σ2 L2)) (hd : ∀ a0 L, P ns.length L → n0 ((wipe σ [k0]).set k0 a0) L) : ForR (wkL K p xs) gg tb ⟨n0, r0, b0, c0⟩ σ L := by
  obtain ⟨L0, l0, q0⟩ := h0
  refine f_ints (SlW σ [k0] P) hv ⟨L0, l0, rfl, q0⟩ (fun i σ1 L h => hG i L h.2) ?_ ?_
  · rintro i x σ1 L hi ⟨hσ, hP⟩
    obtain ⟨a0, rfl⟩ := unw1 hσ
    exact hs i x a0 L hi hP
  · rintro σ1 L ⟨hσ, hP⟩
    obtain ⟨a0, rfl⟩ := unw1 hσ
    exact hd a0 L hP
theorem fv_1 {k0 : Nat} (P : Nat → Lg → Prop) (h0 : Wk (P 0) L) (hG : ∀ i L, P i L → IsL K L p (as.map V.ref)) (hs : ∀ (i : Nat) a0 L, i < as.length → P i L → gg (.ref (adrAt as (i : Int))) ((wipe σ [k0]).set k0 a0) L (fun σ2 L2 => tb ⟨SlW σ [k0] P (i + 1), r0, n0, SlW σ [k0] P (i + 1)⟩ σ2 L2)) (hd : ∀ a0 L, P as.length L → n0 ((wipe σ [k0]).set k0 a0) L) : ForR (wkL K p (as.map V.ref)) gg tb ⟨n0, r0, b0, c0⟩ σ L := by
  obtain ⟨L0, l0, q0⟩ := h0
  refine f_refs (SlW σ [k0] P) ⟨L0, l0, rfl, q0⟩ (fun i σ1 L h => hG i L h.2) ?_ ?_
  · rintro i σ1 L hi ⟨hσ, hP⟩
    obtain ⟨a0, rfl⟩ := unw1 hσ
    exact hs i a0 L hi hP
  · rintro σ1 L ⟨hσ, hP⟩
    obtain ⟨a0, rfl⟩ := unw1 hσ
    exact hd a0 L hP
theorem fl_1 {k0 : Nat} (P : Nat → Lg → Prop) (h0 : Wk (P 0) L) (hG : ∀ i L, P i L → IsL K L p xs) (hs : ∀ (i : Nat) (x : V) a0 L, xs[i]? = some x → P i L → gg x ((wipe σ [k0]).set k0 a0) L (fun σ2 L2 => tb ⟨SlW σ [k0] P (i + 1), r0, n0, SlW σ [k0] P (i + 1)⟩ σ2 L2)) (hd : ∀ a0 L, P xs.length L → n0 ((wipe σ [k0]).set k0 a0) L) : ForR (wkL K p xs) gg tb ⟨n0, r0, b0, c0⟩ σ L := by
  obtain ⟨L0, l0, q0⟩ := h0
  refine f_list (SlW σ [k0] P) ⟨L0, l0, rfl, q0⟩ (fun i σ1 L h => hG i L h.2) ?_ ?_
  · rintro i x σ1 L hi ⟨hσ, hP⟩
    obtain ⟨a0, rfl⟩ := unw1 hσ
    exact hs i x a0 L hi hP
  · rintro σ1 L ⟨hσ, hP⟩
    obtain ⟨a0, rfl⟩ := unw1 hσ
    exact hd a0 L hP
theorem ft_1 {k0 : Nat} (P : Nat → Lg → Prop) (h0 : Wk (P 0) L) (hG : ∀ i L, P i L → IsT K L p xs) (hs : ∀ (i : Nat) (x : V) a0 L, xs[i]? = some x → P i L → gg x ((wipe σ [k0]).set k0 a0) L (fun σ2 L2 => tb ⟨SlW σ [k0] P (i + 1), r0, n0, SlW σ [k0] P (i + 1)⟩ σ2 L2)) (hd : ∀ a0 L, P xs.length L → n0 ((wipe σ [k0]).set k0 a0) L) : ForR (wkT K p xs) gg tb ⟨n0, r0, b0, c0⟩ σ L := by
  obtain ⟨L0, l0, q0⟩ := h0
  refine f_tup (SlW σ [k0] P) ⟨L0, l0, rfl, q0⟩ (fun i σ1 L h => hG i L h.2) ?_ ?_
  · rintro i x σ1 L hi ⟨hσ, hP⟩
    obtain ⟨a0, rfl⟩ := unw1 hσ
    exact hs i x a0 L hi hP
  · rintro σ1 L ⟨hσ, hP⟩
    obtain ⟨a0, rfl⟩ := unw1 hσ
    exact hd a0 L hP
theorem fp_1 {k0 : Nat} (P : Nat → Lg → Prop) (ht : TelAll c xs (ws.map VM.dP)) (h0 : Wk (P 0) L) (hG : ∀ i L, P i L → IsL K L p xs) (hs : ∀ (i : Nat) b r t a a0 L, ws[i]? = some (b, r) → (t, HO.tup [.int b, .ref a]) ∈ c → (a, HO.lst (r.map V.int)) ∈ c → P i L → gg (.ref t) ((wipe σ [k0]).set k0 a0) L (fun σ2 L2 => tb ⟨SlW σ [k0] P (i + 1), r0, n0, SlW σ [k0] P (i + 1)⟩ σ2 L2)) (hd : ∀ a0 L, P ws.length L → n0 ((wipe σ [k0]).set k0 a0) L) : ForR (wkL K p xs) gg tb ⟨n0, r0, b0, c0⟩ σ L := by
  obtain ⟨L0, l0, q0⟩ := h0
  refine f_pairs (SlW σ [k0] P) ht ⟨L0, l0, rfl, q0⟩ (fun i σ1 L h => hG i L h.2) ?_ ?_
  · rintro i b r t a σ1 L hi m1 m2 ⟨hσ, hP⟩
    obtain ⟨a0, rfl⟩ := unw1 hσ
    exact hs i b r t a a0 L hi m1 m2 hP
  · rintro σ1 L ⟨hσ, hP⟩
    obtain ⟨a0, rfl⟩ := unw1 hσ
    exact hd a0 L hP
theorem fit_1 {k0 : Nat} (P : Nat → Lg → Prop) (hv : IntsV xs ns) (h0 : Wk (P 0) L) (hG : ∀ i L, P i L → IsT K L p xs) (hs : ∀ (i : Nat) (x : Int) a0 L, ns[i]? = some x → P i L → gg (.int x) ((wipe σ [k0]).set k0 a0) L (fun σ2 L2 => tb ⟨SlW σ [k0] P (i + 1), r0, n0, SlW σ [k0] P (i + 1)⟩ σ2 L2)) (hd : ∀ a0 L, P ns.length L → n0 ((wipe σ [k0]).set k0 a0) L) : ForR (wkT K p xs) gg tb ⟨n0, r0, b0, c0⟩ σ L := by
  obtain ⟨L0, l0, q0⟩ := h0
  refine f_intsT (SlW σ [k0] P) hv ⟨L0, l0, rfl, q0⟩ (fun i σ1 L h => hG i L h.2) ?_ ?_
  · rintro i x σ1 L hi ⟨hσ, hP⟩
    obtain ⟨a0, rfl⟩ := unw1 hσ
    exact hs i x a0 L hi hP
  · rintro σ1 L ⟨hσ, hP⟩
    obtain ⟨a0, rfl⟩ := unw1 hσ
    exact hd a0 L hP
theorem fq_1 {k0 : Nat} (P : Nat → Lg → Prop) (ht : TelAll c xs (ts.map dT)) (h0 : Wk (P 0) L) (hG : ∀ i L, P i L → IsL K L p xs) (hs : ∀ (i : Nat) r t a0 L, ts[i]? = some r → (t, HO.tup (r.map V.int)) ∈ c → P i L → gg (.ref t) ((wipe σ [k0]).set k0 a0) L (fun σ2 L2 => tb ⟨SlW σ [k0] P (i + 1), r0, n0, SlW σ [k0] P (i + 1)⟩ σ2 L2)) (hd : ∀ a0 L, P ts.length L → n0 ((wipe σ [k0]).set k0 a0) L) : ForR (wkL K p xs) gg tb ⟨n0, r0, b0, c0⟩ σ L := by
  obtain ⟨L0, l0, q0⟩ := h0
  refine f_tups (SlW σ [k0] P) ht ⟨L0, l0, rfl, q0⟩ (fun i σ1 L h => hG i L h.2) ?_ ?_
  · rintro i r t σ1 L hi m1 ⟨hσ, hP⟩
    obtain ⟨a0, rfl⟩ := unw1 hσ
    exact hs i r t a0 L hi m1 hP
  · rintro σ1 L ⟨hσ, hP⟩
    obtain ⟨a0, rfl⟩ := unw1 hσ
    exact hd a0 L hP
theorem unw2 {σ σ1 : St} {k0 k1 : Nat} (h : wipe σ1 [k0, k1] = wipe σ [k0, k1]) : ∃ a0 a1, σ1 = (((wipe σ [k0, k1]).set k0 a0).set k1 a1) := by
  generalize wipe σ [k0, k1] = τ at h ⊢
  obtain ⟨a0, h⟩ := unset h
  obtain ⟨a1, h⟩ := unset h
  exact ⟨a0, a1, h⟩
def SlV2 (σ : St) (k0 k1 : Nat) (P : Nat → Option V → Option V → Lg → Prop) : Nat → St → Lg → Prop := fun i σ1 L => ∃ a0 a1, σ1 = (((wipe σ [k0, k1]).set k0 a0).set k1 a1) ∧ P i a0 a1 L
theorem frv_2 {k0 k1 : Nat} (P : Nat → Option V → Option V → Lg → Prop) (h0 : Wk (SlV2 σ k0 k1 P 0 σ) L) (hs : ∀ (i : Nat) a0 a1 L, i < n → P i a0 a1 L → gg (.int (i : Int)) (((wipe σ [k0, k1]).set k0 a0).set k1 a1) L (fun σ2 L2 => tb ⟨SlV2 σ k0 k1 P (i + 1), r0, n0, SlV2 σ k0 k1 P (i + 1)⟩ σ2 L2)) (hd : ∀ a0 a1 L, P n a0 a1 L → n0 (((wipe σ [k0, k1]).set k0 a0).set k1 a1) L) : ForR (wkR 0 n) gg tb ⟨n0, r0, b0, c0⟩ σ L := by
  refine f_range0 (SlV2 σ k0 k1 P) h0 ?_ ?_
  · rintro i σ1 L hi ⟨a0, a1, rfl, hP⟩
    exact hs i a0 a1 L hi hP
  · rintro σ1 L ⟨a0, a1, rfl, hP⟩
    exact hd a0 a1 L hP
theorem frnv_2 {k0 k1 : Nat} (P : Nat → Option V → Option V → Lg → Prop) (h0 : Wk (SlV2 σ k0 k1 P 0 σ) L) (hs : ∀ (i : Nat) a0 a1 L, i < n → P i a0 a1 L → gg (.int (lo + i)) (((wipe σ [k0, k1]).set k0 a0).set k1 a1) L (fun σ2 L2 => tb ⟨SlV2 σ k0 k1 P (i + 1), r0, n0, SlV2 σ k0 k1 P (i + 1)⟩ σ2 L2)) (hd : ∀ a0 a1 L, P n a0 a1 L → n0 (((wipe σ [k0, k1]).set k0 a0).set k1 a1) L) : ForR (wkR lo n) gg tb ⟨n0, r0, b0, c0⟩ σ L := by
  refine f_range (SlV2 σ k0 k1 P) h0 ?_ ?_
  · rintro i σ1 L hi ⟨a0, a1, rfl, hP⟩
    exact hs i a0 a1 L hi hP
  · rintro σ1 L ⟨a0, a1, rfl, hP⟩
    exact hd a0 a1 L hP
theorem fiv_2 {k0 k1 : Nat} (P : Nat → Option V → Option V → Lg → Prop) (hv : IntsV xs ns) (h0 : Wk (SlV2 σ k0 k1 P 0 σ) L) (hG : ∀ i a0 a1 L, P i a0 a1 L → IsL K L p xs) (hs : ∀ (i : Nat) (x : Int) a0 a1 L, ns[i]? = some x → P i a0 a1 L → gg (.int x) (((wipe σ [k0, k1]).set k0 a0).set k1 a1) L (fun σ2 L2 => tb ⟨SlV2 σ k0 k1 P (i + 1), r0, n0, SlV2 σ k0 k1 P (i + 1)⟩ σ2 L2)) (hd : ∀ a0 a1 L, P ns.length a0 a1 L → n0 (((wipe σ [k0, k1]).set k0 a0).set k1 a1) L) : ForR (wkL K p xs) gg tb ⟨n0, r0, b0, c0⟩ σ L := by
  refine f_ints (SlV2 σ k0 k1 P) hv h0 (fun i σ1 L ⟨a0, a1, _, h⟩ => hG i a0 a1 L h) ?_ ?_
  · rintro i x σ1 L hi ⟨a0, a1, rfl, hP⟩
    exact hs i x a0 a1 L hi hP
  · rintro σ1 L ⟨a0, a1, rfl, hP⟩
    exact hd a0 a1 L hP
theorem fvv_2 {k0 k1 : Nat} (P : Nat → Option V → Option V → Lg → Prop) (h0 : Wk (SlV2 σ k0 k1 P 0 σ) L) (hG : ∀ i a0 a1 L, P i a0 a1 L → IsL K L p (as.map V.ref)) (hs : ∀ (i : Nat) a0 a1 L, i < as.length → P i a0 a1 L → gg (.ref (adrAt as (i : Int))) (((wipe σ [k0, k1]).set k0 a0).set k1 a1) L (fun σ2 L2 => tb ⟨SlV2 σ k0 k1 P (i + 1), r0, n0, SlV2 σ k0 k1 P (i + 1)⟩ σ2 L2)) (hd : ∀ a0 a1 L, P as.length a0 a1 L → n0 (((wipe σ [k0, k1]).set k0 a0).set k1 a1) L) : ForR (wkL K p (as.map V.ref)) gg tb ⟨n0, r0, b0, c0⟩ σ L := by
  refine f_refs (SlV2 σ k0 k1 P) h0 (fun i σ1 L ⟨a0, a1, _, h⟩ => hG i a0 a1 L h) ?_ ?_
  · rintro i σ1 L hi ⟨a0, a1, rfl, hP⟩
    exact hs i a0 a1 L hi hP
  · rintro σ1 L ⟨a0, a1, rfl, hP⟩
    exact hd a0 a1 L hP
theorem fpv_2 {k0 k1 : Nat} (P : Nat → Option V → Option V → Lg → Prop) (ht : TelAll c xs (ws.map VM.dP)) (h0 : Wk (SlV2 σ k0 k1 P 0 σ) L) (hG : ∀ i a0 a1 L, P i a0 a1 L → IsL K L p xs) (hs : ∀ (i : Nat) b r t a a0 a1 L, ws[i]? = some (b, r) → (t, HO.tup [.int b, .ref a]) ∈ c → (a, HO.lst (r.map V.int)) ∈ c → P i a0 a1 L → gg (.ref t) (((wipe σ [k0, k1]).set k0 a0).set k1 a1) L (fun σ2 L2 => tb ⟨SlV2 σ k0 k1 P (i + 1), r0, n0, SlV2 σ k0 k1 P (i + 1)⟩ σ2 L2)) (hd : ∀ a0 a1 L, P ws.length a0 a1 L → n0 (((wipe σ [k0, k1]).set k0 a0).set k1 a1) L) : ForR (wkL K p xs) gg tb ⟨n0, r0, b0, c0⟩ σ L := by
  refine f_pairs (SlV2 σ k0 k1 P) ht h0 (fun i σ1 L ⟨a0, a1, _, h⟩ => hG i a0 a1 L h) ?_ ?_
  · rintro i b r t a σ1 L hi m1 m2 ⟨a0, a1, rfl, hP⟩
    exact hs i b r t a a0 a1 L hi m1 m2 hP
  · rintro σ1 L ⟨a0, a1, rfl, hP⟩
    exact hd a0 a1 L hP
theorem fqv_2 {k0 k1 : Nat} (P : Nat → Option V → Option V → Lg → Prop) (ht : TelAll c xs (ts.map dT)) (h0 : Wk (SlV2 σ k0 k1 P 0 σ) L) (hG : ∀ i a0 a1 L, P i a0 a1 L → IsL K L p xs) (hs : ∀ (i : Nat) r t a0 a1 L, ts[i]? = some r → (t, HO.tup (r.map V.int)) ∈ c → P i a0 a1 L → gg (.ref t) (((wipe σ [k0, k1]).set k0 a0).set k1 a1) L (fun σ2 L2 => tb ⟨SlV2 σ k0 k1 P (i + 1), r0, n0, SlV2 σ k0 k1 P (i + 1)⟩ σ2 L2)) (hd : ∀ a0 a1 L, P ts.length a0 a1 L → n0 (((wipe σ [k0, k1]).set k0 a0).set k1 a1) L) : ForR (wkL K p xs) gg tb ⟨n0, r0, b0, c0⟩ σ L := by
  refine f_tups (SlV2 σ k0 k1 P) ht h0 (fun i σ1 L ⟨a0, a1, _, h⟩ => hG i a0 a1 L h) ?_ ?_
  · rintro i r t σ1 L hi m1 ⟨a0, a1, rfl, hP⟩
    exact hs i r t a0 a1 L hi m1 hP
  · rintro σ1 L ⟨a0, a1, rfl, hP⟩
    exact hd a0 a1 L hP
theorem fr_2 {k0 k1 : Nat} (P : Nat → Lg → Prop) (h0 : Wk (P 0) L) (hs : ∀ (i : Nat) a0 a1 L, i < n → P i L → gg (.int (i : Int)) (((wipe σ [k0, k1]).set k0 a0).set k1 a1) L (fun σ2 L2 => tb ⟨SlW σ [k0, k1] P (i + 1), r0, n0, SlW σ [k0, k1] P (i + 1)⟩ σ2 L2)) (hd : ∀ a0 a1 L, P n L → n0 (((wipe σ [k0, k1]).set k0 a0).set k1 a1) L) : ForR (wkR 0 n) gg tb ⟨n0, r0, b0, c0⟩ σ L := by
  obtain ⟨L0, l0, q0⟩ := h0
  refine f_range0 (SlW σ [k0, k1] P) ⟨L0, l0, rfl, q0⟩ ?_ ?_
  · rintro i σ1 L hi ⟨hσ, hP⟩
    obtain ⟨a0, a1, rfl⟩ := unw2 hσ
    exact hs i a0 a1 L hi hP
  · rintro σ1 L ⟨hσ, hP⟩
    obtain ⟨a0, a1, rfl⟩ := unw2 hσ
    exact hd a0 a1 L hP
theorem frn_2 {k0 k1 : Nat} (P : Nat → Lg → Prop) (h0 : Wk (P 0) L) (hs : ∀ (i : Nat) a0 a1 L, i < n → P i L → gg (.int (lo + i)) (((wipe σ [k0, k1]).set k0 a0).set k1 a1) L (fun σ2 L2 => tb ⟨SlW σ [k0, k1] P (i + 1), r0, n0, SlW σ [k0, k1] P (i + 1)⟩ σ2 L2)) (hd : ∀ a0 a1 L, P n L → n0 (((wipe σ [k0, k1]).set k0 a0).set k1 a1) L) : ForR (wkR lo n) gg tb ⟨n0, r0, b0, c0⟩ σ L := by
  obtain ⟨L0, l0, q0⟩ := h0
  refine f_range (SlW σ [k0, k1] P) ⟨L0, l0, rfl, q0⟩ ?_ ?_
  · rintro i σ1 L hi ⟨hσ, hP⟩
    obtain ⟨a0, a1, rfl⟩ := unw2 hσ
    exact hs i a0 a1 L hi hP
  · rintro σ1 L ⟨hσ, hP⟩
    obtain ⟨a0, a1, rfl⟩ := unw2 hσ
    exact hd a0 a1 L hP
theorem fi_2 {k0 k1 : Nat} (P : Nat → Lg → Prop) (hv : IntsV xs ns) (h0 : Wk (P 0) L) (hG : ∀ i L, P i L → IsL K L p xs) (hs : ∀ (i : Nat) (x : Int) a0 a1 L, ns[i]? = some x → P i L → gg (.int x) (((wipe σ [k0, k1]).set k0 a0).set k1 a1) L (fun σ2 L2 => tb ⟨SlW σ [k0, k1] P (i + 1), r0, n0, SlW σ [k0, k1] P (i + 1)⟩ σ2 L2)) (hd : ∀ a0 a1 L, P ns.length L → n0 (((wipe σ [k0, k1]).set k0 a0).set k1 a1) L) : ForR (wkL K p xs) gg tb ⟨n0, r0, b0, c0⟩ σ L := by
  obtain ⟨L0, l0, q0⟩ := h0
  refine f_ints (SlW σ [k0, k1] P) hv ⟨L0, l0, rfl, q0⟩ (fun i σ1 L h => hG i L h.2) ?_ ?_
  · rintro i x σ1 L hi ⟨hσ, hP⟩
    obtain ⟨a0, a1, rfl⟩ := unw2 hσ
    exact hs i x a0 a1 L hi hP
  · rintro σ1 L ⟨hσ, hP⟩
    obtain ⟨a0, a1, rfl⟩ := unw2 hσ
    exact hd a0 a1 L hP
theorem fv_2 {k0 k1 : Nat} (P : Nat → Lg → Prop) (h0 : Wk (P 0) L) (hG : ∀ i L, P i L → IsL K L p (as.map V.ref)) (hs : ∀ (i : Nat) a0 a1 L, i < as.length → P i L → gg (.ref (adrAt as (i : Int))) (((wipe σ [k0, k1]).set k0 a0).set k1 a1) L (fun σ2 L2 => tb ⟨SlW σ [k0, k1] P (i + 1), r0, n0, SlW σ [k0, k1] P (i + 1)⟩ σ2 L2)) (hd : ∀ a0 a1 L, P as.length L → n0 (((wipe σ [k0, k1]).set k0 a0).set k1 a1) L) : ForR (wkL K p (as.map V.ref)) gg tb ⟨n0, r0, b0, c0⟩ σ L := by
  obtain ⟨L0, l0, q0⟩ := h0
  refine f_refs (SlW σ [k0, k1] P) ⟨L0, l0, rfl, q0⟩ (fun i σ1 L h => hG i L h.2) ?_ ?_
  · rintro i σ1 L hi ⟨hσ, hP⟩
    obtain ⟨a0, a1, rfl⟩ := unw2 hσ
    exact hs i a0 a1 L hi hP
  · rintro σ1 L ⟨hσ, hP⟩
    obtain ⟨a0, a1, rfl⟩ := unw2 hσ
    exact hd a0 a1 L hP
theorem fl_2 {k0 k1 : Nat} (P : Nat → Lg → Prop) (h0 : Wk (P 0) L) (hG : ∀ i L, P i L → IsL K L p xs) (hs : ∀ (i : Nat) (x : V) a0 a1 L, xs[i]? = some x → P i L → gg x (((wipe σ [k0, k1]).set k0 a0).set k1 a1) L (fun σ2 L2 => tb ⟨SlW σ [k0, k1] P (i + 1), r0, n0, SlW σ [k0, k1] P (i + 1)⟩ σ2 L2)) (hd : ∀ a0 a1 L, P xs.length L → n0 (((wipe σ [k0, k1]).set k0 a0).set k1 a1) L) : ForR (wkL K p xs) gg tb ⟨n0, r0, b0, c0⟩ σ L := by
  obtain ⟨L0, l0, q0⟩ := h0
  refine f_list (SlW σ [k0, k1] P) ⟨L0, l0, rfl, q0⟩ (fun i σ1 L h => hG i L h.2) ?_ ?_
  · rintro i x σ1 L hi ⟨hσ, hP⟩
    obtain ⟨a0, a1, rfl⟩ := unw2 hσ
    exact hs i x a0 a1 L hi hP
  · rintro σ1 L ⟨hσ, hP⟩
    obtain ⟨a0, a1, rfl⟩ := unw2 hσ
    exact hd a0 a1 L hP
theorem ft_2 {k0 k1 : Nat} (P : Nat → Lg → Prop) (h0 : Wk (P 0) L) (hG : ∀ i L, P i L → IsT K L p xs) (hs : ∀ (i : Nat) (x : V) a0 a1 L, xs[i]? = some x → P i L → gg x (((wipe σ [k0, k1]).set k0 a0).set k1 a1) L (fun σ2 L2 => tb ⟨SlW σ [k0, k1] P (i + 1), r0, n0, SlW σ [k0, k1] P (i + 1)⟩ σ2 L2)) (hd : ∀ a0 a1 L, P xs.length L → n0 (((wipe σ [k0, k1]).set k0 a0).set k1 a1) L) : ForR (wkT K p xs) gg tb ⟨n0, r0, b0, c0⟩ σ L := by
  obtain ⟨L0, l0, q0⟩ := h0
  refine f_tup (SlW σ [k0, k1] P) ⟨L0, l0, rfl, q0⟩ (fun i σ1 L h => hG i L h.2) ?_ ?_
  · rintro i x σ1 L hi ⟨hσ, hP⟩
    obtain ⟨a0, a1, rfl⟩ := unw2 hσ
    exact hs i x a0 a1 L hi hP
  · rintro σ1 L ⟨hσ, hP⟩
    obtain ⟨a0, a1, rfl⟩ := unw2 hσ
    exact hd a0 a1 L hP
theorem fp_2 {k0 k1 : Nat} (P : Nat → Lg → Prop) (ht : TelAll c xs (ws.map VM.dP)) (h0 : Wk (P 0) L) (hG : ∀ i L, P i L → IsL K L p xs) (hs : ∀ (i : Nat) b r t a a0 a1 L, ws[i]? = some (b, r) → (t, HO.tup [.int b, .ref a]) ∈ c → (a, HO.lst (r.map V.int)) ∈ c → P i L → gg (.ref t) (((wipe σ [k0, k1]).set k0 a0).set k1 a1) L (fun σ2 L2 => tb ⟨SlW σ [k0, k1] P (i + 1), r0, n0, SlW σ [k0, k1] P (i + 1)⟩ σ2 L2)) (hd : ∀ a0 a1 L, P ws.length L → n0 (((wipe σ [k0, k1]).set k0 a0).set k1 a1) L) : ForR (wkL K p xs) gg tb ⟨n0, r0, b0, c0⟩ σ L := by
  obtain ⟨L0, l0, q0⟩ := h0
  refine f_pairs (SlW σ [k0, k1] P) ht ⟨L0, l0, rfl, q0⟩ (fun i σ1 L h => hG i L h.2) ?_ ?_
  · rintro i b r t a σ1 L hi m1 m2 ⟨hσ, hP⟩
    obtain ⟨a0, a1, rfl⟩ := unw2 hσ
    exact hs i b r t a a0 a1 L hi m1 m2 hP
  · rintro σ1 L ⟨hσ, hP⟩
    obtain ⟨a0, a1, rfl⟩ := unw2 hσ
    exact hd a0 a1 L hP
theorem fit_2 {k0 k1 : Nat} (P : Nat → Lg → Prop) (hv : IntsV xs ns) (h0 : Wk (P 0) L) (hG : ∀ i L, P i L → IsT K L p xs) (hs : ∀ (i : Nat) (x : Int) a0 a1 L, ns[i]? = some x → P i L → gg (.int x) (((wipe σ [k0, k1]).set k0 a0).set k1 a1) L (fun σ2 L2 => tb ⟨SlW σ [k0, k1] P (i + 1), r0, n0, SlW σ [k0, k1] P (i + 1)⟩ σ2 L2)) (hd : ∀ a0 a1 L, P ns.length L → n0 (((wipe σ [k0, k1]).set k0 a0).set k1 a1) L) : ForR (wkT K p xs) gg tb ⟨n0, r0, b0, c0⟩ σ L := by
  obtain ⟨L0, l0, q0⟩ := h0
  refine f_intsT (SlW σ [k0, k1] P) hv ⟨L0, l0, rfl, q0⟩ (fun i σ1 L h => hG i L h.2) ?_ ?_
  · rintro i x σ1 L hi ⟨hσ, hP⟩
    obtain ⟨a0, a1, rfl⟩ := unw2 hσ
    exact hs i x a0 a1 L hi hP
  · rintro σ1 L ⟨hσ, hP⟩
    obtain ⟨a0, a1, rfl⟩ := unw2 hσ
    exact hd a0 a1 L hP
theorem fq_2 {k0 k1 : Nat} (P : Nat → Lg → Prop) (ht : TelAll c xs (ts.map dT)) (h0 : Wk (P 0) L) (hG : ∀ i L, P i L → IsL K L p xs) (hs : ∀ (i : Nat) r t a0 a1 L, ts[i]? = some r → (t, HO.tup (r.map V.int)) ∈ c → P i L → gg (.ref t) (((wipe σ [k0, k1]).set k0 a0).set k1 a1) L (fun σ2 L2 => tb ⟨SlW σ [k0, k1] P (i + 1), r0, n0, SlW σ [k0, k1] P (i + 1)⟩ σ2 L2)) (hd : ∀ a0 a1 L, P ts.length L → n0 (((wipe σ [k0, k1]).set k0 a0).set k1 a1) L) : ForR (wkL K p xs) gg tb ⟨n0, r0, b0, c0⟩ σ L := by
  obtain ⟨L0, l0, q0⟩ := h0
  refine f_tups (SlW σ [k0, k1] P) ht ⟨L0, l0, rfl, q0⟩ (fun i σ1 L h => hG i L h.2) ?_ ?_
  · rintro i r t σ1 L hi m1 ⟨hσ, hP⟩
    obtain ⟨a0, a1, rfl⟩ := unw2 hσ
    exact hs i r t a0 a1 L hi m1 hP
  · rintro σ1 L ⟨hσ, hP⟩
    obtain ⟨a0, a1, rfl⟩ := unw2 hσ
    exact hd a0 a1 L hP
theorem unw3 {σ σ1 : St} {k0 k1 k2 : Nat} (h : wipe σ1 [k0, k1, k2] = wipe σ [k0, k1, k2]) : ∃ a0 a1 a2, σ1 = ((((wipe σ [k0, k1, k2]).set k0 a0).set k1 a1).set k2 a2) := by
  generalize wipe σ [k0, k1, k2] = τ at h ⊢
  obtain ⟨a0, h⟩ := unset h
  obtain ⟨a1, h⟩ := unset h
  obtain ⟨a2, h⟩ := unset h
  exact ⟨a0, a1, a2, h⟩
def SlV3 (σ : St) (k0 k1 k2 : Nat) (P : Nat → Option V → Option V → Option V → Lg → Prop) : Nat → St → Lg → Prop := fun i σ1 L => ∃ a0 a1 a2, σ1 = ((((wipe σ [k0, k1, k2]).set k0 a0).set k1 a1).set k2 a2) ∧ P i a0 a1 a2 L
theorem frv_3 {k0 k1 k2 : Nat} (P : Nat → Option V → Option V → Option V → Lg → Prop) (h0 : Wk (SlV3 σ k0 k1 k2 P 0 σ) L) (hs : ∀ (i : Nat) a0 a1 a2 L, i < n → P i a0 a1 a2 L → gg (.int (i : Int)) ((((wipe σ [k0, k1, k2]).set k0 a0).set k1 a1).set k2 a2) L (fun σ2 L2 => tb ⟨SlV3 σ k0 k1 k2 P (i + 1), r0, n0, SlV3 σ k0 k1 k2 P (i + 1)⟩ σ2 L2)) (hd : ∀ a0 a1 a2 L, P n a0 a1 a2 L → n0 ((((wipe σ [k0, k1, k2]).set k0 a0).set k1 a1).set k2 a2) L) : ForR (wkR 0 n) gg tb ⟨n0, r0, b0, c0⟩ σ L := by
  refine f_range0 (SlV3 σ k0 k1 k2 P) h0 ?_ ?_
  · rintro i σ1 L hi ⟨a0, a1, a2, rfl, hP⟩
    exact hs i a0 a1 a2 L hi hP
  · rintro σ1 L ⟨a0, a1, a2, rfl, hP⟩
    exact hd a0 a1 a2 L hP
theorem frnv_3 {k0 k1 k2 : Nat} (P : Nat → Option V → Option V → Option V → Lg → Prop) (h0 : Wk (SlV3 σ k0 k1 k2 P 0 σ) L) (hs : ∀ (i : Nat) a0 a1 a2 L, i < n → P i a0 a1 a2 L → gg (.int (lo + i)) ((((wipe σ [k0, k1, k2]).set k0 a0).set k1 a1).set k2 a2) L (fun σ2 L2 => tb ⟨SlV3 σ k0 k1 k2 P (i + 1), r0, n0, SlV3 σ k0 k1 k2 P (i + 1)⟩ σ2 L2)) (hd : ∀ a0 a1 a2 L, P n a0 a1 a2 L → n0 ((((wipe σ [k0, k1, k2]).set k0 a0).set k1 a1).set k2 a2) L) : ForR (wkR lo n) gg tb ⟨n0, r0, b0, c0⟩ σ L := by
  refine f_range (SlV3 σ k0 k1 k2 P) h0 ?_ ?_
  · rintro i σ1 L hi ⟨a0, a1, a2, rfl, hP⟩
    exact hs i a0 a1 a2 L hi hP
  · rintro σ1 L ⟨a0, a1, a2, rfl, hP⟩
    exact hd a0 a1 a2 L hP
theorem fiv_3 {k0 k1 k2 : Nat} (P : Nat → Option V → Option V → Option V → Lg → Prop) (hv : IntsV xs ns) (h0 : Wk (SlV3 σ k0 k1 k2 P 0 σ) L) (hG : ∀ i a0 a1 a2 L, P i a0 a1 a2 L → IsL K L p xs) (hs : ∀ (i : Nat) (x : Int) a0 a1 a2 L, ns[i]? = some x → P i a0 a1 a2 L → gg (.int x) ((((wipe σ [k0, k1, k2]).set k0 a0).set k1 a1).set k2 a2) L (fun σ2 L2 => tb ⟨SlV3 σ k0 k1 k2 P (i + 1), r0, n0, SlV3 σ k0 k1 k2 P (i + 1)⟩ σ2 L2)) (hd : ∀ a0 a1 a2 L, P ns.length a0 a1 a2 L → n0 ((((wipe σ [k0, k1, k2]).set k0 a0).set k1 a1).set k2 a2) L) : ForR (wkL K p xs) gg tb ⟨n0, r0, b0, c0⟩ σ L := by
  refine f_ints (SlV3 σ k0 k1 k2 P) hv h0 (fun i σ1 L ⟨a0, a1, a2, _, h⟩ => hG i a0 a1 a2 L h) ?_ ?_
  · rintro i x σ1 L hi ⟨a0, a1, a2, rfl, hP⟩
    exact hs i x a0 a1 a2 L hi hP
  · rintro σ1 L ⟨a0, a1, a2, rfl, hP⟩
    exact hd a0 a1 a2 L hP
theorem fvv_3 {k0 k1 k2 : Nat} (P : Nat → Option V → Option V → Option V → Lg → Prop) (h0 : Wk (SlV3 σ k0 k1 k2 P 0 σ) L) (hG : ∀ i a0 a1 a2 L, P i a0 a1 a2 L → IsL K L p (as.map V.ref)) (hs : ∀ (i : Nat) a0 a1 a2 L, i < as.length → P i a0 a1 a2 L → gg (.ref (adrAt as (i : Int))) ((((wipe σ [k0, k1, k2]).set k0 a0).set k1 a1).set k2 a2) L (fun σ2 L2 => tb ⟨SlV3 σ k0 k1 k2 P (i + 1), r0, n0, SlV3 σ k0 k1 k2 P (i + 1)⟩ σ2 L2)) (hd : ∀ a0 a1 a2 L, P as.length a0 a1 a2 L → n0 ((((wipe σ [k0, k1, k2]).set k0 a0).set k1 a1).set k2 a2) L) : ForR (wkL K p (as.map V.ref)) gg tb ⟨n0, r0, b0, c0⟩ σ L := by
  refine f_refs (SlV3 σ k0 k1 k2 P) h0 (fun i σ1 L ⟨a0, a1, a2, _, h⟩ => hG i a0 a1 a2 L h) ?_ ?_
  · rintro i σ1 L hi ⟨a0, a1, a2, rfl, hP⟩
    exact hs i a0 a1 a2 L hi hP
  · rintro σ1 L ⟨a0, a1, a2, rfl, hP⟩
    exact hd a0 a1 a2 L hP
theorem fpv_3 {k0 k1 k2 : Nat} (P : Nat → Option V → Option V → Option V → Lg → Prop) (ht : TelAll c xs (ws.map VM.dP)) (h0 : Wk (SlV3 σ k0 k1 k2 P 0 σ) L) (hG : ∀ i a0 a1 a2 L, P i a0 a1 a2 L → IsL K L p xs) (hs : ∀ (i : Nat) b r t a a0 a1 a2 L, ws[i]? = some (b, r) → (t, HO.tup [.int b, .ref a]) ∈ c → (a, HO.lst (r.map V.int)) ∈ c → P i a0 a1 a2 L → gg (.ref t) ((((wipe σ [k0, k1, k2]).set k0 a0).set k1 a1).set k2 a2) L (fun σ2 L2 => tb ⟨SlV3 σ k0 k1 k2 P (i + 1), r0, n0, SlV3 σ k0 k1 k2 P (i + 1)⟩ σ2 L2)) (hd : ∀ a0 a1 a2 L, P ws.length a0 a1 a2 L → n0 ((((wipe σ [k0, k1, k2]).set k0 a0).set k1 a1).set k2 a2) L) : ForR (wkL K p xs) gg tb ⟨n0, r0, b0, c0⟩ σ L := by
  refine f_pairs (SlV3 σ k0 k1 k2 P) ht h0 (fun i σ1 L ⟨a0, a1, a2, _, h⟩ => hG i a0 a1 a2 L h) ?_ ?_
  · rintro i b r t a σ1 L hi m1 m2 ⟨a0, a1, a2, rfl, hP⟩
    exact hs i b r t a a0 a1 a2 L hi m1 m2 hP
  · rintro σ1 L ⟨a0, a1, a2, rfl, hP⟩
    exact hd a0 a1 a2 L hP
theorem fqv_3 {k0 k1 k2 : Nat} (P : Nat → Option V → Option V → Option V → Lg → Prop) (ht : TelAll c xs (ts.map dT)) (h0 : Wk (SlV3 σ k0 k1 k2 P 0 σ) L) (hG : ∀ i a0 a1 a2 L, P i a0 a1 a2 L → IsL K L p xs) (hs : ∀ (i : Nat) r t a0 a1 a2 L, ts[i]? = some r → (t, HO.tup (r.map V.int)) ∈ c → P i a0 a1 a2 L → gg (.ref t) ((((wipe σ [k0, k1, k2]).set k0 a0).set k1 a1).set k2 a2) L (fun σ2 L2 => tb ⟨SlV3 σ k0 k1 k2 P (i + 1), r0, n0, SlV3 σ k0 k1 k2 P (i + 1)⟩ σ2 L2)) (hd : ∀ a0 a1 a2 L, P ts.length a0 a1 a2 L → n0 ((((wipe σ [k0, k1, k2]).set k0 a0).set k1 a1).set k2 a2) L) : ForR (wkL K p xs) gg tb ⟨n0, r0, b0, c0⟩ σ L := by
  refine f_tups (SlV3 σ k0 k1 k2 P) ht h0 (fun i σ1 L ⟨a0, a1, a2, _, h⟩ => hG i a0 a1 a2 L h) ?_ ?_
  · rintro i r t σ1 L hi m1 ⟨a0, a1, a2, rfl, hP⟩
    exact hs i r t a0 a1 a2 L hi m1 hP
  · rintro σ1 L ⟨a0, a1, a2, rfl, hP⟩
    exact hd a0 a1 a2 L hP
theorem fr_3 {k0 k1 k2 : Nat} (P : Nat → Lg → Prop) (h0 : Wk (P 0) L) (hs : ∀ (i : Nat) a0 a1 a2 L, i < n → P i L → gg (.int (i : Int)) ((((wipe σ [k0, k1, k2]).set k0 a0).set k1 a1).set k2 a2) L (fun σ2 L2 => tb ⟨SlW σ [k0, k1, k2] P (i + 1), r0, n0, SlW σ [k0, k1, k2] P (i + 1)⟩ σ2 L2)) (hd : ∀ a0 a1 a2 L, P n L → n0 ((((wipe σ [k0, k1, k2]).set k0 a0).set k1 a1).set k2 a2) L) : ForR (wkR 0 n) gg tb ⟨n0, r0, b0, c0⟩ σ L := by
  obtain ⟨L0, l0, q0⟩ := h0
  refine f_range0 (SlW σ [k0, k1, k2] P) ⟨L0, l0, rfl, q0⟩ ?_ ?_
  · rintro i σ1 L hi ⟨hσ, hP⟩
    obtain ⟨a0, a1, a2, rfl⟩ := unw3 hσ
    exact hs i a0 a1 a2 L hi hP
  · rintro σ1 L ⟨hσ, hP⟩
    obtain ⟨a0, a1, a2, rfl⟩ := unw3 hσ
    exact hd a0 a1 a2 L hP
theorem frn_3 {k0 k1 k2 : Nat} (P : Nat → Lg → Prop) (h0 : Wk (P 0) L) (hs : ∀ (i : Nat) a0 a1 a2 L, i < n → P i L → gg (.int (lo + i)) ((((wipe σ [k0, k1, k2]).set k0 a0).set k1 a1).set k2 a2) L (fun σ2 L2 => tb ⟨SlW σ [k0, k1, k2] P (i + 1), r0, n0, SlW σ [k0, k1, k2] P (i + 1)⟩ σ2 L2)) (hd : ∀ a0 a1 a2 L, P n L → n0 ((((wipe σ [k0, k1, k2]).set k0 a0).set k1 a1).set k2 a2) L) : ForR (wkR lo n) gg tb ⟨n0, r0, b0, c0⟩ σ L := by
  obtain ⟨L0, l0, q0⟩ := h0
  refine f_range (SlW σ [k0, k1, k2] P) ⟨L0, l0, rfl, q0⟩ ?_ ?_
  · rintro i σ1 L hi ⟨hσ, hP⟩
    obtain ⟨a0, a1, a2, rfl⟩ := unw3 hσ
    exact hs i a0 a1 a2 L hi hP
  · rintro σ1 L ⟨hσ, hP⟩
    obtain ⟨a0, a1, a2, rfl⟩ := unw3 hσ
    exact hd a0 a1 a2 L hP
theorem fi_3 {k0 k1 k2 : Nat} (P : Nat → Lg → Prop) (hv : IntsV xs ns) (h0 : Wk (P 0) L) (hG : ∀ i L, P i L → IsL K L p xs) (hs : ∀ (i : Nat) (x : Int) a0 a1 a2 L, ns[i]? = some x → P i L → gg (.int x) ((((wipe σ [k0, k1, k2]).set k0 a0).set k1 a1).set k2 a2) L (fun σ2 L2 => tb ⟨SlW σ [k0, k1, k2] P (i + 1), r0, n0, SlW σ [k0, k1, k2] P (i + 1)⟩ σ2 L2)) (hd : ∀ a0 a1 a2 L, P ns.length L → n0 ((((wipe σ [k0, k1, k2]).set k0 a0).set k1 a1).set k2 a2) L) : ForR (wkL K p xs) gg tb ⟨n0, r0, b0, c0⟩ σ L := by
  obtain ⟨L0, l0, q0⟩ := h0
  refine f_ints (SlW σ [k0, k1, k2] P) hv ⟨L0, l0, rfl, q0⟩ (fun i σ1 L h => hG i L h.2) ?_ ?_
  · rintro i x σ1 L hi ⟨hσ, hP⟩
    obtain ⟨a0, a1, a2, rfl⟩ := unw3 hσ
    exact hs i x a0 a1 a2 L hi hP
  · rintro σ1 L ⟨hσ, hP⟩
    obtain ⟨a0, a1, a2, rfl⟩ := unw3 hσ
    exact hd a0 a1 a2 L hP
theorem fv_3 {k0 k1 k2 : Nat} (P : Nat → Lg → Prop) (h0 : Wk (P 0) L) (hG : ∀ i L, P i L → IsL K L p (as.map V.ref)) (hs : ∀ (i : Nat) a0 a1 a2 L, i < as.length → P i L → gg (.ref (adrAt as (i : Int))) ((((wipe σ [k0, k1, k2]).set k0 a0).set k1 a1).set k2 a2) L (fun σ2 L2 => tb ⟨SlW σ [k0, k1, k2] P (i + 1), r0, n0, SlW σ [k0, k1, k2] P (i + 1)⟩ σ2 L2)) (hd : ∀ a0 a1 a2 L, P as.length L → n0 ((((wipe σ [k0, k1, k2]).set k0 a0).set k1 a1).set k2 a2) L) : ForR (wkL K p (as.map V.ref)) gg tb ⟨n0, r0, b0, c0⟩ σ L := by
  obtain ⟨L0, l0, q0⟩ := h0
  refine f_refs (SlW σ [k0, k1, k2] P) ⟨L0, l0, rfl, q0⟩ (fun i σ1 L h => hG i L h.2) ?_ ?_
  · rintro i σ1 L hi ⟨hσ, hP⟩
    obtain ⟨a0, a1, a2, rfl⟩ := unw3 hσ
    exact hs i a0 a1 a2 L hi hP
  · rintro σ1 L ⟨hσ, hP⟩
    obtain ⟨a0, a1, a2, rfl⟩ := unw3 hσ
    exact hd a0 a1 a2 L hP
theorem fl_3 {k0 k1 k2 : Nat} (P : Nat → Lg → Prop) (h0 : Wk (P 0) L) (hG : ∀ i L, P i L → IsL K L p xs) (hs : ∀ (i : Nat) (x : V) a0 a1 a2 L, xs[i]? = some x → P i L → gg x ((((wipe σ [k0, k1, k2]).set k0 a0).set k1 a1).set k2 a2) L (fun σ2 L2 => tb ⟨SlW σ [k0, k1, k2] P (i + 1), r0, n0, SlW σ [k0, k1, k2] P (i + 1)⟩ σ2 L2)) (hd : ∀ a0 a1 a2 L, P xs.length L → n0 ((((wipe σ [k0, k1, k2]).set k0 a0).set k1 a1).set k2 a2) L) : ForR (wkL K p xs) gg tb ⟨n0, r0, b0, c0⟩ σ L := by
  obtain ⟨L0, l0, q0⟩ := h0
  refine f_list (SlW σ [k0, k1, k2] P) ⟨L0, l0, rfl, q0⟩ (fun i σ1 L h => hG i L h.2) ?_ ?_
  · rintro i x σ1 L hi ⟨hσ, hP⟩
    obtain ⟨a0, a1, a2, rfl⟩ := unw3 hσ
    exact hs i x a0 a1 a2 L hi hP
  · rintro σ1 L ⟨hσ, hP⟩
    obtain ⟨a0, a1, a2, rfl⟩ := unw3 hσ
    exact hd a0 a1 a2 L hP
theorem ft_3 {k0 k1 k2 : Nat} (P : Nat → Lg → Prop) (h0 : Wk (P 0) L) (hG : ∀ i L, P i L → IsT K L p xs) (hs : ∀ (i : Nat) (x : V) a0 a1 a2 L, xs[i]? = some x → P i L → gg x ((((wipe σ [k0, k1, k2]).set k0 a0).set k1 a1).set k2 a2) L (fun σ2 L2 => tb ⟨SlW σ [k0, k1, k2] P (i + 1), r0, n0, SlW σ [k0, k1, k2] P (i + 1)⟩ σ2 L2)) (hd : ∀ a0 a1 a2 L, P xs.length L → n0 ((((wipe σ [k0, k1, k2]).set k0 a0).set k1 a1).set k2 a2) L) : ForR (wkT K p xs) gg tb ⟨n0, r0, b0, c0⟩ σ L := by
  obtain ⟨L0, l0, q0⟩ := h0
  refine f_tup (SlW σ [k0, k1, k2] P) ⟨L0, l0, rfl, q0⟩ (fun i σ1 L h => hG i L h.2) ?_ ?_
  · rintro i x σ1 L hi ⟨hσ, hP⟩
    obtain ⟨a0, a1, a2, rfl⟩ := unw3 hσ
    exact hs i x a0 a1 a2 L hi hP
  · rintro σ1 L ⟨hσ, hP⟩
    obtain ⟨a0, a1, a2, rfl⟩ := unw3 hσ
    exact hd a0 a1 a2 L hP
theorem fp_3 {k0 k1 k2 : Nat} (P : Nat → Lg → Prop) (ht : TelAll c xs (ws.map VM.dP)) (h0 : Wk (P 0) L) (hG : ∀ i L, P i L → IsL K L p xs) (hs : ∀ (i : Nat) b r t a a0 a1 a2 L, ws[i]? = some (b, r) → (t, HO.tup [.int b, .ref a]) ∈ c → (a, HO.lst (r.map V.int)) ∈ c → P i L → gg (.ref t) ((((wipe σ [k0, k1, k2]).set k0 a0).set k1 a1).set k2 a2) L (fun σ2 L2 => tb ⟨SlW σ [k0, k1, k2] P (i + 1), r0, n0, SlW σ [k0, k1, k2] P (i + 1)⟩ σ2 L2)) (hd : ∀ a0 a1 a2 L, P ws.length L → n0 ((((wipe σ [k0, k1, k2]).set k0 a0).set k1 a1).set k2 a2) L) : ForR (wkL K p xs) gg tb ⟨n0, r0, b0, c0⟩ σ L := by
  obtain ⟨L0, l0, q0⟩ := h0
  refine f_pairs (SlW σ [k0, k1, k2] P) ht ⟨L0, l0, rfl, q0⟩ (fun i σ1 L h => hG i L h.2) ?_ ?_
  · rintro i b r t a σ1 L hi m1 m2 ⟨hσ, hP⟩
    obtain ⟨a0, a1, a2, rfl⟩ := unw3 hσ
    exact hs i b r t a a0 a1 a2 L hi m1 m2 hP
  · rintro σ1 L ⟨hσ, hP⟩
    obtain ⟨a0, a1, a2, rfl⟩ := unw3 hσ
    exact hd a0 a1 a2 L hP
theorem fit_3 {k0 k1 k2 : Nat} (P : Nat → Lg → Prop) (hv : IntsV xs ns) (h0 : Wk (P 0) L) (hG : ∀ i L, P i L → IsT K L p xs) (hs : ∀ (i : Nat) (x : Int) a0 a1 a2 L, ns[i]? = some x → P i L → gg (.int x) ((((wipe σ [k0, k1, k2]).set k0 a0).set k1 a1).set k2 a2) L (fun σ2 L2 => tb ⟨SlW σ [k0, k1, k2] P (i + 1), r0, n0, SlW σ [k0, k1, k2] P (i + 1)⟩ σ2 L2)) (hd : ∀ a0 a1 a2 L, P ns.length L → n0 ((((wipe σ [k0, k1, k2]).set k0 a0).set k1 a1).set k2 a2) L) : ForR (wkT K p xs) gg tb ⟨n0, r0, b0, c0⟩ σ L := by
  obtain ⟨L0, l0, q0⟩ := h0
  refine f_intsT (SlW σ [k0, k1, k2] P) hv ⟨L0, l0, rfl, q0⟩ (fun i σ1 L h => hG i L h.2) ?_ ?_
  · rintro i x σ1 L hi ⟨hσ, hP⟩
    obtain ⟨a0, a1, a2, rfl⟩ := unw3 hσ
    exact hs i x a0 a1 a2 L hi hP
  · rintro σ1 L ⟨hσ, hP⟩
    obtain ⟨a0, a1, a2, rfl⟩ := unw3 hσ
    exact hd a0 a1 a2 L hP
theorem fq_3 {k0 k1 k2 : Nat} (P : Nat → Lg → Prop) (ht : TelAll c xs (ts.map dT)) (h0 : Wk (P 0) L) (hG : ∀ i L, P i L → IsL K L p xs) (hs : ∀ (i : Nat) r t a0 a1 a2 L, ts[i]? = some r → (t, HO.tup (r.map V.int)) ∈ c → P i L → gg (.ref t) ((((wipe σ [k0, k1, k2]).set k0 a0).set k1 a1).set k2 a2) L (fun σ2 L2 => tb ⟨SlW σ [k0, k1, k2] P (i + 1), r0, n0, SlW σ [k0, k1, k2] P (i + 1)⟩ σ2 L2)) (hd : ∀ a0 a1 a2 L, P ts.length L → n0 ((((wipe σ [k0, k1, k2]).set k0 a0).set k1 a1).set k2 a2) L) : ForR (wkL K p xs) gg tb ⟨n0, r0, b0, c0⟩ σ L := by
  obtain ⟨L0, l0, q0⟩ := h0
  refine f_tups (SlW σ [k0, k1, k2] P) ht ⟨L0, l0, rfl, q0⟩ (fun i σ1 L h => hG i L h.2) ?_ ?_
  · rintro i r t σ1 L hi m1 ⟨hσ, hP⟩
    obtain ⟨a0, a1, a2, rfl⟩ := unw3 hσ
    exact hs i r t a0 a1 a2 L hi m1 hP
  · rintro σ1 L ⟨hσ, hP⟩
    obtain ⟨a0, a1, a2, rfl⟩ := unw3 hσ
    exact hd a0 a1 a2 L hP
theorem unw4 {σ σ1 : St} {k0 k1 k2 k3 : Nat} (h : wipe σ1 [k0, k1, k2, k3] = wipe σ [k0, k1, k2, k3]) : ∃ a0 a1 a2 a3, σ1 = (((((wipe σ [k0, k1, k2, k3]).set k0 a0).set k1 a1).set k2 a2).set k3 a3) := by
  generalize wipe σ [k0, k1, k2, k3] = τ at h ⊢
  obtain ⟨a0, h⟩ := unset h
  obtain ⟨a1, h⟩ := unset h
  obtain ⟨a2, h⟩ := unset h
  obtain ⟨a3, h⟩ := unset h
  exact ⟨a0, a1, a2, a3, h⟩
def SlV4 (σ : St) (k0 k1 k2 k3 : Nat) (P : Nat → Option V → Option V → Option V → Option V → Lg → Prop) : Nat → St → Lg → Prop := fun i σ1 L => ∃ a0 a1 a2 a3, σ1 = (((((wipe σ [k0, k1, k2, k3]).set k0 a0).set k1 a1).set k2 a2).set k3 a3) ∧ P i a0 a1 a2 a3 L
theorem frv_4 {k0 k1 k2 k3 : Nat} (P : Nat → Option V → Option V → Option V → Option V → Lg → Prop) (h0 : Wk (SlV4 σ k0 k1 k2 k3 P 0 σ) L) (hs : ∀ (i : Nat) a0 a1 a2 a3 L, i < n → P i a0 a1 a2 a3 L → gg (.int (i : Int)) (((((wipe σ [k0, k1, k2, k3]).set k0 a0).set k1 a1).set k2 a2).set k3 a3) L (fun σ2 L2 => tb ⟨SlV4 σ k0 k1 k2 k3 P (i + 1), r0, n0, SlV4 σ k0 k1 k2 k3 P (i + 1)⟩ σ2 L2)) (hd : ∀ a0 a1 a2 a3 L, P n a0 a1 a2 a3 L → n0 (((((wipe σ [k0, k1, k2, k3]).set k0 a0).set k1 a1).set k2 a2).set k3 a3) L) : ForR (wkR 0 n) gg tb ⟨n0, r0, b0, c0⟩ σ L := by
  refine f_range0 (SlV4 σ k0 k1 k2 k3 P) h0 ?_ ?_
  · rintro i σ1 L hi ⟨a0, a1, a2, a3, rfl, hP⟩
    exact hs i a0 a1 a2 a3 L hi hP
  · rintro σ1 L ⟨a0, a1, a2, a3, rfl, hP⟩
    exact hd a0 a1 a2 a3 L hP
theorem frnv_4 {k0 k1 k2 k3 : Nat} (P : Nat → Option V → Option V → Option V → Option V → Lg → Prop) (h0 : Wk (SlV4 σ k0 k1 k2 k3 P 0 σ) L) (hs : ∀ (i : Nat) a0 a1 a2 a3 L, i < n → P i a0 a1 a2 a3 L → gg (.int (lo + i)) (((((wipe σ [k0, k1, k2, k3]).set k0 a0).set k1 a1).set k2 a2).set k3 a3) L (fun σ2 L2 => tb ⟨SlV4 σ k0 k1 k2 k3 P (i + 1), r0, n0, SlV4 σ k0 k1 k2 k3 P (i + 1)⟩ σ2 L2)) (hd : ∀ a0 a1 a2 a3 L, P n a0 a1 a2 a3 L → n0 (((((wipe σ [k0, k1, k2, k3]).set k0 a0).set k1 a1).set k2 a2).set k3 a3) L) : ForR (wkR lo n) gg tb ⟨n0, r0, b0, c0⟩ σ L := by
  refine f_range (SlV4 σ k0 k1 k2 k3 P) h0 ?_ ?_
  · rintro i σ1 L hi ⟨a0, a1, a2, a3, rfl, hP⟩
    exact hs i a0 a1 a2 a3 L hi hP
  · rintro σ1 L ⟨a0, a1, a2, a3, rfl, hP⟩
    exact hd a0 a1 a2 a3 L hP
theorem fiv_4 {k0 k1 k2 k3 : Nat} (P : Nat → Option V → Option V → Option V → Option V → Lg → Prop) (hv : IntsV xs ns) (h0 : Wk (SlV4 σ k0 k1 k2 k3 P 0 σ) L) (hG : ∀ i a0 a1 a2 a3 L, P i a0 a1 a2 a3 L → IsL K L p xs) (hs : ∀ (i : Nat) (x : Int) a0 a1 a2 a3 L, ns[i]? = some x → P i a0 a1 a2 a3 L → gg (.int x) (((((wipe σ [k0, k1, k2, k3]).set k0 a0).set k1 a1).set k2 a2).set k3 a3) L (fun σ2 L2 => tb ⟨SlV4 σ k0 k1 k2 k3 P (i + 1), r0, n0, SlV4 σ k0 k1 k2 k3 P (i + 1)⟩ σ2 L2)) (hd : ∀ a0 a1 a2 a3 L, P ns.length a0 a1 a2 a3 L → n0 (((((wipe σ [k0, k1, k2, k3]).set k0 a0).set k1 a1).set k2 a2).set k3 a3) L) : ForR (wkL K p xs) gg tb ⟨n0, r0, b0, c0⟩ σ L := by
  refine f_ints (SlV4 σ k0 k1 k2 k3 P) hv h0 (fun i σ1 L ⟨a0, a1, a2, a3, _, h⟩ => hG i a0 a1 a2 a3 L h) ?_ ?_
  · rintro i x σ1 L hi ⟨a0, a1, a2, a3, rfl, hP⟩
    exact hs i x a0 a1 a2 a3 L hi hP
  · rintro σ1 L ⟨a0, a1, a2, a3, rfl, hP⟩
    exact hd a0 a1 a2 a3 L hP
theorem fvv_4 {k0 k1 k2 k3 : Nat} (P : Nat → Option V → Option V → Option V → Option V → Lg → Prop) (h0 : Wk (SlV4 σ k0 k1 k2 k3 P 0 σ) L) (hG : ∀ i a0 a1 a2 a3 L, P i a0 a1 a2 a3 L → IsL K L p (as.map V.ref)) (hs : ∀ (i : Nat) a0 a1 a2 a3 L, i < as.length → P i a0 a1 a2 a3 L → gg (.ref (adrAt as (i : Int))) (((((wipe σ [k0, k1, k2, k3]).set k0 a0).set k1 a1).set k2 a2).set k3 a3) L (fun σ2 L2 => tb ⟨SlV4 σ k0 k1 k2 k3 P (i + 1), r0, n0, SlV4 σ k0 k1 k2 k3 P (i + 1)⟩ σ2 L2)) (hd : ∀ a0 a1 a2 a3 L, P as.length a0 a1 a2 a3 L → n0 (((((wipe σ [k0, k1, k2, k3]).set k0 a0).set k1 a1).set k2 a2).set k3 a3) L) : ForR (wkL K p (as.map V.ref)) gg tb ⟨n0, r0, b0, c0⟩ σ L := by
  refine f_refs (SlV4 σ k0 k1 k2 k3 P) h0 (fun i σ1 L ⟨a0, a1, a2, a3, _, h⟩ => hG i a0 a1 a2 a3 L h) ?_ ?_
  · rintro i σ1 L hi ⟨a0, a1, a2, a3, rfl, hP⟩
    exact hs i a0 a1 a2 a3 L hi hP
  · rintro σ1 L ⟨a0, a1, a2, a3, rfl, hP⟩
    exact hd a0 a1 a2 a3 L hP
theorem fpv_4 {k0 k1 k2 k3 : Nat} (P : Nat → Option V → Option V → Option V → Option V → Lg → Prop) (ht : TelAll c xs (ws.map VM.dP)) (h0 : Wk (SlV4 σ k0 k1 k2 k3 P 0 σ) L) (hG : ∀ i a0 a1 a2 a3 L, P i a0 a1 a2 a3 L → IsL K L p xs) (hs : ∀ (i : Nat) b r t a a0 a1 a2 a3 L, ws[i]? = some (b, r) → (t, HO.tup [.int b, .ref a]) ∈ c → (a, HO.lst (r.map V.int)) ∈ c → P i a0 a1 a2 a3 L → gg (.ref t) (((((wipe σ [k0, k1, k2, k3]).set k0 a0).set k1 a1).set k2 a2).set k3 a3) L (fun σ2 L2 => tb ⟨SlV4 σ k0 k1 k2 k3 P (i + 1), r0, n0, SlV4 σ k0 k1 k2 k3 P (i + 1)⟩ σ2 L2)) (hd : ∀ a0 a1 a2 a3 L, P ws.length a0 a1 a2 a3 L → n0 (((((wipe σ [k0, k1, k2, k3]).set k0 a0).set k1 a1).set k2 a2).set k3 a3) L) : ForR (wkL K p xs) gg tb ⟨n0, r0, b0, c0⟩ σ L := by
  refine f_pairs (SlV4 σ k0 k1 k2 k3 P) ht h0 (fun i σ1 L ⟨a0, a1, a2, a3, _, h⟩ => hG i a0 a1 a2 a3 L h) ?_ ?_
  · rintro i b r t a σ1 L hi m1 m2 ⟨a0, a1, a2, a3, rfl, hP⟩
    exact hs i b r t a a0 a1 a2 a3 L hi m1 m2 hP
  · rintro σ1 L ⟨a0, a1, a2, a3, rfl, hP⟩
    exact hd a0 a1 a2 a3 L hP
theorem fqv_4 {k0 k1 k2 k3 : Nat} (P : Nat → Option V → Option V → Option V → Option V → Lg → Prop) (ht : TelAll c xs (ts.map dT)) (h0 : Wk (SlV4 σ k0 k1 k2 k3 P 0 σ) L) (hG : ∀ i a0 a1 a2 a3 L, P i a0 a1 a2 a3 L → IsL K L p xs) (hs : ∀ (i : Nat) r t a0 a1 a2 a3 L, ts[i]? = some r → (t, HO.tup (r.map V.int)) ∈ c → P i a0 a1 a2 a3 L → gg (.ref t) (((((wipe σ [k0, k1, k2, k3]).set k0 a0).set k1 a1).set k2 a2).set k3 a3) L (fun σ2 L2 => tb ⟨SlV4 σ k0 k1 k2 k3 P (i + 1), r0, n0, SlV4 σ k0 k1 k2 k3 P (i + 1)⟩ σ2 L2)) (hd : ∀ a0 a1 a2 a3 L, P ts.length a0 a1 a2 a3 L → n0 (((((wipe σ [k0, k1, k2, k3]).set k0 a0).set k1 a1).set k2 a2).set k3 a3) L) : ForR (wkL K p xs) gg tb ⟨n0, r0, b0, c0⟩ σ L := by
  refine f_tups (SlV4 σ k0 k1 k2 k3 P) ht h0 (fun i σ1 L ⟨a0, a1, a2, a3, _, h⟩ => hG i a0 a1 a2 a3 L h) ?_ ?_
  · rintro i r t σ1 L hi m1 ⟨a0, a1, a2, a3, rfl, hP⟩
    exact hs i r t a0 a1 a2 a3 L hi m1 hP
  · rintro σ1 L ⟨a0, a1, a2, a3, rfl, hP⟩
    exact hd a0 a1 a2 a3 L hP
theorem fr_4 {k0 k1 k2 k3 : Nat} (P : Nat → Lg → Prop) (h0 : Wk (P 0) L) (hs : ∀ (i : Nat) a0 a1 a2 a3 L, i < n → P i L → gg (.int (i : Int)) (((((wipe σ [k0, k1, k2, k3]).set k0 a0).set k1 a1).set k2 a2).set k3 a3) L (fun σ2 L2 => tb ⟨SlW σ [k0, k1, k2, k3] P (i + 1), r0, n0, SlW σ [k0, k1, k2, k3] P (i + 1)⟩ σ2 L2)) (hd : ∀ a0 a1 a2 a3 L, P n L → n0 (((((wipe σ [k0, k1, k2, k3]).set k0 a0).set k1 a1).set k2 a2).set k3 a3) L) : ForR (wkR 0 n) gg tb ⟨n0, r0, b0, c0⟩ σ L := by
  obtain ⟨L0, l0, q0⟩ := h0
  refine f_range0 (SlW σ [k0, k1, k2, k3] P) ⟨L0, l0, rfl, q0⟩ ?_ ?_
  · rintro i σ1 L hi ⟨hσ, hP⟩
    obtain ⟨a0, a1, a2, a3, rfl⟩ := unw4 hσ
    exact hs i a0 a1 a2 a3 L hi hP
  · rintro σ1 L ⟨hσ, hP⟩
    obtain ⟨a0, a1, a2, a3, rfl⟩ := unw4 hσ
    exact hd a0 a1 a2 a3 L hP
theorem frn_4 {k0 k1 k2 k3 : Nat} (P : Nat → Lg → Prop) (h0 : Wk (P 0) L) (hs : ∀ (i : Nat) a0 a1 a2 a3 L, i < n → P i L → gg (.int (lo + i)) (((((wipe σ [k0, k1, k2, k3]).set k0 a0).set k1 a1).set k2 a2).set k3 a3) L (fun σ2 L2 => tb ⟨SlW σ [k0, k1, k2, k3] P (i + 1), r0, n0, SlW σ [k0, k1, k2, k3] P (i + 1)⟩ σ2 L2)) (hd : ∀ a0 a1 a2 a3 L, P n L → n0 (((((wipe σ [k0, k1, k2, k3]).set k0 a0).set k1 a1).set k2 a2).set k3 a3) L) : ForR (wkR lo n) gg tb ⟨n0, r0, b0, c0⟩ σ L := by
  obtain ⟨L0, l0, q0⟩ := h0
  refine f_range (SlW σ [k0, k1, k2, k3] P) ⟨L0, l0, rfl, q0⟩ ?_ ?_
  · rintro i σ1 L hi ⟨hσ, hP⟩
    obtain ⟨a0, a1, a2, a3, rfl⟩ := unw4 hσ
    exact hs i a0 a1 a2 a3 L hi hP
  · rintro σ1 L ⟨hσ, hP⟩
    obtain ⟨a0, a1, a2, a3, rfl⟩ := unw4 hσ
    exact hd a0 a1 a2 a3 L hP
theorem fi_4 {k0 k1 k2 k3 : Nat} (P : Nat → Lg → Prop) (hv : IntsV xs ns) (h0 : Wk (P 0) L) (hG : ∀ i L, P i L → IsL K L p xs) (hs : ∀ (i : Nat) (x : Int) a0 a1 a2 a3 L, ns[i]? = some x → P i L → gg (.int x) (((((wipe σ [k0, k1, k2, k3]).set k0 a0).set k1 a1).set k2 a2).set k3 a3) L (fun σ2 L2 => tb ⟨SlW σ [k0, k1, k2, k3] P (i + 1), r0, n0, SlW σ [k0, k1, k2, k3] P (i + 1)⟩ σ2 L2)) (hd : ∀ a0 a1 a2 a3 L, P ns.length L → n0 (((((wipe σ [k0, k1, k2, k3]).set k0 a0).set k1 a1).set k2 a2).set k3 a3) L) : ForR (wkL K p xs) gg tb ⟨n0, r0, b0, c0⟩ σ L := by
  obtain ⟨L0, l0, q0⟩ := h0
  refine f_ints (SlW σ [k0, k1, k2, k3] P) hv ⟨L0, l0, rfl, q0⟩ (fun i σ1 L h => hG i L h.2) ?_ ?_
  · rintro i x σ1 L hi ⟨hσ, hP⟩
    obtain ⟨a0, a1, a2, a3, rfl⟩ := unw4 hσ
    exact hs i x a0 a1 a2 a3 L hi hP
  · rintro σ1 L ⟨hσ, hP⟩
    obtain ⟨a0, a1, a2, a3, rfl⟩ := unw4 hσ
    exact hd a0 a1 a2 a3 L hP
theorem fv_4 {k0 k1 k2 k3 : Nat} (P : Nat → Lg → Prop) (h0 : Wk (P 0) L) (hG : ∀ i L, P i L → IsL K L p (as.map V.ref)) (hs : ∀ (i : Nat) a0 a1 a2 a3 L, i < as.length → P i L → gg (.ref (adrAt as (i : Int))) (((((wipe σ [k0, k1, k2, k3]).set k0 a0).set k1 a1).set k2 a2).set k3 a3) L (fun σ2 L2 => tb ⟨SlW σ [k0, k1, k2, k3] P (i + 1), r0, n0, SlW σ [k0, k1, k2, k3] P (i + 1)⟩ σ2 L2)) (hd : ∀ a0 a1 a2 a3 L, P as.length L → n0 (((((wipe σ [k0, k1, k2, k3]).set k0 a0).set k1 a1).set k2 a2).set k3 a3) L) : ForR (wkL K p (as.map V.ref)) gg tb ⟨n0, r0, b0, c0⟩ σ L := by
  obtain ⟨L0, l0, q0⟩ := h0
  refine f_refs (SlW σ [k0, k1, k2, k3] P) ⟨L0, l0, rfl, q0⟩ (fun i σ1 L h => hG i L h.2) ?_ ?_
  · rintro i σ1 L hi ⟨hσ, hP⟩
    obtain ⟨a0, a1, a2, a3, rfl⟩ := unw4 hσ
    exact hs i a0 a1 a2 a3 L hi hP
  · rintro σ1 L ⟨hσ, hP⟩
    obtain ⟨a0, a1, a2, a3, rfl⟩ := unw4 hσ
    exact hd a0 a1 a2 a3 L hP
theorem fl_4 {k0 k1 k2 k3 : Nat} (P : Nat → Lg → Prop) (h0 : Wk (P 0) L) (hG : ∀ i L, P i L → IsL K L p xs) (hs : ∀ (i : Nat) (x : V) a0 a1 a2 a3 L, xs[i]? = some x → P i L → gg x (((((wipe σ [k0, k1, k2, k3]).set k0 a0).set k1 a1).set k2 a2).set k3 a3) L (fun σ2 L2 => tb ⟨SlW σ [k0, k1, k2, k3] P (i + 1), r0, n0, SlW σ [k0, k1, k2, k3] P (i + 1)⟩ σ2 L2)) (hd : ∀ a0 a1 a2 a3 L, P xs.length L → n0 (((((wipe σ [k0, k1, k2, k3]).set k0 a0).set k1 a1).set k2 a2).set k3 a3) L) : ForR (wkL K p xs) gg tb ⟨n0, r0, b0, c0⟩ σ L := by
  obtain ⟨L0, l0, q0⟩ := h0
  refine f_list (SlW σ [k0, k1, k2, k3] P) ⟨L0, l0, rfl, q0⟩ (fun i σ1 L h => hG i L h.2) ?_ ?_
  · rintro i x σ1 L hi ⟨hσ, hP⟩
    obtain ⟨a0, a1, a2, a3, rfl⟩ := unw4 hσ
    exact hs i x a0 a1 a2 a3 L hi hP
  · rintro σ1 L ⟨hσ, hP⟩
    obtain ⟨a0, a1, a2, a3, rfl⟩ := unw4 hσ
    exact hd a0 a1 a2 a3 L hP
theorem ft_4 {k0 k1 k2 k3 : Nat} (P : Nat → Lg → Prop) (h0 : Wk (P 0) L) (hG : ∀ i L, P i L → IsT K L p xs) (hs : ∀ (i : Nat) (x : V) a0 a1 a2 a3 L, xs[i]? = some x → P i L → gg x (((((wipe σ [k0, k1, k2, k3]).set k0 a0).set k1 a1).set k2 a2).set k3 a3) L (fun σ2 L2 => tb ⟨SlW σ [k0, k1, k2, k3] P (i + 1), r0, n0, SlW σ [k0, k1, k2, k3] P (i + 1)⟩ σ2 L2)) (hd : ∀ a0 a1 a2 a3 L, P xs.length L → n0 (((((wipe σ [k0, k1, k2, k3]).set k0 a0).set k1 a1).set k2 a2).set k3 a3) L) : ForR (wkT K p xs) gg tb ⟨n0, r0, b0, c0⟩ σ L := by
  obtain ⟨L0, l0, q0⟩ := h0
  refine f_tup (SlW σ [k0, k1, k2, k3] P) ⟨L0, l0, rfl, q0⟩ (fun i σ1 L h => hG i L h.2) ?_ ?_
  · rintro i x σ1 L hi ⟨hσ, hP⟩
    obtain ⟨a0, a1, a2, a3, rfl⟩ := unw4 hσ
    exact hs i x a0 a1 a2 a3 L hi hP
  · rintro σ1 L ⟨hσ, hP⟩
    obtain ⟨a0, a1, a2, a3, rfl⟩ := unw4 hσ
    exact hd a0 a1 a2 a3 L hP
theorem fp_4 {k0 k1 k2 k3 : Nat} (P : Nat → Lg → Prop) (ht : TelAll c xs (ws.map VM.dP)) (h0 : Wk (P 0) L) (hG : ∀ i L, P i L → IsL K L p xs) (hs : ∀ (i : Nat) b r t a a0 a1 a2 a3 L, ws[i]? = some (b, r) → (t, HO.tup [.int b, .ref a]) ∈ c → (a, HO.lst (r.map V.int)) ∈ c → P i L → gg (.ref t) (((((wipe σ [k0, k1, k2, k3]).set k0 a0).set k1 a1).set k2 a2).set k3 a3) L (fun σ2 L2 => tb ⟨SlW σ [k0, k1, k2, k3] P (i + 1), r0, n0, SlW σ [k0, k1, k2, k3] P (i + 1)⟩ σ2 L2)) (hd : ∀ a0 a1 a2 a3 L, P ws.length L → n0 (((((wipe σ [k0, k1, k2, k3]).set k0 a0).set k1 a1).set k2 a2).set k3 a3) L) : ForR (wkL K p xs) gg tb ⟨n0, r0, b0, c0⟩ σ L := by
  obtain ⟨L0, l0, q0⟩ := h0
  refine f_pairs (SlW σ [k0, k1, k2, k3] P) ht ⟨L0, l0, rfl, q0⟩ (fun i σ1 L h => hG i L h.2) ?_ ?_
  · rintro i b r t a σ1 L hi m1 m2 ⟨hσ, hP⟩
    obtain ⟨a0, a1, a2, a3, rfl⟩ := unw4 hσ
    exact hs i b r t a a0 a1 a2 a3 L hi m1 m2 hP
  · rintro σ1 L ⟨hσ, hP⟩
    obtain ⟨a0, a1, a2, a3, rfl⟩ := unw4 hσ
    exact hd a0 a1 a2 a3 L hP
theorem fit_4 {k0 k1 k2 k3 : Nat} (P : Nat → Lg → Prop) (hv : IntsV xs ns) (h0 : Wk (P 0) L) (hG : ∀ i L, P i L → IsT K L p xs) (hs : ∀ (i : Nat) (x : Int) a0 a1 a2 a3 L, ns[i]? = some x → P i L → gg (.int x) (((((wipe σ [k0, k1, k2, k3]).set k0 a0).set k1 a1).set k2 a2).set k3 a3) L (fun σ2 L2 => tb ⟨SlW σ [k0, k1, k2, k3] P (i + 1), r0, n0, SlW σ [k0, k1, k2, k3] P (i + 1)⟩ σ2 L2)) (hd : ∀ a0 a1 a2 a3 L, P ns.length L → n0 (((((wipe σ [k0, k1, k2, k3]).set k0 a0).set k1 a1).set k2 a2).set k3 a3) L) : ForR (wkT K p xs) gg tb ⟨n0, r0, b0, c0⟩ σ L := by
  obtain ⟨L0, l0, q0⟩ := h0
  refine f_intsT (SlW σ [k0, k1, k2, k3] P) hv ⟨L0, l0, rfl, q0⟩ (fun i σ1 L h => hG i L h.2) ?_ ?_
  · rintro i x σ1 L hi ⟨hσ, hP⟩
    obtain ⟨a0, a1, a2, a3, rfl⟩ := unw4 hσ
    exact hs i x a0 a1 a2 a3 L hi hP
  · rintro σ1 L ⟨hσ, hP⟩
    obtain ⟨a0, a1, a2, a3, rfl⟩ := unw4 hσ
    exact hd a0 a1 a2 a3 L hP
theorem fq_4 {k0 k1 k2 k3 : Nat} (P : Nat → Lg → Prop) (ht : TelAll c xs (ts.map dT)) (h0 : Wk (P 0) L) (hG : ∀ i L, P i L → IsL K L p xs) (hs : ∀ (i : Nat) r t a0 a1 a2 a3 L, ts[i]? = some r → (t, HO.tup (r.map V.int)) ∈ c → P i L → gg (.ref t) (((((wipe σ [k0, k1, k2, k3]).set k0 a0).set k1 a1).set k2 a2).set k3 a3) L (fun σ2 L2 => tb ⟨SlW σ [k0, k1, k2, k3] P (i + 1), r0, n0, SlW σ [k0, k1, k2, k3] P (i + 1)⟩ σ2 L2)) (hd : ∀ a0 a1 a2 a3 L, P ts.length L → n0 (((((wipe σ [k0, k1, k2, k3]).set k0 a0).set k1 a1).set k2 a2).set k3 a3) L) : ForR (wkL K p xs) gg tb ⟨n0, r0, b0, c0⟩ σ L := by
  obtain ⟨L0, l0, q0⟩ := h0
  refine f_tups (SlW σ [k0, k1, k2, k3] P) ht ⟨L0, l0, rfl, q0⟩ (fun i σ1 L h => hG i L h.2) ?_ ?_
  · rintro i r t σ1 L hi m1 ⟨hσ, hP⟩
    obtain ⟨a0, a1, a2, a3, rfl⟩ := unw4 hσ
    exact hs i r t a0 a1 a2 a3 L hi m1 hP
  · rintro σ1 L ⟨hσ, hP⟩
    obtain ⟨a0, a1, a2, a3, rfl⟩ := unw4 hσ
    exact hd a0 a1 a2 a3 L hP
theorem unw5 {σ σ1 : St} {k0 k1 k2 k3 k4 : Nat} (h : wipe σ1 [k0, k1, k2, k3, k4] = wipe σ [k0, k1, k2, k3, k4]) : ∃ a0 a1 a2 a3 a4, σ1 = ((((((wipe σ [k0, k1, k2, k3, k4]).set k0 a0).set k1 a1).set k2 a2).set k3 a3).set k4 a4) := by
  generalize wipe σ [k0, k1, k2, k3, k4] = τ at h ⊢
  obtain ⟨a0, h⟩ := unset h
  obtain ⟨a1, h⟩ := unset h
  obtain ⟨a2, h⟩ := unset h
  obtain ⟨a3, h⟩ := unset h
  obtain ⟨a4, h⟩ := unset h
  exact ⟨a0, a1, a2, a3, a4, h⟩
def SlV5 (σ : St) (k0 k1 k2 k3 k4 : Nat) (P : Nat → Option V → Option V → Option V → Option V → Option V → Lg → Prop) : Nat → St → Lg → Prop := fun i σ1 L => ∃ a0 a1 a2 a3 a4, σ1 = ((((((wipe σ [k0, k1, k2, k3, k4]).set k0 a0).set k1 a1).set k2 a2).set k3 a3).set k4 a4) ∧ P i a0 a1 a2 a3 a4 L
theorem frv_5 {k0 k1 k2 k3 k4 : Nat} (P : Nat → Option V → Option V → Option V → Option V → Option V → Lg → Prop) (h0 : Wk (SlV5 σ k0 k1 k2 k3 k4 P 0 σ) L) (hs : ∀ (i : Nat) a0 a1 a2 a3 a4 L, i < n → P i a0 a1 a2 a3 a4 L → gg (.int (i : Int)) ((((((wipe σ [k0, k1, k2, k3, k4]).set k0 a0).set k1 a1).set k2 a2).set k3 a3).set k4 a4) L (fun σ2 L2 => tb ⟨SlV5 σ k0 k1 k2 k3 k4 P (i + 1), r0, n0, SlV5 σ k0 k1 k2 k3 k4 P (i + 1)⟩ σ2 L2)) (hd : ∀ a0 a1 a2 a3 a4 L, P n a0 a1 a2 a3 a4 L → n0 ((((((wipe σ [k0, k1, k2, k3, k4]).set k0 a0).set k1 a1).set k2 a2).set k3 a3).set k4 a4) L) : ForR (wkR 0 n) gg tb ⟨n0, r0, b0, c0⟩ σ L := by
  refine f_range0 (SlV5 σ k0 k1 k2 k3 k4 P) h0 ?_ ?_
  · rintro i σ1 L hi ⟨a0, a1, a2, a3, a4, rfl, hP⟩
    exact hs i a0 a1 a2 a3 a4 L hi hP
  · rintro σ1 L ⟨a0, a1, a2, a3, a4, rfl, hP⟩
    exact hd a0 a1 a2 a3 a4 L hP
theorem frnv_5 {k0 k1 k2 k3 k4 : Nat} (P : Nat → Option V → Option V → Option V → Option V → Option V → Lg → Prop) (h0 : Wk (SlV5 σ k0 k1 k2 k3 k4 P 0 σ) L) (hs : ∀ (i : Nat) a0 a1 a2 a3 a4 L, i < n → P i a0 a1 a2 a3 a4 L → gg (.int (lo + i)) ((((((wipe σ [k0, k1, k2, k3, k4]).set k0 a0).set k1 a1).set k2 a2).set k3 a3).set k4 a4) L (fun σ2 L2 => tb ⟨SlV5 σ k0 k1 k2 k3 k4 P (i + 1), r0, n0, SlV5 σ k0 k1 k2 k3 k4 P (i + 1)⟩ σ2 L2)) (hd : ∀ a0 a1 a2 a3 a4 L, P n a0 a1 a2 a3 a4 L → n0 ((((((wipe σ [k0, k1, k2, k3, k4]).set k0 a0).set k1 a1).set k2 a2).set k3 a3).set k4 a4) L) : ForR (wkR lo n) gg tb ⟨n0, r0, b0, c0⟩ σ L := by
  refine f_range (SlV5 σ k0 k1 k2 k3 k4 P) h0 ?_ ?_
  · rintro i σ1 L hi ⟨a0, a1, a2, a3, a4, rfl, hP⟩
    exact hs i a0 a1 a2 a3 a4 L hi hP
  · rintro σ1 L ⟨a0, a1, a2, a3, a4, rfl, hP⟩
    exact hd a0 a1 a2 a3 a4 L hP
theorem fiv_5 {k0 k1 k2 k3 k4 : Nat} (P : Nat → Option V → Option V → Option V → Option V → Option V → Lg → Prop) (hv : IntsV xs ns) (h0 : Wk (SlV5 σ k0 k1 k2 k3 k4 P 0 σ) L) (hG : ∀ i a0 a1 a2 a3 a4 L, P i a0 a1 a2 a3 a4 L → IsL K L p xs) (hs : ∀ (i : Nat) (x : Int) a0 a1 a2 a3 a4 L, ns[i]? = some x → P i a0 a1 a2 a3 a4 L → gg (.int x) ((((((wipe σ [k0, k1, k2, k3, k4]).set k0 a0).set k1 a1).set k2 a2).set k3 a3).set k4 a4) L (fun σ2 L2 => tb ⟨SlV5 σ k0 k1 k2 k3 k4 P (i + 1), r0, n0, SlV5 σ k0 k1 k2 k3 k4 P (i + 1)⟩ σ2 L2)) (hd : ∀ a0 a1 a2 a3 a4 L, P ns.length a0 a1 a2 a3 a4 L → n0 ((((((wipe σ [k0, k1, k2, k3, k4]).set k0 a0).set k1 a1).set k2 a2).set k3 a3).set k4 a4) L) : ForR (wkL K p xs) gg tb ⟨n0, r0, b0, c0⟩ σ L := by
  refine f_ints (SlV5 σ k0 k1 k2 k3 k4 P) hv h0 (fun i σ1 L ⟨a0, a1, a2, a3, a4, _, h⟩ => hG i a0 a1 a2 a3 a4 L h) ?_ ?_
  · rintro i x σ1 L hi ⟨a0, a1, a2, a3, a4, rfl, hP⟩
    exact hs i x a0 a1 a2 a3 a4 L hi hP
  · rintro σ1 L ⟨a0, a1, a2, a3, a4, rfl, hP⟩
    exact hd a0 a1 a2 a3 a4 L hP
theorem fvv_5 {k0 k1 k2 k3 k4 : Nat} (P : Nat → Option V → Option V → Option V → Option V → Option V → Lg → Prop) (h0 : Wk (SlV5 σ k0 k1 k2 k3 k4 P 0 σ) L) (hG : ∀ i a0 a1 a2 a3 a4 L, P i a0 a1 a2 a3 a4 L → IsL K L p (as.map V.ref)) (hs : ∀ (i : Nat) a0 a1 a2 a3 a4 L, i < as.length → P i a0 a1 a2 a3 a4 L → gg (.ref (adrAt as (i : Int))) ((((((wipe σ [k0, k1, k2, k3, k4]).set k0 a0).set k1 a1).set k2 a2).set k3 a3).set k4 a4) L (fun σ2 L2 => tb ⟨SlV5 σ k0 k1 k2 k3 k4 P (i + 1), r0, n0, SlV5 σ k0 k1 k2 k3 k4 P (i + 1)⟩ σ2 L2)) (hd : ∀ a0 a1 a2 a3 a4 L, P as.length a0 a1 a2 a3 a4 L → n0 ((((((wipe σ [k0, k1, k2, k3, k4]).set k0 a0).set k1 a1).set k2 a2).set k3 a3).set k4 a4) L) : ForR (wkL K p (as.map V.ref)) gg tb ⟨n0, r0, b0, c0⟩ σ L := by
  refine f_refs (SlV5 σ k0 k1 k2 k3 k4 P) h0 (fun i σ1 L ⟨a0, a1, a2, a3, a4, _, h⟩ => hG i a0 a1 a2 a3 a4 L h) ?_ ?_
  · rintro i σ1 L hi ⟨a0, a1, a2, a3, a4, rfl, hP⟩
    exact hs i a0 a1 a2 a3 a4 L hi hP
  · rintro σ1 L ⟨a0, a1, a2, a3, a4, rfl, hP⟩
    exact hd a0 a1 a2 a3 a4 L hP
theorem fpv_5 {k0 k1 k2 k3 k4 : Nat} (P : Nat → Option V → Option V → Option V → Option V → Option V → Lg → Prop) (ht : TelAll c xs (ws.map VM.dP)) (h0 : Wk (SlV5 σ k0 k1 k2 k3 k4 P 0 σ) L) (hG : ∀ i a0 a1 a2 a3 a4 L, P i a0 a1 a2 a3 a4 L → IsL K L p xs) (hs : ∀ (i : Nat) b r t a a0 a1 a2 a3 a4 L, ws[i]? = some (b, r) → (t, HO.tup [.int b, .ref a]) ∈ c → (a, HO.lst (r.map V.int)) ∈ c → P i a0 a1 a2 a3 a4 L → gg (.ref t) ((((((wipe σ [k0, k1, k2, k3, k4]).set k0 a0).set k1 a1).set k2 a2).set k3 a3).set k4 a4) L (fun σ2 L2 => tb ⟨SlV5 σ k0 k1 k2 k3 k4 P (i + 1), r0, n0, SlV5 σ k0 k1 k2 k3 k4 P (i + 1)⟩ σ2 L2)) (hd : ∀ a0 a1 a2 a3 a4 L, P ws.length a0 a1 a2 a3 a4 L → n0 ((((((wipe σ [k0, k1, k2, k3, k4]).set k0 a0).set k1 a1).set k2 a2).set k3 a3).set k4 a4) L) : ForR (wkL K p xs) gg tb ⟨n0, r0, b0, c0⟩ σ L := by
  refine f_pairs (SlV5 σ k0 k1 k2 k3 k4 P) ht h0 (fun i σ1 L ⟨a0, a1, a2, a3, a4, _, h⟩ => hG i a0 a1 a2 a3 a4 L h) ?_ ?_
  · rintro i b r t a σ1 L hi m1 m2 ⟨a0, a1, a2, a3, a4, rfl, hP⟩
    exact hs i b r t a a0 a1 a2 a3 a4 L hi m1 m2 hP
  · rintro σ1 L ⟨a0, a1, a2, a3, a4, rfl, hP⟩
    exact hd a0 a1 a2 a3 a4 L hP
theorem fqv_5 {k0 k1 k2 k3 k4 : Nat} (P : Nat → Option V → Option V → Option V → Option V → Option V → Lg → Prop) (ht : TelAll c xs (ts.map dT)) (h0 : Wk (SlV5 σ k0 k1 k2 k3 k4 P 0 σ) L) (hG : ∀ i a0 a1 a2 a3 a4 L, P i a0 a1 a2 a3 a4 L → IsL K L p xs) (hs : ∀ (i : Nat) r t a0 a1 a2 a3 a4 L, ts[i]? = some r → (t, HO.tup (r.map V.int)) ∈ c → P i a0 a1 a2 a3 a4 L → gg (.ref t) ((((((wipe σ [k0, k1, k2, k3, k4]).set k0 a0).set k1 a1).set k2 a2).set k3 a3).set k4 a4) L (fun σ2 L2 => tb ⟨SlV5 σ k0 k1 k2 k3 k4 P (i + 1), r0, n0, SlV5 σ k0 k1 k2 k3 k4 P (i + 1)⟩ σ2 L2)) (hd : ∀ a0 a1 a2 a3 a4 L, P ts.length a0 a1 a2 a3 a4 L → n0 ((((((wipe σ [k0, k1, k2, k3, k4]).set k0 a0).set k1 a1).set k2 a2).set k3 a3).set k4 a4) L) : ForR (wkL K p xs) gg tb ⟨n0, r0, b0, c0⟩ σ L := by
  refine f_tups (SlV5 σ k0 k1 k2 k3 k4 P) ht h0 (fun i σ1 L ⟨a0, a1, a2, a3, a4, _, h⟩ => hG i a0 a1 a2 a3 a4 L h) ?_ ?_
  · rintro i r t σ1 L hi m1 ⟨a0, a1, a2, a3, a4, rfl, hP⟩
    exact hs i r t a0 a1 a2 a3 a4 L hi m1 hP
  · rintro σ1 L ⟨a0, a1, a2, a3, a4, rfl, hP⟩
    exact hd a0 a1 a2 a3 a4 L hP
theorem fr_5 {k0 k1 k2 k3 k4 : Nat} (P : Nat → Lg → Prop) (h0 : Wk (P 0) L) (hs : ∀ (i : Nat) a0 a1 a2 a3 a4 L, i < n → P i L → gg (.int (i : Int)) ((((((wipe σ [k0, k1, k2, k3, k4]).set k0 a0).set k1 a1).set k2 a2).set k3 a3).set k4 a4) L (fun σ2 L2 => tb ⟨SlW σ [k0, k1, k2, k3, k4] P (i + 1), r0, n0, SlW σ [k0, k1, k2, k3, k4] P (i + 1)⟩ σ2 L2)) (hd : ∀ a0 a1 a2 a3 a4 L, P n L → n0 ((((((wipe σ [k0, k1, k2, k3, k4]).set k0 a0).set k1 a1).set k2 a2).set k3 a3).set k4 a4) L) : ForR (wkR 0 n) gg tb ⟨n0, r0, b0, c0⟩ σ L := by
  obtain ⟨L0, l0, q0⟩ := h0
  refine f_range0 (SlW σ [k0, k1, k2, k3, k4] P) ⟨L0, l0, rfl, q0⟩ ?_ ?_
  · rintro i σ1 L hi ⟨hσ, hP⟩
    obtain ⟨a0, a1, a2, a3, a4, rfl⟩ := unw5 hσ
    exact hs i a0 a1 a2 a3 a4 L hi hP
  · rintro σ1 L ⟨hσ, hP⟩
    obtain ⟨a0, a1, a2, a3, a4, rfl⟩ := unw5 hσ
    exact hd a0 a1 a2 a3 a4 L hP
theorem frn_5 {k0 k1 k2 k3 k4 : Nat} (P : Nat → Lg → Prop) (h0 : Wk (P 0) L) (hs : ∀ (i : Nat) a0 a1 a2 a3 a4 L, i < n → P i L → gg (.int (lo + i)) ((((((wipe σ [k0, k1, k2, k3, k4]).set k0 a0).set k1 a1).set k2 a2).set k3 a3).set k4 a4) L (fun σ2 L2 => tb ⟨SlW σ [k0, k1, k2, k3, k4] P (i + 1), r0, n0, SlW σ [k0, k1, k2, k3, k4] P (i + 1)⟩ σ2 L2)) (hd : ∀ a0 a1 a2 a3 a4 L, P n L → n0 ((((((wipe σ [k0, k1, k2, k3, k4]).set k0 a0).set k1 a1).set k2 a2).set k3 a3).set k4 a4) L) : ForR (wkR lo n) gg tb ⟨n0, r0, b0, c0⟩ σ L := by
  obtain ⟨L0, l0, q0⟩ := h0
  refine f_range (SlW σ [k0, k1, k2, k3, k4] P) ⟨L0, l0, rfl, q0⟩ ?_ ?_
  · rintro i σ1 L hi ⟨hσ, hP⟩
    obtain ⟨a0, a1, a2, a3, a4, rfl⟩ := unw5 hσ
    exact hs i a0 a1 a2 a3 a4 L hi hP
  · rintro σ1 L ⟨hσ, hP⟩
    obtain ⟨a0, a1, a2, a3, a4, rfl⟩ := unw5 hσ
    exact hd a0 a1 a2 a3 a4 L hP
theorem fi_5 {k0 k1 k2 k3 k4 : Nat} (P : Nat → Lg → Prop) (hv : IntsV xs ns) (h0 : Wk (P 0) L) (hG : ∀ i L, P i L → IsL K L p xs) (hs : ∀ (i : Nat) (x : Int) a0 a1 a2 a3 a4 L, ns[i]? = some x → P i L → gg (.int x) ((((((wipe σ [k0, k1, k2, k3, k4]).set k0 a0).set k1 a1).set k2 a2).set k3 a3).set k4 a4) L (fun σ2 L2 => tb ⟨SlW σ [k0, k1, k2, k3, k4] P (i + 1), r0, n0, SlW σ [k0, k1, k2, k3, k4] P (i + 1)⟩ σ2 L2)) (hd : ∀ a0 a1 a2 a3 a4 L, P ns.length L → n0 ((((((wipe σ [k0, k1, k2, k3, k4]).set k0 a0).set k1 a1).set k2 a2).set k3 a3).set k4 a4) L) : ForR (wkL K p xs) gg tb ⟨n0, r0, b0, c0⟩ σ L := by
  obtain ⟨L0, l0, q0⟩ := h0
  refine f_ints (SlW σ [k0, k1, k2, k3, k4] P) hv ⟨L0, l0, rfl, q0⟩ (fun i σ1 L h => hG i L h.2) ?_ ?_
  · rintro i x σ1 L hi ⟨hσ, hP⟩
    obtain ⟨a0, a1, a2, a3, a4, rfl⟩ := unw5 hσ
    exact hs i x a0 a1 a2 a3 a4 L hi hP
  · rintro σ1 L ⟨hσ, hP⟩
    obtain ⟨a0, a1, a2, a3, a4, rfl⟩ := unw5 hσ
    exact hd a0 a1 a2 a3 a4 L hP
theorem fv_5 {k0 k1 k2 k3 k4 : Nat} (P : Nat → Lg → Prop) (h0 : Wk (P 0) L) (hG : ∀ i L, P i L → IsL K L p (as.map V.ref)) (hs : ∀ (i : Nat) a0 a1 a2 a3 a4 L, i < as.length → P i L → gg (.ref (adrAt as (i : Int))) ((((((wipe σ [k0, k1, k2, k3, k4]).set k0 a0).set k1 a1).set k2 a2).set k3 a3).set k4 a4) L (fun σ2 L2 => tb ⟨SlW σ [k0, k1, k2, k3, k4] P (i + 1), r0, n0, SlW σ [k0, k1, k2, k3, k4] P (i + 1)⟩ σ2 L2)) (hd : ∀ a0 a1 a2 a3 a4 L, P as.length L → n0 ((((((wipe σ [k0, k1, k2, k3, k4]).set k0 a0).set k1 a1).set k2 a2).set k3 a3).set k4 a4) L) : ForR (wkL K p (as.map V.ref)) gg tb ⟨n0, r0, b0, c0⟩ σ L := by
  obtain ⟨L0, l0, q0⟩ := h0
  refine f_refs (SlW σ [k0, k1, k2, k3, k4] P) ⟨L0, l0, rfl, q0⟩ (fun i σ1 L h => hG i L h.2) ?_ ?_
  · rintro i σ1 L hi ⟨hσ, hP⟩
    obtain ⟨a0, a1, a2, a3, a4, rfl⟩ := unw5 hσ
    exact hs i a0 a1 a2 a3 a4 L hi hP
  · rintro σ1 L ⟨hσ, hP⟩
    obtain ⟨a0, a1, a2, a3, a4, rfl⟩ := unw5 hσ
    exact hd a0 a1 a2 a3 a4 L hP
theorem fl_5 {k0 k1 k2 k3 k4 : Nat} (P : Nat → Lg → Prop) (h0 : Wk (P 0) L) (hG : ∀ i L, P i L → IsL K L p xs) (hs : ∀ (i : Nat) (x : V) a0 a1 a2 a3 a4 L, xs[i]? = some x → P i L → gg x ((((((wipe σ [k0, k1, k2, k3, k4]).set k0 a0).set k1 a1).set k2 a2).set k3 a3).set k4 a4) L (fun σ2 L2 => tb ⟨SlW σ [k0, k1, k2, k3, k4] P (i + 1), r0, n0, SlW σ [k0, k1, k2, k3, k4] P (i + 1)⟩ σ2 L2)) (hd : ∀ a0 a1 a2 a3 a4 L, P xs.length L → n0 ((((((wipe σ [k0, k1, k2, k3, k4]).set k0 a0).set k1 a1).set k2 a2).set k3 a3).set k4 a4) L) : ForR (wkL K p xs) gg tb ⟨n0, r0, b0, c0⟩ σ L := by
  obtain ⟨L0, l0, q0⟩ := h0
  refine f_list (SlW σ [k0, k1, k2, k3, k4] P) ⟨L0, l0, rfl, q0⟩ (fun i σ1 L h => hG i L h.2) ?_ ?_
  · rintro i x σ1 L hi ⟨hσ, hP⟩
    obtain ⟨a0, a1, a2, a3, a4, rfl⟩ := unw5 hσ
    exact hs i x a0 a1 a2 a3 a4 L hi hP
  · rintro σ1 L ⟨hσ, hP⟩
    obtain ⟨a0, a1, a2, a3, a4, rfl⟩ := unw5 hσ
    exact hd a0 a1 a2 a3 a4 L hP
theorem ft_5 {k0 k1 k2 k3 k4 : Nat} (P : Nat → Lg → Prop) (h0 : Wk (P 0) L) (hG : ∀ i L, P i L → IsT K L p xs) (hs : ∀ (i : Nat) (x : V) a0 a1 a2 a3 a4 L, xs[i]? = some x → P i L → gg x ((((((wipe σ [k0, k1, k2, k3, k4]).set k0 a0).set k1 a1).set k2 a2).set k3 a3).set k4 a4) L (fun σ2 L2 => tb ⟨SlW σ [k0, k1, k2, k3, k4] P (i + 1), r0, n0, SlW σ [k0, k1, k2, k3, k4] P (i + 1)⟩ σ2 L2)) (hd : ∀ a0 a1 a2 a3 a4 L, P xs.length L → n0 ((((((wipe σ [k0, k1, k2, k3, k4]).set k0 a0).set k1 a1).set k2 a2).set k3 a3).set k4 a4) L) : ForR (wkT K p xs) gg tb ⟨n0, r0, b0, c0⟩ σ L := by
  obtain ⟨L0, l0, q0⟩ := h0
  refine f_tup (SlW σ [k0, k1, k2, k3, k4] P) ⟨L0, l0, rfl, q0⟩ (fun i σ1 L h => hG i L h.2) ?_ ?_
  · rintro i x σ1 L hi ⟨hσ, hP⟩
    obtain ⟨a0, a1, a2, a3, a4, rfl⟩ := unw5 hσ
    exact hs i x a0 a1 a2 a3 a4 L hi hP
  · rintro σ1 L ⟨hσ, hP⟩
    obtain ⟨a0, a1, a2, a3, a4, rfl⟩ := unw5 hσ
    exact hd a0 a1 a2 a3 a4 L hP
theorem fp_5 {k0 k1 k2 k3 k4 : Nat} (P : Nat → Lg → Prop) (ht : TelAll c xs (ws.map VM.dP)) (h0 : Wk (P 0) L) (hG : ∀ i L, P i L → IsL K L p xs) (hs : ∀ (i : Nat) b r t a a0 a1 a2 a3 a4 L, ws[i]? = some (b, r) → (t, HO.tup [.int b, .ref a]) ∈ c → (a, HO.lst (r.map V.int)) ∈ c → P i L → gg (.ref t) ((((((wipe σ [k0, k1, k2, k3, k4]).set k0 a0).set k1 a1).set k2 a2).set k3 a3).set k4 a4) L (fun σ2 L2 => tb ⟨SlW σ [k0, k1, k2, k3, k4] P (i + 1), r0, n0, SlW σ [k0, k1, k2, k3, k4] P (i + 1)⟩ σ2 L2)) (hd : ∀ a0 a1 a2 a3 a4 L, P ws.length L → n0 ((((((wipe σ [k0, k1, k2, k3, k4]).set k0 a0).set k1 a1).set k2 a2).set k3 a3).set k4 a4) L) : ForR (wkL K p xs) gg tb ⟨n0, r0, b0, c0⟩ σ L := by
  obtain ⟨L0, l0, q0⟩ := h0
  refine f_pairs (SlW σ [k0, k1, k2, k3, k4] P) ht ⟨L0, l0, rfl, q0⟩ (fun i σ1 L h => hG i L h.2) ?_ ?_
  · rintro i b r t a σ1 L hi m1 m2 ⟨hσ, hP⟩
    obtain ⟨a0, a1, a2, a3, a4, rfl⟩ := unw5 hσ
    exact hs i b r t a a0 a1 a2 a3 a4 L hi m1 m2 hP
  · rintro σ1 L ⟨hσ, hP⟩
    obtain ⟨a0, a1, a2, a3, a4, rfl⟩ := unw5 hσ
    exact hd a0 a1 a2 a3 a4 L hP
theorem fit_5 {k0 k1 k2 k3 k4 : Nat} (P : Nat → Lg → Prop) (hv : IntsV xs ns) (h0 : Wk (P 0) L) (hG : ∀ i L, P i L → IsT K L p xs) (hs : ∀ (i : Nat) (x : Int) a0 a1 a2 a3 a4 L, ns[i]? = some x → P i L → gg (.int x) ((((((wipe σ [k0, k1, k2, k3, k4]).set k0 a0).set k1 a1).set k2 a2).set k3 a3).set k4 a4) L (fun σ2 L2 => tb ⟨SlW σ [k0, k1, k2, k3, k4] P (i + 1), r0, n0, SlW σ [k0, k1, k2, k3, k4] P (i + 1)⟩ σ2 L2)) (hd : ∀ a0 a1 a2 a3 a4 L, P ns.length L → n0 ((((((wipe σ [k0, k1, k2, k3, k4]).set k0 a0).set k1 a1).set k2 a2).set k3 a3).set k4 a4) L) : ForR (wkT K p xs) gg tb ⟨n0, r0, b0, c0⟩ σ L := by
  obtain ⟨L0, l0, q0⟩ := h0
  refine f_intsT (SlW σ [k0, k1, k2, k3, k4] P) hv ⟨L0, l0, rfl, q0⟩ (fun i σ1 L h => hG i L h.2) ?_ ?_
  · rintro i x σ1 L hi ⟨hσ, hP⟩
    obtain ⟨a0, a1, a2, a3, a4, rfl⟩ := unw5 hσ
    exact hs i x a0 a1 a2 a3 a4 L hi hP
  · rintro σ1 L ⟨hσ, hP⟩
    obtain ⟨a0, a1, a2, a3, a4, rfl⟩ := unw5 hσ
    exact hd a0 a1 a2 a3 a4 L hP
theorem fq_5 {k0 k1 k2 k3 k4 : Nat} (P : Nat → Lg → Prop) (ht : TelAll c xs (ts.map dT)) (h0 : Wk (P 0) L) (hG : ∀ i L, P i L → IsL K L p xs) (hs : ∀ (i : Nat) r t a0 a1 a2 a3 a4 L, ts[i]? = some r → (t, HO.tup (r.map V.int)) ∈ c → P i L → gg (.ref t) ((((((wipe σ [k0, k1, k2, k3, k4]).set k0 a0).set k1 a1).set k2 a2).set k3 a3).set k4 a4) L (fun σ2 L2 => tb ⟨SlW σ [k0, k1, k2, k3, k4] P (i + 1), r0, n0, SlW σ [k0, k1, k2, k3, k4] P (i + 1)⟩ σ2 L2)) (hd : ∀ a0 a1 a2 a3 a4 L, P ts.length L → n0 ((((((wipe σ [k0, k1, k2, k3, k4]).set k0 a0).set k1 a1).set k2 a2).set k3 a3).set k4 a4) L) : ForR (wkL K p xs) gg tb ⟨n0, r0, b0, c0⟩ σ L := by
  obtain ⟨L0, l0, q0⟩ := h0
  refine f_tups (SlW σ [k0, k1, k2, k3, k4] P) ht ⟨L0, l0, rfl, q0⟩ (fun i σ1 L h => hG i L h.2) ?_ ?_
  · rintro i r t σ1 L hi m1 ⟨hσ, hP⟩
    obtain ⟨a0, a1, a2, a3, a4, rfl⟩ := unw5 hσ
    exact hs i r t a0 a1 a2 a3 a4 L hi m1 hP
  · rintro σ1 L ⟨hσ, hP⟩
    obtain ⟨a0, a1, a2, a3, a4, rfl⟩ := unw5 hσ
    exact hd a0 a1 a2 a3 a4 L hP
theorem unw6 {σ σ1 : St} {k0 k1 k2 k3 k4 k5 : Nat} (h : wipe σ1 [k0, k1, k2, k3, k4, k5] = wipe σ [k0, k1, k2, k3, k4, k5]) : ∃ a0 a1 a2 a3 a4 a5, σ1 = (((((((wipe σ [k0, k1, k2, k3, k4, k5]).set k0 a0).set k1 a1).set k2 a2).set k3 a3).set k4 a4).set k5 a5) := by
  generalize wipe σ [k0, k1, k2, k3, k4, k5] = τ at h ⊢
  obtain ⟨a0, h⟩ := unset h
  obtain ⟨a1, h⟩ := unset h
  obtain ⟨a2, h⟩ := unset h
  obtain ⟨a3, h⟩ := unset h
  obtain ⟨a4, h⟩ := unset h
  obtain ⟨a5, h⟩ := unset h
  exact ⟨a0, a1, a2, a3, a4, a5, h⟩
def SlV6 (σ : St) (k0 k1 k2 k3 k4 k5 : Nat) (P : Nat → Option V → Option V → Option V → Option V → Option V → Option V → Lg → Prop) : Nat → St → Lg → Prop := fun i σ1 L => ∃ a0 a1 a2 a3 a4 a5, σ1 = (((((((wipe σ [k0, k1, k2, k3, k4, k5]).set k0 a0).set k1 a1).set k2 a2).set k3 a3).set k4 a4).set k5 a5) ∧ P i a0 a1 a2 a3 a4 a5 L
theorem frv_6 {k0 k1 k2 k3 k4 k5 : Nat} (P : Nat → Option V → Option V → Option V → Option V → Option V → Option V → Lg → Prop) (h0 : Wk (SlV6 σ k0 k1 k2 k3 k4 k5 P 0 σ) L) (hs : ∀ (i : Nat) a0 a1 a2 a3 a4 a5 L, i < n → P i a0 a1 a2 a3 a4 a5 L → gg (.int (i : Int)) (((((((wipe σ [k0, k1, k2, k3, k4, k5]).set k0 a0).set k1 a1).set k2 a2).set k3 a3).set k4 a4).set k5 a5) L (fun σ2 L2 => tb ⟨SlV6 σ k0 k1 k2 k3 k4 k5 P (i + 1), r0, n0, SlV6 σ k0 k1 k2 k3 k4 k5 P (i + 1)⟩ σ2 L2)) (hd : ∀ a0 a1 a2 a3 a4 a5 L, P n a0 a1 a2 a3 a4 a5 L → n0 (((((((wipe σ [k0, k1, k2, k3, k4, k5]).set k0 a0).set k1 a1).set k2 a2).set k3 a3).set k4 a4).set k5 a5) L) : ForR (wkR 0 n) gg tb ⟨n0, r0, b0, c0⟩ σ L := by
  refine f_range0 (SlV6 σ k0 k1 k2 k3 k4 k5 P) h0 ?_ ?_
  · rintro i σ1 L hi ⟨a0, a1, a2, a3, a4, a5, rfl, hP⟩
    exact hs i a0 a1 a2 a3 a4 a5 L hi hP
  · rintro σ1 L ⟨a0, a1, a2, a3, a4, a5, rfl, hP⟩
    exact hd a0 a1 a2 a3 a4 a5 L hP
theorem frnv_6 {k0 k1 k2 k3 k4 k5 : Nat} (P : Nat → Option V → Option V → Option V → Option V → Option V → Option V → Lg → Prop) (h0 : Wk (SlV6 σ k0 k1 k2 k3 k4 k5 P 0 σ) L) (hs : ∀ (i : Nat) a0 a1 a2 a3 a4 a5 L, i < n → P i a0 a1 a2 a3 a4 a5 L → gg (.int (lo + i)) (((((((wipe σ [k0, k1, k2, k3, k4, k5]).set k0 a0).set k1 a1).set k2 a2).set k3 a3).set k4 a4).set k5 a5) L (fun σ2 L2 => tb ⟨SlV6 σ k0 k1 k2 k3 k4 k5 P (i + 1), r0, n0, SlV6 σ k0 k1 k2 k3 k4 k5 P (i + 1)⟩ σ2 L2)) (hd : ∀ a0 a1 a2 a3 a4 a5 L, P n a0 a1 a2 a3 a4 a5 L → n0 (((((((wipe σ [k0, k1, k2, k3, k4, k5]).set k0 a0).set k1 a1).set k2 a2).set k3 a3).set k4 a4).set k5 a5) L) : ForR (wkR lo n) gg tb ⟨n0, r0, b0, c0⟩ σ L := by
  refine f_range (SlV6 σ k0 k1 k2 k3 k4 k5 P) h0 ?_ ?_
  · rintro i σ1 L hi ⟨a0, a1, a2, a3, a4, a5, rfl, hP⟩
    exact hs i a0 a1 a2 a3 a4 a5 L hi hP
  · rintro σ1 L ⟨a0, a1, a2, a3, a4, a5, rfl, hP⟩
    exact hd a0 a1 a2 a3 a4 a5 L hP
theorem fiv_6 {k0 k1 k2 k3 k4 k5 : Nat} (P : Nat → Option V → Option V → Option V → Option V → Option V → Option V → Lg → Prop) (hv : IntsV xs ns) (h0 : Wk (SlV6 σ k0 k1 k2 k3 k4 k5 P 0 σ) L) (hG : ∀ i a0 a1 a2 a3 a4 a5 L, P i a0 a1 a2 a3 a4 a5 L → IsL K L p xs) (hs : ∀ (i : Nat) (x : Int) a0 a1 a2 a3 a4 a5 L, ns[i]? = some x → P i a0 a1 a2 a3 a4 a5 L → gg (.int x) (((((((wipe σ [k0, k1, k2, k3, k4, k5]).set k0 a0).set k1 a1).set k2 a2).set k3 a3).set k4 a4).set k5 a5) L (fun σ2 L2 => tb ⟨SlV6 σ k0 k1 k2 k3 k4 k5 P (i + 1), r0, n0, SlV6 σ k0 k1 k2 k3 k4 k5 P (i + 1)⟩ σ2 L2)) (hd : ∀ a0 a1 a2 a3 a4 a5 L, P ns.length a0 a1 a2 a3 a4 a5 L → n0 (((((((wipe σ [k0, k1, k2, k3, k4, k5]).set k0 a0).set k1 a1).set k2 a2).set k3 a3).set k4 a4).set k5 a5) L) : ForR (wkL K p xs) gg tb ⟨n0, r0, b0, c0⟩ σ L := by
  refine f_ints (SlV6 σ k0 k1 k2 k3 k4 k5 P) hv h0 (fun i σ1 L ⟨a0, a1, a2, a3, a4, a5, _, h⟩ => hG i a0 a1 a2 a3 a4 a5 L h) ?_ ?_
  · rintro i x σ1 L hi ⟨a0, a1, a2, a3, a4, a5, rfl, hP⟩
    exact hs i x a0 a1 a2 a3 a4 a5 L hi hP
  · rintro σ1 L ⟨a0, a1, a2, a3, a4, a5, rfl, hP⟩
    exact hd a0 a1 a2 a3 a4 a5 L hP
theorem fvv_6 {k0 k1 k2 k3 k4 k5 : Nat} (P : Nat → Option V → Option V → Option V → Option V → Option V → Option V → Lg → Prop) (h0 : Wk (SlV6 σ k0 k1 k2 k3 k4 k5 P 0 σ) L) (hG : ∀ i a0 a1 a2 a3 a4 a5 L, P i a0 a1 a2 a3 a4 a5 L → IsL K L p (as.map V.ref)) (hs : ∀ (i : Nat) a0 a1 a2 a3 a4 a5 L, i < as.length → P i a0 a1 a2 a3 a4 a5 L → gg (.ref (adrAt as (i : Int))) (((((((wipe σ [k0, k1, k2, k3, k4, k5]).set k0 a0).set k1 a1).set k2 a2).set k3 a3).set k4 a4).set k5 a5) L (fun σ2 L2 => tb ⟨SlV6 σ k0 k1 k2 k3 k4 k5 P (i + 1), r0, n0, SlV6 σ k0 k1 k2 k3 k4 k5 P (i + 1)⟩ σ2 L2)) (hd : ∀ a0 a1 a2 a3 a4 a5 L, P as.length a0 a1 a2 a3 a4 a5 L → n0 (((((((wipe σ [k0, k1, k2, k3, k4, k5]).set k0 a0).set k1 a1).set k2 a2).set k3 a3).set k4 a4).set k5 a5) L) : ForR (wkL K p (as.map V.ref)) gg tb ⟨n0, r0, b0, c0⟩ σ L := by
  refine f_refs (SlV6 σ k0 k1 k2 k3 k4 k5 P) h0 (fun i σ1 L ⟨a0, a1, a2, a3, a4, a5, _, h⟩ => hG i a0 a1 a2 a3 a4 a5 L h) ?_ ?_
  · rintro i σ1 L hi ⟨a0, a1, a2, a3, a4, a5, rfl, hP⟩
    exact hs i a0 a1 a2 a3 a4 a5 L hi hP
  · rintro σ1 L ⟨a0, a1, a2, a3, a4, a5, rfl, hP⟩
    exact hd a0 a1 a2 a3 a4 a5 L hP
theorem fpv_6 {k0 k1 k2 k3 k4 k5 : Nat} (P : Nat → Option V → Option V → Option V → Option V → Option V → Option V → Lg → Prop) (ht : TelAll c xs (ws.map VM.dP)) (h0 : Wk (SlV6 σ k0 k1 k2 k3 k4 k5 P 0 σ) L) (hG : ∀ i a0 a1 a2 a3 a4 a5 L, P i a0 a1 a2 a3 a4 a5 L → IsL K L p xs) (hs : ∀ (i : Nat) b r t a a0 a1 a2 a3 a4 a5 L, ws[i]? = some (b, r) → (t, HO.tup [.int b, .ref a]) ∈ c → (a, HO.lst (r.map V.int)) ∈ c → P i a0 a1 a2 a3 a4 a5 L → gg (.ref t) (((((((wipe σ [k0, k1, k2, k3, k4, k5]).set k0 a0).set k1 a1).set k2 a2).set k3 a3).set k4 a4).set k5 a5) L (fun σ2 L2 => tb ⟨SlV6 σ k0 k1 k2 k3 k4 k5 P (i + 1), r0, n0, SlV6 σ k0 k1 k2 k3 k4 k5 P (i + 1)⟩ σ2 L2)) (hd : ∀ a0 a1 a2 a3 a4 a5 L, P ws.length a0 a1 a2 a3 a4 a5 L → n0 (((((((wipe σ [k0, k1, k2, k3, k4, k5]).set k0 a0).set k1 a1).set k2 a2).set k3 a3).set k4 a4).set k5 a5) L) : ForR (wkL K p xs) gg tb ⟨n0, r0, b0, c0⟩ σ L := by
  refine f_pairs (SlV6 σ k0 k1 k2 k3 k4 k5 P) ht h0 (fun i σ1 L ⟨a0, a1, a2, a3, a4, a5, _, h⟩ => hG i a0 a1 a2 a3 a4 a5 L h) ?_ ?_
  · rintro i b r t a σ1 L hi m1 m2 ⟨a0, a1, a2, a3, a4, a5, rfl, hP⟩
    exact hs i b r t a a0 a1 a2 a3 a4 a5 L hi m1 m2 hP
  · rintro σ1 L ⟨a0, a1, a2, a3, a4, a5, rfl, hP⟩
    exact hd a0 a1 a2 a3 a4 a5 L hP
theorem fqv_6 {k0 k1 k2 k3 k4 k5 : Nat} (P : Nat → Option V → Option V → Option V → Option V → Option V → Option V → Lg → Prop) (ht : TelAll c xs (ts.map dT)) (h0 : Wk (SlV6 σ k0 k1 k2 k3 k4 k5 P 0 σ) L) (hG : ∀ i a0 a1 a2 a3 a4 a5 L, P i a0 a1 a2 a3 a4 a5 L → IsL K L p xs) (hs : ∀ (i : Nat) r t a0 a1 a2 a3 a4 a5 L, ts[i]? = some r → (t, HO.tup (r.map V.int)) ∈ c → P i a0 a1 a2 a3 a4 a5 L → gg (.ref t) (((((((wipe σ [k0, k1, k2, k3, k4, k5]).set k0 a0).set k1 a1).set k2 a2).set k3 a3).set k4 a4).set k5 a5) L (fun σ2 L2 => tb ⟨SlV6 σ k0 k1 k2 k3 k4 k5 P (i + 1), r0, n0, SlV6 σ k0 k1 k2 k3 k4 k5 P (i + 1)⟩ σ2 L2)) (hd : ∀ a0 a1 a2 a3 a4 a5 L, P ts.length a0 a1 a2 a3 a4 a5 L → n0 (((((((wipe σ [k0, k1, k2, k3, k4, k5]).set k0 a0).set k1 a1).set k2 a2).set k3 a3).set k4 a4).set k5 a5) L) : ForR (wkL K p xs) gg tb ⟨n0, r0, b0, c0⟩ σ L := by
  refine f_tups (SlV6 σ k0 k1 k2 k3 k4 k5 P) ht h0 (fun i σ1 L ⟨a0, a1, a2, a3, a4, a5, _, h⟩ => hG i a0 a1 a2 a3 a4 a5 L h) ?_ ?_
  · rintro i r t σ1 L hi m1 ⟨a0, a1, a2, a3, a4, a5, rfl, hP⟩
    exact hs i r t a0 a1 a2 a3 a4 a5 L hi m1 hP
  · rintro σ1 L ⟨a0, a1, a2, a3, a4, a5, rfl, hP⟩
    exact hd a0 a1 a2 a3 a4 a5 L hP
theorem fr_6 {k0 k1 k2 k3 k4 k5 : Nat} (P : Nat → Lg → Prop) (h0 : Wk (P 0) L) (hs : ∀ (i : Nat) a0 a1 a2 a3 a4 a5 L, i < n → P i L → gg (.int (i : Int)) (((((((wipe σ [k0, k1, k2, k3, k4, k5]).set k0 a0).set k1 a1).set k2 a2).set k3 a3).set k4 a4).set k5 a5) L (fun σ2 L2 => tb ⟨SlW σ [k0, k1, k2, k3, k4, k5] P (i + 1), r0, n0, SlW σ [k0, k1, k2, k3, k4, k5] P (i + 1)⟩ σ2 L2)) (hd : ∀ a0 a1 a2 a3 a4 a5 L, P n L → n0 (((((((wipe σ [k0, k1, k2, k3, k4, k5]).set k0 a0).set k1 a1).set k2 a2).set k3 a3).set k4 a4).set k5 a5) L) : ForR (wkR 0 n) gg tb ⟨n0, r0, b0, c0⟩ σ L := by
  obtain ⟨L0, l0, q0⟩ := h0
  refine f_range0 (SlW σ [k0, k1, k2, k3, k4, k5] P) ⟨L0, l0, rfl, q0⟩ ?_ ?_
  · rintro i σ1 L hi ⟨hσ, hP⟩
    obtain ⟨a0, a1, a2, a3, a4, a5, rfl⟩ := unw6 hσ
    exact hs i a0 a1 a2 a3 a4 a5 L hi hP
  · rintro σ1 L ⟨hσ, hP⟩
    obtain ⟨a0, a1, a2, a3, a4, a5, rfl⟩ := unw6 hσ
    exact hd a0 a1 a2 a3 a4 a5 L hP
theorem frn_6 {k0 k1 k2 k3 k4 k5 : Nat} (P : Nat → Lg → Prop) (h0 : Wk (P 0) L) (hs : ∀ (i : Nat) a0 a1 a2 a3 a4 a5 L, i < n → P i L → gg (.int (lo + i)) (((((((wipe σ [k0, k1, k2, k3, k4, k5]).set k0 a0).set k1 a1).set k2 a2).set k3 a3).set k4 a4).set k5 a5) L (fun σ2 L2 => tb ⟨SlW σ [k0, k1, k2, k3, k4, k5] P (i + 1), r0, n0, SlW σ [k0, k1, k2, k3, k4, k5] P (i + 1)⟩ σ2 L2)) (hd : ∀ a0 a1 a2 a3 a4 a5 L, P n L → n0 (((((((wipe σ [k0, k1, k2, k3, k4, k5]).set k0 a0).set k1 a1).set k2 a2).set k3 a3).set k4 a4).set k5 a5) L) : ForR (wkR lo n) gg tb ⟨n0, r0, b0, c0⟩ σ L := by
  obtain ⟨L0, l0, q0⟩ := h0
  refine f_range (SlW σ [k0, k1, k2, k3, k4, k5] P) ⟨L0, l0, rfl, q0⟩ ?_ ?_
  · rintro i σ1 L hi ⟨hσ, hP⟩
    obtain ⟨a0, a1, a2, a3, a4, a5, rfl⟩ := unw6 hσ
    exact hs i a0 a1 a2 a3 a4 a5 L hi hP
  · rintro σ1 L ⟨hσ, hP⟩
    obtain ⟨a0, a1, a2, a3, a4, a5, rfl⟩ := unw6 hσ
    exact hd a0 a1 a2 a3 a4 a5 L hP
theorem fi_6 {k0 k1 k2 k3 k4 k5 : Nat} (P : Nat → Lg → Prop) (hv : IntsV xs ns) (h0 : Wk (P 0) L) (hG : ∀ i L, P i L → IsL K L p xs) (hs : ∀ (i : Nat) (x : Int) a0 a1 a2 a3 a4 a5 L, ns[i]? = some x → P i L → gg (.int x) (((((((wipe σ [k0, k1, k2, k3, k4, k5]).set k0 a0).set k1 a1).set k2 a2).set k3 a3).set k4 a4).set k5 a5) L (fun σ2 L2 => tb ⟨SlW σ [k0, k1, k2, k3, k4, k5] P (i + 1), r0, n0, SlW σ [k0, k1, k2, k3, k4, k5] P (i + 1)⟩ σ2 L2)) (hd : ∀ a0 a1 a2 a3 a4 a5 L, P ns.length L → n0 (((((((wipe σ [k0, k1, k2, k3, k4, k5]).set k0 a0).set k1 a1).set k2 a2).set k3 a3).set k4 a4).set k5 a5) L) : ForR (wkL K p xs) gg tb ⟨n0, r0, b0, c0⟩ σ L := by
  obtain ⟨L0, l0, q0⟩ := h0
  refine f_ints (SlW σ [k0, k1, k2, k3, k4, k5] P) hv ⟨L0, l0, rfl, q0⟩ (fun i σ1 L h => hG i L h.2) ?_ ?_
  · rintro i x σ1 L hi ⟨hσ, hP⟩
    obtain ⟨a0, a1, a2, a3, a4, a5, rfl⟩ := unw6 hσ
    exact hs i x a0 a1 a2 a3 a4 a5 L hi hP
  · rintro σ1 L ⟨hσ, hP⟩
    obtain ⟨a0, a1, a2, a3, a4, a5, rfl⟩ := unw6 hσ
    exact hd a0 a1 a2 a3 a4 a5 L hP
theorem fv_6 {k0 k1 k2 k3 k4 k5 : Nat} (P : Nat → Lg → Prop) (h0 : Wk (P 0) L) (hG : ∀ i L, P i L → IsL K L p (as.map V.ref)) (hs : ∀ (i : Nat) a0 a1 a2 a3 a4 a5 L, i < as.length → P i L → gg (.ref (adrAt as (i : Int))) (((((((wipe σ [k0, k1, k2, k3, k4, k5]).set k0 a0).set k1 a1).set k2 a2).set k3 a3).set k4 a4).set k5 a5) L (fun σ2 L2 => tb ⟨SlW σ [k0, k1, k2, k3, k4, k5] P (i + 1), r0, n0, SlW σ [k0, k1, k2, k3, k4, k5] P (i + 1)⟩ σ2 L2)) (hd : ∀ a0 a1 a2 a3 a4 a5 L, P as.length L → n0 (((((((wipe σ [k0, k1, k2, k3, k4, k5]).set k0 a0).set k1 a1).set k2 a2).set k3 a3).set k4 a4).set k5 a5) L) : ForR (wkL K p (as.map V.ref)) gg tb ⟨n0, r0, b0, c0⟩ σ L := by
  obtain ⟨L0, l0, q0⟩ := h0
  refine f_refs (SlW σ [k0, k1, k2, k3, k4, k5] P) ⟨L0, l0, rfl, q0⟩ (fun i σ1 L h => hG i L h.2) ?_ ?_
  · rintro i σ1 L hi ⟨hσ, hP⟩
    obtain ⟨a0, a1, a2, a3, a4, a5, rfl⟩ := unw6 hσ
    exact hs i a0 a1 a2 a3 a4 a5 L hi hP
  · rintro σ1 L ⟨hσ, hP⟩
    obtain ⟨a0, a1, a2, a3, a4, a5, rfl⟩ := unw6 hσ
    exact hd a0 a1 a2 a3 a4 a5 L hP
theorem fl_6 {k0 k1 k2 k3 k4 k5 : Nat} (P : Nat → Lg → Prop) (h0 : Wk (P 0) L) (hG : ∀ i L, P i L → IsL K L p xs) (hs : ∀ (i : Nat) (x : V) a0 a1 a2 a3 a4 a5 L, xs[i]? = some x → P i L → gg x (((((((wipe σ [k0, k1, k2, k3, k4, k5]).set k0 a0).set k1 a1).set k2 a2).set k3 a3).set k4 a4).set k5 a5) L (fun σ2 L2 => tb ⟨SlW σ [k0, k1, k2, k3, k4, k5] P (i + 1), r0, n0, SlW σ [k0, k1, k2, k3, k4, k5] P (i + 1)⟩ σ2 L2)) (hd : ∀ a0 a1 a2 a3 a4 a5 L, P xs.length L → n0 (((((((wipe σ [k0, k1, k2, k3, k4, k5]).set k0 a0).set k1 a1).set k2 a2).set k3 a3).set k4 a4).set k5 a5) L) : ForR (wkL K p xs) gg tb ⟨n0, r0, b0, c0⟩ σ L := by
  obtain ⟨L0, l0, q0⟩ := h0
  refine f_list (SlW σ [k0, k1, k2, k3, k4, k5] P) ⟨L0, l0, rfl, q0⟩ (fun i σ1 L h => hG i L h.2) ?_ ?_
  · rintro i x σ1 L hi ⟨hσ, hP⟩
    obtain ⟨a0, a1, a2, a3, a4, a5, rfl⟩ := unw6 hσ
    exact hs i x a0 a1 a2 a3 a4 a5 L hi hP
  · rintro σ1 L ⟨hσ, hP⟩
    obtain ⟨a0, a1, a2, a3, a4, a5, rfl⟩ := unw6 hσ
    exact hd a0 a1 a2 a3 a4 a5 L hP
theorem ft_6 {k0 k1 k2 k3 k4 k5 : Nat} (P : Nat → Lg → Prop) (h0 : Wk (P 0) L) (hG : ∀ i L, P i L → IsT K L p xs) (hs : ∀ (i : Nat) (x : V) a0 a1 a2 a3 a4 a5 L, xs[i]? = some x → P i L → gg x (((((((wipe σ [k0, k1, k2, k3, k4, k5]).set k0 a0).set k1 a1).set k2 a2).set k3 a3).set k4 a4).set k5 a5) L (fun σ2 L2 => tb ⟨SlW σ [k0, k1, k2, k3, k4, k5] P (i + 1), r0, n0, SlW σ [k0, k1, k2, k3, k4, k5] P (i + 1)⟩ σ2 L2)) (hd : ∀ a0 a1 a2 a3 a4 a5 L, P xs.length L → n0 (((((((wipe σ [k0, k1, k2, k3, k4, k5]).set k0 a0).set k1 a1).set k2 a2).set k3 a3).set k4 a4).set k5 a5) L) : ForR (wkT K p xs) gg tb ⟨n0, r0, b0, c0⟩ σ L := by
  obtain ⟨L0, l0, q0⟩ := h0
  refine f_tup (SlW σ [k0, k1, k2, k3, k4, k5] P) ⟨L0, l0, rfl, q0⟩ (fun i σ1 L h => hG i L h.2) ?_ ?_
  · rintro i x σ1 L hi ⟨hσ, hP⟩
    obtain ⟨a0, a1, a2, a3, a4, a5, rfl⟩ := unw6 hσ
    exact hs i x a0 a1 a2 a3 a4 a5 L hi hP
  · rintro σ1 L ⟨hσ, hP⟩
    obtain ⟨a0, a1, a2, a3, a4, a5, rfl⟩ := unw6 hσ
    exact hd a0 a1 a2 a3 a4 a5 L hP
theorem fp_6 {k0 k1 k2 k3 k4 k5 : Nat} (P : Nat → Lg → Prop) (ht : TelAll c xs (ws.map VM.dP)) (h0 : Wk (P 0) L) (hG : ∀ i L, P i L → IsL K L p xs) (hs : ∀ (i : Nat) b r t a a0 a1 a2 a3 a4 a5 L, ws[i]? = some (b, r) → (t, HO.tup [.int b, .ref a]) ∈ c → (a, HO.lst (r.map V.int)) ∈ c → P i L → gg (.ref t) (((((((wipe σ [k0, k1, k2, k3, k4, k5]).set k0 a0).set k1 a1).set k2 a2).set k3 a3).set k4 a4).set k5 a5) L (fun σ2 L2 => tb ⟨SlW σ [k0, k1, k2, k3, k4, k5] P (i + 1), r0, n0, SlW σ [k0, k1, k2, k3, k4, k5] P (i + 1)⟩ σ2 L2)) (hd : ∀ a0 a1 a2 a3 a4 a5 L, P ws.length L → n0 (((((((wipe σ [k0, k1, k2, k3, k4, k5]).set k0 a0).set k1 a1).set k2 a2).set k3 a3).set k4 a4).set k5 a5) L) : ForR (wkL K p xs) gg tb ⟨n0, r0, b0, c0⟩ σ L := by
  obtain ⟨L0, l0, q0⟩ := h0
  refine f_pairs (SlW σ [k0, k1, k2, k3, k4, k5] P) ht ⟨L0, l0, rfl, q0⟩ (fun i σ1 L h => hG i L h.2) ?_ ?_
  · rintro i b r t a σ1 L hi m1 m2 ⟨hσ, hP⟩
    obtain ⟨a0, a1, a2, a3, a4, a5, rfl⟩ := unw6 hσ
    exact hs i b r t a a0 a1 a2 a3 a4 a5 L hi m1 m2 hP
  · rintro σ1 L ⟨hσ, hP⟩
    obtain ⟨a0, a1, a2, a3, a4, a5, rfl⟩ := unw6 hσ
    exact hd a0 a1 a2 a3 a4 a5 L hP
theorem fit_6 {k0 k1 k2 k3 k4 k5 : Nat} (P : Nat → Lg → Prop) (hv : IntsV xs ns) (h0 : Wk (P 0) L) (hG : ∀ i L, P i L → IsT K L p xs) (hs : ∀ (i : Nat) (x : Int) a0 a1 a2 a3 a4 a5 L, ns[i]? = some x → P i L → gg (.int x) (((((((wipe σ [k0, k1, k2, k3, k4, k5]).set k0 a0).set k1 a1).set k2 a2).set k3 a3).set k4 a4).set k5 a5) L (fun σ2 L2 => tb ⟨SlW σ [k0, k1, k2, k3, k4, k5] P (i + 1), r0, n0, SlW σ [k0, k1, k2, k3, k4, k5] P (i + 1)⟩ σ2 L2)) (hd : ∀ a0 a1 a2 a3 a4 a5 L, P ns.length L → n0 (((((((wipe σ [k0, k1, k2, k3, k4, k5]).set k0 a0).set k1 a1).set k2 a2).set k3 a3).set k4 a4).set k5 a5) L) : ForR (wkT K p xs) gg tb ⟨n0, r0, b0, c0⟩ σ L := by
  obtain ⟨L0, l0, q0⟩ := h0
  refine f_intsT (SlW σ [k0, k1, k2, k3, k4, k5] P) hv ⟨L0, l0, rfl, q0⟩ (fun i σ1 L h => hG i L h.2) ?_ ?_
  · rintro i x σ1 L hi ⟨hσ, hP⟩
    obtain ⟨a0, a1, a2, a3, a4, a5, rfl⟩ := unw6 hσ
    exact hs i x a0 a1 a2 a3 a4 a5 L hi hP
  · rintro σ1 L ⟨hσ, hP⟩
    obtain ⟨a0, a1, a2, a3, a4, a5, rfl⟩ := unw6 hσ
    exact hd a0 a1 a2 a3 a4 a5 L hP
theorem fq_6 {k0 k1 k2 k3 k4 k5 : Nat} (P : Nat → Lg → Prop) (ht : TelAll c xs (ts.map dT)) (h0 : Wk (P 0) L) (hG : ∀ i L, P i L → IsL K L p xs) (hs : ∀ (i : Nat) r t a0 a1 a2 a3 a4 a5 L, ts[i]? = some r → (t, HO.tup (r.map V.int)) ∈ c → P i L → gg (.ref t) (((((((wipe σ [k0, k1, k2, k3, k4, k5]).set k0 a0).set k1 a1).set k2 a2).set k3 a3).set k4 a4).set k5 a5) L (fun σ2 L2 => tb ⟨SlW σ [k0, k1, k2, k3, k4, k5] P (i + 1), r0, n0, SlW σ [k0, k1, k2, k3, k4, k5] P (i + 1)⟩ σ2 L2)) (hd : ∀ a0 a1 a2 a3 a4 a5 L, P ts.length L → n0 (((((((wipe σ [k0, k1, k2, k3, k4, k5]).set k0 a0).set k1 a1).set k2 a2).set k3 a3).set k4 a4).set k5 a5) L) : ForR (wkL K p xs) gg tb ⟨n0, r0, b0, c0⟩ σ L := by
  obtain ⟨L0, l0, q0⟩ := h0
  refine f_tups (SlW σ [k0, k1, k2, k3, k4, k5] P) ht ⟨L0, l0, rfl, q0⟩ (fun i σ1 L h => hG i L h.2) ?_ ?_
  · rintro i r t σ1 L hi m1 ⟨hσ, hP⟩
    obtain ⟨a0, a1, a2, a3, a4, a5, rfl⟩ := unw6 hσ
    exact hs i r t a0 a1 a2 a3 a4 a5 L hi m1 hP
  · rintro σ1 L ⟨hσ, hP⟩
    obtain ⟨a0, a1, a2, a3, a4, a5, rfl⟩ := unw6 hσ
    exact hd a0 a1 a2 a3 a4 a5 L hP
theorem unw7 {σ σ1 : St} {k0 k1 k2 k3 k4 k5 k6 : Nat} (h : wipe σ1 [k0, k1, k2, k3, k4, k5, k6] = wipe σ [k0, k1, k2, k3, k4, k5, k6]) : ∃ a0 a1 a2 a3 a4 a5 a6, σ1 = ((((((((wipe σ [k0, k1, k2, k3, k4, k5, k6]).set k0 a0).set k1 a1).set k2 a2).set k3 a3).set k4 a4).set k5 a5).set k6 a6) := by
  generalize wipe σ [k0, k1, k2, k3, k4, k5, k6] = τ at h ⊢
  obtain ⟨a0, h⟩ := unset h
  obtain ⟨a1, h⟩ := unset h
  obtain ⟨a2, h⟩ := unset h
  obtain ⟨a3, h⟩ := unset h
  obtain ⟨a4, h⟩ := unset h
  obtain ⟨a5, h⟩ := unset h
  obtain ⟨a6, h⟩ := unset h
  exact ⟨a0, a1, a2, a3, a4, a5, a6, h⟩
def SlV7 (σ : St) (k0 k1 k2 k3 k4 k5 k6 : Nat) (P : Nat → Option V → Option V → Option V → Option V → Option V → Option V → Option V → Lg → Prop) : Nat → St → Lg → Prop := fun i σ1 L => ∃ a0 a1 a2 a3 a4 a5 a6, σ1 = ((((((((wipe σ [k0, k1, k2, k3, k4, k5, k6]).set k0 a0).set k1 a1).set k2 a2).set k3 a3).set k4 a4).set k5 a5).set k6 a6) ∧ P i a0 a1 a2 a3 a4 a5 a6 L
theorem frv_7 {k0 k1 k2 k3 k4 k5 k6 : Nat} (P : Nat → Option V → Option V → Option V → Option V → Option V → Option V → Option V → Lg → Prop) (h0 : Wk (SlV7 σ k0 k1 k2 k3 k4 k5 k6 P 0 σ) L) (hs : ∀ (i : Nat) a0 a1 a2 a3 a4 a5 a6 L, i < n → P i a0 a1 a2 a3 a4 a5 a6 L → gg (.int (i : Int)) ((((((((wipe σ [k0, k1, k2, k3, k4, k5, k6]).set k0 a0).set k1 a1).set k2 a2).set k3 a3).set k4 a4).set k5 a5).set k6 a6) L (fun σ2 L2 => tb ⟨SlV7 σ k0 k1 k2 k3 k4 k5 k6 P (i + 1), r0, n0, SlV7 σ k0 k1 k2 k3 k4 k5 k6 P (i + 1)⟩ σ2 L2)) (hd : ∀ a0 a1 a2 a3 a4 a5 a6 L, P n a0 a1 a2 a3 a4 a5 a6 L → n0 ((((((((wipe σ [k0, k1, k2, k3, k4, k5, k6]).set k0 a0).set k1 a1).set k2 a2).set k3 a3).set k4 a4).set k5 a5).set k6 a6) L) : ForR (wkR 0 n) gg tb ⟨n0, r0, b0, c0⟩ σ L := by
  refine f_range0 (SlV7 σ k0 k1 k2 k3 k4 k5 k6 P) h0 ?_ ?_
  · rintro i σ1 L hi ⟨a0, a1, a2, a3, a4, a5, a6, rfl, hP⟩
    exact hs i a0 a1 a2 a3 a4 a5 a6 L hi hP
  · rintro σ1 L ⟨a0, a1, a2, a3, a4, a5, a6, rfl, hP⟩
    exact hd a0 a1 a2 a3 a4 a5 a6 L hP
theorem frnv_7 {k0 k1 k2 k3 k4 k5 k6 : Nat} (P : Nat → Option V → Option V → Option V → Option V → Option V → Option V → Option V → Lg → Prop) (h0 : Wk (SlV7 σ k0 k1 k2 k3 k4 k5 k6 P 0 σ) L) (hs : ∀ (i : Nat) a0 a1 a2 a3 a4 a5 a6 L, i < n → P i a0 a1 a2 a3 a4 a5 a6 L → gg (.int (lo + i)) ((((((((wipe σ [k0, k1, k2, k3, k4, k5, k6]).set k0 a0).set k1 a1).set k2 a2).set k3 a3).set k4 a4).set k5 a5).set k6 a6) L (fun σ2 L2 => tb ⟨SlV7 σ k0 k1 k2 k3 k4 k5 k6 P (i + 1), r0, n0, SlV7 σ k0 k1 k2 k3 k4 k5 k6 P (i + 1)⟩ σ2 L2)) (hd : ∀ a0 a1 a2 a3 a4 a5 a6 L, P n a0 a1 a2 a3 a4 a5 a6 L → n0 ((((((((wipe σ [k0, k1, k2, k3, k4, k5, k6]).set k0 a0).set k1 a1).set k2 a2).set k3 a3).set k4 a4).set k5 a5).set k6 a6) L) : ForR (wkR lo n) gg tb ⟨n0, r0, b0, c0⟩ σ L := by
  refine f_range (SlV7 σ k0 k1 k2 k3 k4 k5 k6 P) h0 ?_ ?_
  · rintro i σ1 L hi ⟨a0, a1, a2, a3, a4, a5, a6, rfl, hP⟩
    exact hs i a0 a1 a2 a3 a4 a5 a6 L hi hP
  · rintro σ1 L ⟨a0, a1, a2, a3, a4, a5, a6, rfl, hP⟩
    exact hd a0 a1 a2 a3 a4 a5 a6 L hP
theorem fiv_7 {k0 k1 k2 k3 k4 k5 k6 : Nat} (P : Nat → Option V → Option V → Option V → Option V → Option V → Option V → Option V → Lg → Prop) (hv : IntsV xs ns) (h0 : Wk (SlV7 σ k0 k1 k2 k3 k4 k5 k6 P 0 σ) L) (hG : ∀ i a0 a1 a2 a3 a4 a5 a6 L, P i a0 a1 a2 a3 a4 a5 a6 L → IsL K L p xs) (hs : ∀ (i : Nat) (x : Int) a0 a1 a2 a3 a4 a5 a6 L, ns[i]? = some x → P i a0 a1 a2 a3 a4 a5 a6 L → gg (.int x) ((((((((wipe σ [k0, k1, k2, k3, k4, k5, k6]).set k0 a0).set k1 a1).set k2 a2).set k3 a3).set k4 a4).set k5 a5).set k6 a6) L (fun σ2 L2 => tb ⟨SlV7 σ k0 k1 k2 k3 k4 k5 k6 P (i + 1), r0, n0, SlV7 σ k0 k1 k2 k3 k4 k5 k6 P (i + 1)⟩ σ2 L2)) (hd : ∀ a0 a1 a2 a3 a4 a5 a6 L, P ns.length a0 a1 a2 a3 a4 a5 a6 L → n0 ((((((((wipe σ [k0, k1, k2, k3, k4, k5, k6]).set k0 a0).set k1 a1).set k2 a2).set k3 a3).set k4 a4).set k5 a5).set k6 a6) L) : ForR (wkL K p xs) gg tb ⟨n0, r0, b0, c0⟩ σ L := by
  refine f_ints (SlV7 σ k0 k1 k2 k3 k4 k5 k6 P) hv h0 (fun i σ1 L ⟨a0, a1, a2, a3, a4, a5, a6, _, h⟩ => hG i a0 a1 a2 a3 a4 a5 a6 L h) ?_ ?_
  · rintro i x σ1 L hi ⟨a0, a1, a2, a3, a4, a5, a6, rfl, hP⟩
    exact hs i x a0 a1 a2 a3 a4 a5 a6 L hi hP
  · rintro σ1 L ⟨a0, a1, a2, a3, a4, a5, a6, rfl, hP⟩
    exact hd a0 a1 a2 a3 a4 a5 a6 L hP
theorem fvv_7 {k0 k1 k2 k3 k4 k5 k6 : Nat} (P : Nat → Option V → Option V → Option V → Option V → Option V → Option V → Option V → Lg → Prop) (h0 : Wk (SlV7 σ k0 k1 k2 k3 k4 k5 k6 P 0 σ) L) (hG : ∀ i a0 a1 a2 a3 a4 a5 a6 L, P i a0 a1 a2 a3 a4 a5 a6 L → IsL K L p (as.map V.ref)) (hs : ∀ (i : Nat) a0 a1 a2 a3 a4 a5 a6 L, i < as.length → P i a0 a1 a2 a3 a4 a5 a6 L → gg (.ref (adrAt as (i : Int))) ((((((((wipe σ [k0, k1, k2, k3, k4, k5, k6]).set k0 a0).set k1 a1).set k2 a2).set k3 a3).set k4 a4).set k5 a5).set k6 a6) L (fun σ2 L2 => tb ⟨SlV7 σ k0 k1 k2 k3 k4 k5 k6 P (i + 1), r0, n0, SlV7 σ k0 k1 k2 k3 k4 k5 k6 P (i + 1)⟩ σ2 L2)) (hd : ∀ a0 a1 a2 a3 a4 a5 a6 L, P as.length a0 a1 a2 a3 a4 a5 a6 L → n0 ((((((((wipe σ [k0, k1, k2, k3, k4, k5, k6]).set k0 a0).set k1 a1).set k2 a2).set k3 a3).set k4 a4).set k5 a5).set k6 a6) L) : ForR (wkL K p (as.map V.ref)) gg tb ⟨n0, r0, b0, c0⟩ σ L := by
  refine f_refs (SlV7 σ k0 k1 k2 k3 k4 k5 k6 P) h0 (fun i σ1 L ⟨a0, a1, a2, a3, a4, a5, a6, _, h⟩ => hG i a0 a1 a2 a3 a4 a5 a6 L h) ?_ ?_
  · rintro i σ1 L hi ⟨a0, a1, a2, a3, a4, a5, a6, rfl, hP⟩
    exact hs i a0 a1 a2 a3 a4 a5 a6 L hi hP
  · rintro σ1 L ⟨a0, a1, a2, a3, a4, a5, a6, rfl, hP⟩
    exact hd a0 a1 a2 a3 a4 a5 a6 L hP
theorem fpv_7 {k0 k1 k2 k3 k4 k5 k6 : Nat} (P : Nat → Option V → Option V → Option V → Option V → Option V → Option V → Option V → Lg → Prop) (ht : TelAll c xs (ws.map VM.dP)) (h0 : Wk (SlV7 σ k0 k1 k2 k3 k4 k5 k6 P 0 σ) L) (hG : ∀ i a0 a1 a2 a3 a4 a5 a6 L, P i a0 a1 a2 a3 a4 a5 a6 L → IsL K L p xs) (hs : ∀ (i : Nat) b r t a a0 a1 a2 a3 a4 a5 a6 L, ws[i]? = some (b, r) → (t, HO.tup [.int b, .ref a]) ∈ c → (a, HO.lst (r.map V.int)) ∈ c → P i a0 a1 a2 a3 a4 a5 a6 L → gg (.ref t) ((((((((wipe σ [k0, k1, k2, k3, k4, k5, k6]).set k0 a0).set k1 a1).set k2 a2).set k3 a3).set k4 a4).set k5 a5).set k6 a6) L (fun σ2 L2 => tb ⟨SlV7 σ k0 k1 k2 k3 k4 k5 k6 P (i + 1), r0, n0, SlV7 σ k0 k1 k2 k3 k4 k5 k6 P (i + 1)⟩ σ2 L2)) (hd : ∀ a0 a1 a2 a3 a4 a5 a6 L, P ws.length a0 a1 a2 a3 a4 a5 a6 L → n0 ((((((((wipe σ [k0, k1, k2, k3, k4, k5, k6]).set k0 a0).set k1 a1).set k2 a2).set k3 a3).set k4 a4).set k5 a5).set k6 a6) L) : ForR (wkL K p xs) gg tb ⟨n0, r0, b0, c0⟩ σ L := by
  refine f_pairs (SlV7 σ k0 k1 k2 k3 k4 k5 k6 P) ht h0 (fun i σ1 L ⟨a0, a1, a2, a3, a4, a5, a6, _, h⟩ => hG i a0 a1 a2 a3 a4 a5 a6 L h) ?_ ?_
  · rintro i b r t a σ1 L hi m1 m2 ⟨a0, a1, a2, a3, a4, a5, a6, rfl, hP⟩
    exact hs i b r t a a0 a1 a2 a3 a4 a5 a6 L hi m1 m2 hP
  · rintro σ1 L ⟨a0, a1, a2, a3, a4, a5, a6, rfl, hP⟩
    exact hd a0 a1 a2 a3 a4 a5 a6 L hP
theorem fqv_7 {k0 k1 k2 k3 k4 k5 k6 : Nat} (P : Nat → Option V → Option V → Option V → Option V → Option V → Option V → Option V → Lg → Prop) (ht : TelAll c xs (ts.map dT)) (h0 : Wk (SlV7 σ k0 k1 k2 k3 k4 k5 k6 P 0 σ) L) (hG : ∀ i a0 a1 a2 a3 a4 a5 a6 L, P i a0 a1 a2 a3 a4 a5 a6 L → IsL K L p xs) (hs : ∀ (i : Nat) r t a0 a1 a2 a3 a4 a5 a6 L, ts[i]? = some r → (t, HO.tup (r.map V.int)) ∈ c → P i a0 a1 a2 a3 a4 a5 a6 L → gg (.ref t) ((((((((wipe σ [k0, k1, k2, k3, k4, k5, k6]).set k0 a0).set k1 a1).set k2 a2).set k3 a3).set k4 a4).set k5 a5).set k6 a6) L (fun σ2 L2 => tb ⟨SlV7 σ k0 k1 k2 k3 k4 k5 k6 P (i + 1), r0, n0, SlV7 σ k0 k1 k2 k3 k4 k5 k6 P (i + 1)⟩ σ2 L2)) (hd : ∀ a0 a1 a2 a3 a4 a5 a6 L, P ts.length a0 a1 a2 a3 a4 a5 a6 L → n0 ((((((((wipe σ [k0, k1, k2, k3, k4, k5, k6]).set k0 a0).set k1 a1).set k2 a2).set k3 a3).set k4 a4).set k5 a5).set k6 a6) L) : ForR (wkL K p xs) gg tb ⟨n0, r0, b0, c0⟩ σ L := by
  refine f_tups (SlV7 σ k0 k1 k2 k3 k4 k5 k6 P) ht h0 (fun i σ1 L ⟨a0, a1, a2, a3, a4, a5, a6, _, h⟩ => hG i a0 a1 a2 a3 a4 a5 a6 L h) ?_ ?_
  · rintro i r t σ1 L hi m1 ⟨a0, a1, a2, a3, a4, a5, a6, rfl, hP⟩
    exact hs i r t a0 a1 a2 a3 a4 a5 a6 L hi m1 hP
  · rintro σ1 L ⟨a0, a1, a2, a3, a4, a5, a6, rfl, hP⟩
    exact hd a0 a1 a2 a3 a4 a5 a6 L hP
theorem fr_7 {k0 k1 k2 k3 k4 k5 k6 : Nat} (P : Nat → Lg → Prop) (h0 : Wk (P 0) L) (hs : ∀ (i : Nat) a0 a1 a2 a3 a4 a5 a6 L, i < n → P i L → gg (.int (i : Int)) ((((((((wipe σ [k0, k1, k2, k3, k4, k5, k6]).set k0 a0).set k1 a1).set k2 a2).set k3 a3).set k4 a4).set k5 a5).set k6 a6) L (fun σ2 L2 => tb ⟨SlW σ [k0, k1, k2, k3, k4, k5, k6] P (i + 1), r0, n0, SlW σ [k0, k1, k2, k3, k4, k5, k6] P (i + 1)⟩ σ2 L2)) (hd : ∀ a0 a1 a2 a3 a4 a5 a6 L, P n L → n0 ((((((((wipe σ [k0, k1, k2, k3, k4, k5, k6]).set k0 a0).set k1 a1).set k2 a2).set k3 a3).set k4 a4).set k5 a5).set k6 a6) L) : ForR (wkR 0 n) gg tb ⟨n0, r0, b0, c0⟩ σ L := by
  obtain ⟨L0, l0, q0⟩ := h0
  refine f_range0 (SlW σ [k0, k1, k2, k3, k4, k5, k6] P) ⟨L0, l0, rfl, q0⟩ ?_ ?_
  · rintro i σ1 L hi ⟨hσ, hP⟩
    obtain ⟨a0, a1, a2, a3, a4, a5, a6, rfl⟩ := unw7 hσ
    exact hs i a0 a1 a2 a3 a4 a5 a6 L hi hP
  · rintro σ1 L ⟨hσ, hP⟩
    obtain ⟨a0, a1, a2, a3, a4, a5, a6, rfl⟩ := unw7 hσ
    exact hd a0 a1 a2 a3 a4 a5 a6 L hP
theorem frn_7 {k0 k1 k2 k3 k4 k5 k6 : Nat} (P : Nat → Lg → Prop) (h0 : Wk (P 0) L) (hs : ∀ (i : Nat) a0 a1 a2 a3 a4 a5 a6 L, i < n → P i L → gg (.int (lo + i)) ((((((((wipe σ [k0, k1, k2, k3, k4, k5, k6]).set k0 a0).set k1 a1).set k2 a2).set k3 a3).set k4 a4).set k5 a5).set k6 a6) L (fun σ2 L2 => tb ⟨SlW σ [k0, k1, k2, k3, k4, k5, k6] P (i + 1), r0, n0, SlW σ [k0, k1, k2, k3, k4, k5, k6] P (i + 1)⟩ σ2 L2)) (hd : ∀ a0 a1 a2 a3 a4 a5 a6 L, P n L → n0 ((((((((wipe σ [k0, k1, k2, k3, k4, k5, k6]).set k0 a0).set k1 a1).set k2 a2).set k3 a3).set k4 a4).set k5 a5).set k6 a6) L) : ForR (wkR lo n) gg tb ⟨n0, r0, b0, c0⟩ σ L := by
  obtain ⟨L0, l0, q0⟩ := h0
  refine f_range (SlW σ [k0, k1, k2, k3, k4, k5, k6] P) ⟨L0, l0, rfl, q0⟩ ?_ ?_
  · rintro i σ1 L hi ⟨hσ, hP⟩
    obtain ⟨a0, a1, a2, a3, a4, a5, a6, rfl⟩ := unw7 hσ
    exact hs i a0 a1 a2 a3 a4 a5 a6 L hi hP
  · rintro σ1 L ⟨hσ, hP⟩
    obtain ⟨a0, a1, a2, a3, a4, a5, a6, rfl⟩ := unw7 hσ
    exact hd a0 a1 a2 a3 a4 a5 a6 L hP
theorem fi_7 {k0 k1 k2 k3 k4 k5 k6 : Nat} (P : Nat → Lg → Prop) (hv : IntsV xs ns) (h0 : Wk (P 0) L) (hG : ∀ i L, P i L → IsL K L p xs) (hs : ∀ (i : Nat) (x : Int) a0 a1 a2 a3 a4 a5 a6 L, ns[i]? = some x → P i L → gg (.int x) ((((((((wipe σ [k0, k1, k2, k3, k4, k5, k6]).set k0 a0).set k1 a1).set k2 a2).set k3 a3).set k4 a4).set k5 a5).set k6 a6) L (fun σ2 L2 => tb ⟨SlW σ [k0, k1, k2, k3, k4, k5, k6] P (i + 1), r0, n0, SlW σ [k0, k1, k2, k3, k4, k5, k6] P (i + 1)⟩ σ2 L2)) (hd : ∀ a0 a1 a2 a3 a4 a5 a6 L, P ns.length L → n0 ((((((((wipe σ [k0, k1, k2, k3, k4, k5, k6]).set k0 a0).set k1 a1).set k2 a2).set k3 a3).set k4 a4).set k5 a5).set k6 a6) L) : ForR (wkL K p xs) gg tb ⟨n0, r0, b0, c0⟩ σ L := by
  obtain ⟨L0, l0, q0⟩ := h0
  refine f_ints (SlW σ [k0, k1, k2, k3, k4, k5, k6] P) hv ⟨L0, l0, rfl, q0⟩ (fun i σ1 L h => hG i L h.2) ?_ ?_
  · rintro i x σ1 L hi ⟨hσ, hP⟩
    obtain ⟨a0, a1, a2, a3, a4, a5, a6, rfl⟩ := unw7 hσ
    exact hs i x a0 a1 a2 a3 a4 a5 a6 L hi hP
  · rintro σ1 L ⟨hσ, hP⟩
    obtain ⟨a0, a1, a2, a3, a4, a5, a6, rfl⟩ := unw7 hσ
    exact hd a0 a1 a2 a3 a4 a5 a6 L hP
theorem fv_7 {k0 k1 k2 k3 k4 k5 k6 : Nat} (P : Nat → Lg → Prop) (h0 : Wk (P 0) L) (hG : ∀ i L, P i L → IsL K L p (as.map V.ref)) (hs : ∀ (i : Nat) a0 a1 a2 a3 a4 a5 a6 L, i < as.length → P i L → gg (.ref (adrAt as (i : Int))) ((((((((wipe σ [k0, k1, k2, k3, k4, k5, k6]).set k0 a0).set k1 a1).set k2 a2).set k3 a3).set k4 a4).set k5 a5).set k6 a6) L (fun σ2 L2 => tb ⟨SlW σ [k0, k1, k2, k3, k4, k5, k6] P (i + 1), r0, n0, SlW σ [k0, k1, k2, k3, k4, k5, k6] P (i + 1)⟩ σ2 L2)) (hd : ∀ a0 a1 a2 a3 a4 a5 a6 L, P as.length L → n0 ((((((((wipe σ [k0, k1, k2, k3, k4, k5, k6]).set k0 a0).set k1 a1).set k2 a2).set k3 a3).set k4 a4).set k5 a5).set k6 a6) L) : ForR (wkL K p (as.map V.ref)) gg tb ⟨n0, r0, b0, c0⟩ σ L := by
  obtain ⟨L0, l0, q0⟩ := h0
  refine f_refs (SlW σ [k0, k1, k2, k3, k4, k5, k6] P) ⟨L0, l0, rfl, q0⟩ (fun i σ1 L h => hG i L h.2) ?_ ?_
  · rintro i σ1 L hi ⟨hσ, hP⟩
    obtain ⟨a0, a1, a2, a3, a4, a5, a6, rfl⟩ := unw7 hσ
    exact hs i a0 a1 a2 a3 a4 a5 a6 L hi hP
  · rintro σ1 L ⟨hσ, hP⟩
    obtain ⟨a0, a1, a2, a3, a4, a5, a6, rfl⟩ := unw7 hσ
    exact hd a0 a1 a2 a3 a4 a5 a6 L hP
theorem fl_7 {k0 k1 k2 k3 k4 k5 k6 : Nat} (P : Nat → Lg → Prop) (h0 : Wk (P 0) L) (hG : ∀ i L, P i L → IsL K L p xs) (hs : ∀ (i : Nat) (x : V) a0 a1 a2 a3 a4 a5 a6 L, xs[i]? = some x → P i L → gg x ((((((((wipe σ [k0, k1, k2, k3, k4, k5, k6]).set k0 a0).set k1 a1).set k2 a2).set k3 a3).set k4 a4).set k5 a5).set k6 a6) L (fun σ2 L2 => tb ⟨SlW σ [k0, k1, k2, k3, k4, k5, k6] P (i + 1), r0, n0, SlW σ [k0, k1, k2, k3, k4, k5, k6] P (i + 1)⟩ σ2 L2)) (hd : ∀ a0 a1 a2 a3 a4 a5 a6 L, P xs.length L → n0 ((((((((wipe σ [k0, k1, k2, k3, k4, k5, k6]).set k0 a0).set k1 a1).set k2 a2).set k3 a3).set k4 a4).set k5 a5).set k6 a6) L) : ForR (wkL K p xs) gg tb ⟨n0, r0, b0, c0⟩ σ L := by
  obtain ⟨L0, l0, q0⟩ := h0
  refine f_list (SlW σ [k0, k1, k2, k3, k4, k5, k6] P) ⟨L0, l0, rfl, q0⟩ (fun i σ1 L h => hG i L h.2) ?_ ?_
  · rintro i x σ1 L hi ⟨hσ, hP⟩
    obtain ⟨a0, a1, a2, a3, a4, a5, a6, rfl⟩ := unw7 hσ
    exact hs i x a0 a1 a2 a3 a4 a5 a6 L hi hP
  · rintro σ1 L ⟨hσ, hP⟩
    obtain ⟨a0, a1, a2, a3, a4, a5, a6, rfl⟩ := unw7 hσ
    exact hd a0 a1 a2 a3 a4 a5 a6 L hP
theorem ft_7 {k0 k1 k2 k3 k4 k5 k6 : Nat} (P : Nat → Lg → Prop) (h0 : Wk (P 0) L) (hG : ∀ i L, P i L → IsT K L p xs) (hs : ∀ (i : Nat) (x : V) a0 a1 a2 a3 a4 a5 a6 L, xs[i]? = some x → P i L → gg x ((((((((wipe σ [k0, k1, k2, k3, k4, k5, k6]).set k0 a0).set k1 a1).set k2 a2).set k3 a3).set k4 a4).set k5 a5).set k6 a6) L (fun σ2 L2 => tb ⟨SlW σ [k0, k1, k2, k3, k4, k5, k6] P (i + 1), r0, n0, SlW σ [k0, k1, k2, k3, k4, k5, k6] P (i + 1)⟩ σ2 L2)) (hd : ∀ a0 a1 a2 a3 a4 a5 a6 L, P xs.length L → n0 ((((((((wipe σ [k0, k1, k2, k3, k4, k5, k6]).set k0 a0).set k1 a1).set k2 a2).set k3 a3).set k4 a4).set k5 a5).set k6 a6) L) : ForR (wkT K p xs) gg tb ⟨n0, r0, b0, c0⟩ σ L := by
  obtain ⟨L0, l0, q0⟩ := h0
  refine f_tup (SlW σ [k0, k1, k2, k3, k4, k5, k6] P) ⟨L0, l0, rfl, q0⟩ (fun i σ1 L h => hG i L h.2) ?_ ?_
  · rintro i x σ1 L hi ⟨hσ, hP⟩
    obtain ⟨a0, a1, a2, a3, a4, a5, a6, rfl⟩ := unw7 hσ
    exact hs i x a0 a1 a2 a3 a4 a5 a6 L hi hP
  · rintro σ1 L ⟨hσ, hP⟩
    obtain ⟨a0, a1, a2, a3, a4, a5, a6, rfl⟩ := unw7 hσ
    exact hd a0 a1 a2 a3 a4 a5 a6 L hP
theorem fp_7 {k0 k1 k2 k3 k4 k5 k6 : Nat} (P : Nat → Lg → Prop) (ht : TelAll c xs (ws.map VM.dP)) (h0 : Wk (P 0) L) (hG : ∀ i L, P i L → IsL K L p xs) (hs : ∀ (i : Nat) b r t a a0 a1 a2 a3 a4 a5 a6 L, ws[i]? = some (b, r) → (t, HO.tup [.int b, .ref a]) ∈ c → (a, HO.lst (r.map V.int)) ∈ c → P i L → gg (.ref t) ((((((((wipe σ [k0, k1, k2, k3, k4, k5, k6]).set k0 a0).set k1 a1).set k2 a2).set k3 a3).set k4 a4).set k5 a5).set k6 a6) L (fun σ2 L2 => tb ⟨SlW σ [k0, k1, k2, k3, k4, k5, k6] P (i + 1), r0, n0, SlW σ [k0, k1, k2, k3, k4, k5, k6] P (i + 1)⟩ σ2 L2)) (hd : ∀ a0 a1 a2 a3 a4 a5 a6 L, P ws.length L → n0 ((((((((wipe σ [k0, k1, k2, k3, k4, k5, k6]).set k0 a0).set k1 a1).set k2 a2).set k3 a3).set k4 a4).set k5 a5).set k6 a6) L) : ForR (wkL K p xs) gg tb ⟨n0, r0, b0, c0⟩ σ L := by
  obtain ⟨L0, l0, q0⟩ := h0
  refine f_pairs (SlW σ [k0, k1, k2, k3, k4, k5, k6] P) ht ⟨L0, l0, rfl, q0⟩ (fun i σ1 L h => hG i L h.2) ?_ ?_
  · rintro i b r t a σ1 L hi m1 m2 ⟨hσ, hP⟩
    obtain ⟨a0, a1, a2, a3, a4, a5, a6, rfl⟩ := unw7 hσ
    exact hs i b r t a a0 a1 a2 a3 a4 a5 a6 L hi m1 m2 hP
  · rintro σ1 L ⟨hσ, hP⟩
    obtain ⟨a0, a1, a2, a3, a4, a5, a6, rfl⟩ := unw7 hσ
    exact hd a0 a1 a2 a3 a4 a5 a6 L hP
theorem fit_7 {k0 k1 k2 k3 k4 k5 k6 : Nat} (P : Nat → Lg → Prop) (hv : IntsV xs ns) (h0 : Wk (P 0) L) (hG : ∀ i L, P i L → IsT K L p xs) (hs : ∀ (i : Nat) (x : Int) a0 a1 a2 a3 a4 a5 a6 L, ns[i]? = some x → P i L → gg (.int x) ((((((((wipe σ [k0, k1, k2, k3, k4, k5, k6]).set k0 a0).set k1 a1).set k2 a2).set k3 a3).set k4 a4).set k5 a5).set k6 a6) L (fun σ2 L2 => tb ⟨SlW σ [k0, k1, k2, k3, k4, k5, k6] P (i + 1), r0, n0, SlW σ [k0, k1, k2, k3, k4, k5, k6] P (i + 1)⟩ σ2 L2)) (hd : ∀ a0 a1 a2 a3 a4 a5 a6 L, P ns.length L → n0 ((((((((wipe σ [k0, k1, k2, k3, k4, k5, k6]).set k0 a0).set k1 a1).set k2 a2).set k3 a3).set k4 a4).set k5 a5).set k6 a6) L) : ForR (wkT K p xs) gg tb ⟨n0, r0, b0, c0⟩ σ L := by
  obtain ⟨L0, l0, q0⟩ := h0
  refine f_intsT (SlW σ [k0, k1, k2, k3, k4, k5, k6] P) hv ⟨L0, l0, rfl, q0⟩ (fun i σ1 L h => hG i L h.2) ?_ ?_
  · rintro i x σ1 L hi ⟨hσ, hP⟩
    obtain ⟨a0, a1, a2, a3, a4, a5, a6, rfl⟩ := unw7 hσ
    exact hs i x a0 a1 a2 a3 a4 a5 a6 L hi hP
  · rintro σ1 L ⟨hσ, hP⟩
    obtain ⟨a0, a1, a2, a3, a4, a5, a6, rfl⟩ := unw7 hσ
    exact hd a0 a1 a2 a3 a4 a5 a6 L hP
theorem fq_7 {k0 k1 k2 k3 k4 k5 k6 : Nat} (P : Nat → Lg → Prop) (ht : TelAll c xs (ts.map dT)) (h0 : Wk (P 0) L) (hG : ∀ i L, P i L → IsL K L p xs) (hs : ∀ (i : Nat) r t a0 a1 a2 a3 a4 a5 a6 L, ts[i]? = some r → (t, HO.tup (r.map V.int)) ∈ c → P i L → gg (.ref t) ((((((((wipe σ [k0, k1, k2, k3, k4, k5, k6]).set k0 a0).set k1 a1).set k2 a2).set k3 a3).set k4 a4).set k5 a5).set k6 a6) L (fun σ2 L2 => tb ⟨SlW σ [k0, k1, k2, k3, k4, k5, k6] P (i + 1), r0, n0, SlW σ [k0, k1, k2, k3, k4, k5, k6] P (i + 1)⟩ σ2 L2)) (hd : ∀ a0 a1 a2 a3 a4 a5 a6 L, P ts.length L → n0 ((((((((wipe σ [k0, k1, k2, k3, k4, k5, k6]).set k0 a0).set k1 a1).set k2 a2).set k3 a3).set k4 a4).set k5 a5).set k6 a6) L) : ForR (wkL K p xs) gg tb ⟨n0, r0, b0, c0⟩ σ L := by
  obtain ⟨L0, l0, q0⟩ := h0
  refine f_tups (SlW σ [k0, k1, k2, k3, k4, k5, k6] P) ht ⟨L0, l0, rfl, q0⟩ (fun i σ1 L h => hG i L h.2) ?_ ?_
  · rintro i r t σ1 L hi m1 ⟨hσ, hP⟩
    obtain ⟨a0, a1, a2, a3, a4, a5, a6, rfl⟩ := unw7 hσ
    exact hs i r t a0 a1 a2 a3 a4 a5 a6 L hi m1 hP
  · rintro σ1 L ⟨hσ, hP⟩
    obtain ⟨a0, a1, a2, a3, a4, a5, a6, rfl⟩ := unw7 hσ
    exact hd a0 a1 a2 a3 a4 a5 a6 L hP
end
end VM

end

section
namespace VM
open PySem PySem.Spec L2
open PyProof.Rows hiding St

theorem Wk.flat {P : Lg → Prop} {L : Lg} (h : Wk P L) : Wk (Wk P) L := .go h
theorem wk_dec {c : Prop} {d : Decidable c} {Q : V → Lg → Prop} {L : Lg} (h : c) (k : Wk (Q (.bl true)) L) : Wk (Q (.bl (@decide c d))) L := by rw [decide_eq_true h]; exact k
/-! ### cuts -/
section
variable {α : Type} {xs : List α} {a b : Int}
theorem sIx_pos {n d : Nat} {v : Int} (h : 0 ≤ v) : HT.sIx n d (some v) = min v.toNat n := by
  show (if v < 0 then (v + (n : Int)).toNat else min v.toNat n) = min v.toNat n
  rw [if_neg (by omega)]
theorem cutG_hi (h : 0 ≤ b) : cutG xs none (some b) = xs.take b.toNat := by
  unfold cutG
  rw [sIx_pos h]
  simp only [HT.sIx_none, List.drop_zero, Nat.sub_zero]
  rw [← List.take_eq_take_min]
theorem cutG_lo (h : 0 ≤ a) : cutG xs (some a) none = xs.drop a.toNat := by
  unfold cutG
  rw [sIx_pos h]
  simp only [HT.sIx_none]
  by_cases e : a.toNat ≤ xs.length
  · rw [Nat.min_eq_left e, List.take_of_length_le (by simp)]
  · rw [Nat.min_eq_right (by omega), List.drop_eq_nil_of_le (Nat.le_refl _), List.drop_eq_nil_of_le (by omega)]
    simp
theorem cutG_lohi (ha : 0 ≤ a) (hb : 0 ≤ b) : cutG xs (some a) (some b) = (xs.drop a.toNat).take (b.toNat - a.toNat) := by
  unfold cutG
  rw [sIx_pos ha, sIx_pos hb]
  by_cases e : a.toNat ≤ xs.length
  · rw [Nat.min_eq_left e]
    by_cases e2 : b.toNat ≤ xs.length
    · rw [Nat.min_eq_left e2]
    · rw [Nat.min_eq_right (by omega), List.take_of_length_le (by simp), List.take_of_length_le (by simp; omega)]
  · rw [Nat.min_eq_right (by omega : xs.length ≤ a.toNat), List.drop_eq_nil_of_le (Nat.le_refl _), List.drop_eq_nil_of_le (by omega)]
    simp
theorem adrAt_take {as : List Addr} {n : Nat} {j : Int} (h : j.toNat < n) : adrAt (as.take n) j = adrAt as j := by
  unfold adrAt
  rw [List.getD_eq_getElem?_getD, List.getD_eq_getElem?_getD, List.getElem?_take, if_pos h]
end
theorem getD_all {P : Int → Prop} {l : List Int} (h0 : P 0) (h : ∀ x ∈ l, P x) (n : Nat) : P (l.getD n 0) := by
  rw [List.getD_eq_getElem?_getD]
  cases e : l[n]? with
  | none => exact h0
  | some x => exact h x (List.mem_of_getElem? e)
def Bnd (rows : List (List Int)) : Prop := ∀ r ∈ rows, ∀ x ∈ r, -10000000000000000000000000000000000000000 < x ∧ x < 10000000000000000000000000000000000000000
theorem Bnd.put {R : List (List Int)} {j v : Int} {n : Nat} (h : Bnd R) (hj : 0 ≤ j) (hl : j < R.length) (hv : -10000000000000000000000000000000000000000 < v ∧ v < 10000000000000000000000000000000000000000) : Bnd (putAt R j n v) := by
  intro r hr x hx
  rcases List.mem_or_eq_of_mem_set hr with hr | rfl
  · exact h r hr x hx
  · rcases List.mem_or_eq_of_mem_set hx with hx | rfl
    · exact h _ (rowAt_mem hj hl) x hx
    · exact hv
theorem Bnd.set {R : List (List Int)} {j : Nat} {r : List Int} (h : Bnd R) (hr : ∀ x ∈ r, -10000000000000000000000000000000000000000 < x ∧ x < 10000000000000000000000000000000000000000) : Bnd (R.set j r) := by
  intro r' hr' x hx
  rcases List.mem_or_eq_of_mem_set hr' with h' | rfl
  · exact h r' h' x hx
  · exact hr x hx
theorem set_8 {R : List (List Int)} {j : Nat} {r : List Int} (h : ∀ r ∈ R, r.length = 8) (hr : r.length = 8) : ∀ r' ∈ R.set j r, r'.length = 8 := by
  intro r' hr'
  rcases List.mem_or_eq_of_mem_set hr' with h' | rfl
  · exact h r' h'
  · exact hr
/-! ### a statement's end told once for all its ways -/
def lJoin (t : LTS) : LTS := fun D σ L => ∃ J : St → Lg → Prop, t { D with nx := fun σ' => Wk (J σ') } σ L ∧ ∀ σ' L', J σ' L' → D.nx σ' L'
theorem ls_join {X : Cx} {st : Stmt} {t : LTS} (h : LS X st t) : LS X st (lJoin t) := PS.imp h fun D σ H ⟨L, DL, hL, ⟨J, h1, h2⟩, k⟩ =>
  ⟨L, _, hL, h1, ⟨fun σ' L' H' ⟨L2, l, q⟩ hL' => k.nx _ _ _ (h2 _ _ q) (l _ hL'), k.rt, k.bk, k.ct⟩⟩
theorem s_join {t : LTS} {n0 : St → Lg → Prop} {r0 : LVK} {b0 c0 : St → Lg → Prop} {σ : St} {L : Lg} (J : St → Lg → Prop) (h1 : t ⟨fun σ' => Wk (J σ'), r0, b0, c0⟩ σ L) (h2 : ∀ σ' L', J σ' L' → n0 σ' L') : lJoin t ⟨n0, r0, b0, c0⟩ σ L := ⟨J, h1, h2⟩
theorem s_joinU {t : LTS} {n0 : St → Lg → Prop} {r0 : LVK} {b0 c0 : St → Lg → Prop} {σ : St} {L : Lg} (P : Lg → Prop) (h1 : t ⟨fun τ => Wk (fun L' => τ = σ ∧ P L'), r0, b0, c0⟩ σ L) (h2 : ∀ L', P L' → n0 σ L') : lJoin t ⟨n0, r0, b0, c0⟩ σ L := ⟨_, h1, fun τ L' ⟨e, q⟩ => e ▸ h2 L' q⟩
theorem s_joinS {t : LTS} {n0 : St → Lg → Prop} {r0 : LVK} {b0 c0 : St → Lg → Prop} {σ σ' : St} {L : Lg} (P : Lg → Prop) (h1 : t ⟨fun τ => Wk (fun L' => τ = σ' ∧ P L'), r0, b0, c0⟩ σ L) (h2 : ∀ L', P L' → n0 σ' L') : lJoin t ⟨n0, r0, b0, c0⟩ σ L := ⟨_, h1, fun τ L' ⟨e, q⟩ => e ▸ h2 L' q⟩
/-! ### pulling several chunks -/
inductive Pulls : List Chunk → Lg → Lg → Prop
  | nil {L : Lg} : Pulls [] L L
  | cons {c : Chunk} {cs : List Chunk} {L L1 L2 : Lg} (h : Pull c L L1) (k : Pulls cs L1 L2) : Pulls (c :: cs) L L2
theorem Pull.sw {L L1 L2 : Lg} {c d : Chunk} (h : Pull c L L1) (k : Pull d L1 L2) : ∃ L3, Pull d L L3 ∧ Pull c L3 L2 := by
  induction h generalizing L2 with
  | hd => exact ⟨_, .tl k, .hd⟩
  | tl h ih =>
    cases k with
    | hd => exact ⟨_, .hd, h⟩
    | tl k =>
      obtain ⟨L3, a, b⟩ := ih k
      exact ⟨_, .tl a, .tl b⟩
theorem Pulls.sw {cs : List Chunk} {L L1 L2 : Lg} {d : Chunk} (h : Pulls cs L L1) (k : Pull d L1 L2) : ∃ L3, Pull d L L3 ∧ Pulls cs L3 L2 := by
  induction h generalizing L2 with
  | nil => exact ⟨_, k, .nil⟩
  | cons h _ ih =>
    obtain ⟨L3, a, b⟩ := ih k
    obtain ⟨L4, a', b'⟩ := h.sw a
    exact ⟨L4, a', .cons b' b⟩
theorem Pulls.lic {cs : List Chunk} {L L1 : Lg} (h : Pulls cs L L1) : LicS L (cs.flatten :: L1) := by
  induction h with
  | nil => exact LicS.empty LicS.refl
  | cons h _ ih =>
    refine LicS.trans (LicS.pull h ih) (.of_flat ?_)
    simp
theorem Pull.mem {L L1 : Lg} {c : Chunk} (h : Pull c L L1) : c ∈ L := by
  induction h with
  | hd => exact List.mem_cons_self
  | tl _ ih => exact List.mem_cons_of_mem _ ih
theorem Pull.wr {L L1 : Lg} {A B : Chunk} {p : Addr} {o o' : HO} (h : Pull (A ++ (p, o) :: B) L L1) : ∃ L', Wr p o o' L L' ∧ Pull (A ++ (p, o') :: B) L' L1 := by
  induction h with
  | hd => exact ⟨_, Wr.hd, .hd⟩
  | tl _ ih =>
    obtain ⟨L', w, q⟩ := ih
    exact ⟨_, .tl w, .tl q⟩

/-! ### lists of data, told by a chunk -/
def LdD (c : Chunk) (p : Addr) (ds : List PyData) : Prop := ∃ C xs, c = (p, HO.lst xs) :: C ∧ TelAll C xs ds
/-- of tuples of ints; of pairs of an int and a row -/
def LdT (c : Chunk) (p : Addr) (ts : List (List Int)) : Prop := LdD c p (ts.map dT)
def LdW (c : Chunk) (p : Addr) (ws : List (Int × List Int)) : Prop := LdD c p (ws.map VM.dP)
theorem LdD.nil {p : Addr} : LdD [(p, .lst [])] p [] := ⟨[], [], rfl, .nil⟩
theorem LdT.nil {p : Addr} : LdT [(p, .lst [])] p [] := LdD.nil
theorem LdW.nil {p : Addr} : LdW [(p, .lst [])] p [] := LdD.nil
section
variable {K : PySem.W.Frag} {L L1 L2 : Lg} {c : Chunk} {p t a : Addr} {ds : List PyData} {ts : List (List Int)} {ws : List (Int × List Int)} {v : V} {d : PyData} {cs : List Chunk} {P : Lg → Prop} {Q : LVK} {xs ys : List V} {r : List Int} {n : Int}
theorem LdD.tel (h : LdD c p ds) : Tel c (.ref p) (.list ds) := by
  obtain ⟨C, xs, rfl, t⟩ := h
  exact .lst List.mem_cons_self (t.mono fun x hx => List.mem_cons_of_mem _ hx)
theorem LdT.tel (h : LdT c p ts) : Tel c (.ref p) (dTs ts) := LdD.tel h
theorem LdW.tel (h : LdW c p ws) : Tel c (.ref p) (dW ws) := LdD.tel h
theorem LdT.open_ (h : LdT c p ts) : ∃ xs, (p, HO.lst xs) ∈ c ∧ TelAll c xs (ts.map dT) := by
  obtain ⟨C, xs, rfl, t⟩ := h
  exact ⟨xs, List.mem_cons_self, t.mono fun x hx => List.mem_cons_of_mem _ hx⟩
theorem LdW.open_ (h : LdW c p ws) : ∃ xs, (p, HO.lst xs) ∈ c ∧ TelAll c xs (ws.map VM.dP) := by
  obtain ⟨C, xs, rfl, t⟩ := h
  exact ⟨xs, List.mem_cons_self, t.mono fun x hx => List.mem_cons_of_mem _ hx⟩
theorem LdD.snoc (h : LdD c p ds) (hv : Tel (cs.flatten) v d) (hp : Pulls cs L L1) (hc : Pull c L1 L2) (hz : ds.length < 1000000) (k : ∀ c', LdD c' p (ds ++ [d]) → Wk P (c' :: L2)) : gAppend (.ref p) [v] L (fun _ => Wk P) := by
  obtain ⟨C, xs, rfl, t⟩ := h
  obtain ⟨L3, g1, g2⟩ := hp.sw hc
  obtain ⟨L', w, q⟩ := Pull.wr (A := []) (o' := .lst (xs ++ [v])) g1
  refine s_append w (by rw [t.len]; exact hz) ?_
  obtain ⟨L5, l, z⟩ := k ((p, .lst (xs ++ [v])) :: (cs.flatten ++ C)) ⟨_, _, rfl, TelAll.snoc (hv.mono fun x hx => List.mem_append_left _ hx) (t.mono fun x hx => List.mem_append_right _ hx)⟩
  refine ⟨L5, Lic.trans (LicS.lic ?_) l, z⟩
  refine LicS.trans (LicS.pull q g2.lic) ⟨[], ?_⟩
  simp only [List.flatten_cons, List.cons_append, List.nil_append, List.append_nil, ← List.append_assoc]
  exact List.Perm.cons _ (List.perm_append_comm.append_right _)
theorem s_appT (h : LdT c p ts) (hp : Pull [(t, .tup xs)] L L1) (hc : Pull c L1 L2) (hv : IntsV xs r) (hz : ts.length < 1000000) (k : ∀ c', LdT c' p (ts ++ [r]) → Wk P (c' :: L2)) : gAppend (.ref p) [.ref t] L (fun _ => Wk P) := by
  have e := hv.eq
  subst e
  refine LdD.snoc (d := dT r) (cs := [[(t, .tup (r.map V.int))]]) h (Tel.tints (by simp)) (.cons hp .nil) hc (by simpa using hz) fun c' h' => k c' ?_
  unfold LdT
  rw [List.map_append]
  exact h'
theorem s_appW (h : LdW c p ws) (hp : Pulls [[(t, .tup [.int n, .ref a])], [(a, .lst ys)]] L L1) (hc : Pull c L1 L2) (hv : IntsV ys r) (hz : ws.length < 1000000) (k : ∀ c', LdW c' p (ws ++ [(n, r)]) → Wk P (c' :: L2)) : gAppend (.ref p) [.ref t] L (fun _ => Wk P) := by
  have e := hv.eq
  subst e
  refine LdD.snoc (d := VM.dP (n, r)) h (Tel.dP (a := a) (by simp) (by simp)) hp hc (by simpa using hz) fun c' h' => k c' ?_
  unfold LdW
  rw [List.map_append]
  exact h'
theorem DpL.ldT (h : LdT c p ts) (hm : c ∈ L) : DpL K L (.ref p) (dTs ts) := DpL.tel h.tel hm
theorem DpL.ldW (h : LdW c p ws) (hm : c ∈ L) : DpL K L (.ref p) (dW ws) := DpL.tel h.tel hm
theorem LdT.isl (h : LdT c p ts) (hm : c ∈ L) : ∃ xs, At L p (.lst xs) ∧ xs.length = ts.length ∧ TelAll c xs (ts.map dT) := by
  obtain ⟨xs, h1, h2⟩ := h.open_
  exact ⟨xs, At.mem hm h1, by rw [h2.len, List.length_map], h2⟩
theorem LdW.isl (h : LdW c p ws) (hm : c ∈ L) : ∃ xs, At L p (.lst xs) ∧ xs.length = ws.length ∧ TelAll c xs (ws.map VM.dP) := by
  obtain ⟨xs, h1, h2⟩ := h.open_
  exact ⟨xs, At.mem hm h1, by rw [h2.len, List.length_map], h2⟩
theorem s_len_ldT (h : LdT c p ts) (hm : c ∈ L) (k : Q (.int ts.length) L) : gLen K [.ref p] L Q := by
  obtain ⟨xs, h1, h2, _⟩ := h.isl hm
  exact s_len_l (IsL.at_ h1) (by rw [h2]; exact k)
theorem s_len_ldW (h : LdW c p ws) (hm : c ∈ L) (k : Q (.int ws.length) L) : gLen K [.ref p] L Q := by
  obtain ⟨xs, h1, h2, _⟩ := h.isl hm
  exact s_len_l (IsL.at_ h1) (by rw [h2]; exact k)
theorem ty_ldT (h : LdT c p ts) (hm : c ∈ L) : TyXL K L (.ref p) (.type "list") := by
  obtain ⟨xs, h1, _⟩ := h.isl hm
  exact ty_l h1
theorem ty_ldW (h : LdW c p ws) (hm : c ∈ L) : TyXL K L (.ref p) (.type "list") := by
  obtain ⟨xs, h1, _⟩ := h.isl hm
  exact ty_l h1
theorem tyl_ldT {B : Prop} (h : LdT c p ts) (hm : c ∈ L) (k : B) : TyL K "list" (.ref p) L ∧ B := by
  obtain ⟨xs, h1, _⟩ := h.isl hm
  exact s_tylk (IsL.at_ h1) k
theorem tyl_ldW {B : Prop} (h : LdW c p ws) (hm : c ∈ L) (k : B) : TyL K "list" (.ref p) L ∧ B := by
  obtain ⟨xs, h1, _⟩ := h.isl hm
  exact s_tylk (IsL.at_ h1) k
/-- a row put at the end of a volume -/
theorem cells_snocP {as : List Addr} {rows : List (List Int)} {L T : Lg} (hl : as.length = rows.length) (h : LicS L ([(p, .lst ((as.map V.ref) ++ [.ref a]))] :: [(a, .lst (r.map V.int))] :: cellsL as rows :: T)) : LicS L (volC p (as ++ [a]) (rows ++ [r]) :: T) := by
  refine h.trans ⟨[], ?_⟩
  unfold volC
  rw [cells_snoc hl, List.map_append]
  simp only [List.flatten_cons, List.cons_append, List.nil_append, List.append_nil, List.append_assoc, List.map_cons, List.map_nil]
  exact List.Perm.cons _ List.perm_middle.symm
theorem s_appR {as : List Addr} {rows : List (List Int)} (hp : Pull [(a, .lst ys)] L L1) (hc : Pull (volC p as rows) L1 L2) (hv : IntsV ys r) (hl : as.length = rows.length) (hz : rows.length < 1000000) (k : Wk P (volC p (as ++ [a]) (rows ++ [r]) :: L2)) : gAppend (.ref p) [.ref a] L (fun _ => Wk P) := by
  have e := hv.eq
  subst e
  obtain ⟨L3, g1, g2⟩ := hp.sw hc
  obtain ⟨L', w, q⟩ := Pull.wr (A := []) (o' := .lst ((as.map V.ref) ++ [.ref a])) g1
  refine s_append w (by rw [List.length_map, hl]; exact hz) ?_
  obtain ⟨L5, l, z⟩ := k
  refine ⟨L5, Lic.trans (LicS.lic ?_) l, z⟩
  refine cells_snocP hl (LicS.trans (LicS.pull q (LicS.pull g2 LicS.refl)) ⟨[], ?_⟩)
  simp only [List.flatten_cons, List.cons_append, List.nil_append, List.append_nil]
  exact List.Perm.cons _ List.perm_middle
/-- a list of ints made longer by a row -/
theorem s_ext_i {q : Addr} {ns ms : List Int} (h : At L q (.lst ys)) (hw : Wr p (.lst xs) (.lst ((ns ++ ms).map V.int)) L L1) (v : IntsV ys ms) (v' : IntsV xs ns) (hz : ns.length + ms.length ≤ 1000000) (k : Q .non L1) : gExtend (.ref p) [.ref q] L Q := by
  have e := v.eq
  have e' := v'.eq
  subst e; subst e'
  exact s_extend h (by rw [← List.map_append]; exact hw) (by simpa using hz) k
variable {σ σw : St} {gg : LTG} {tb : LTS} {n0 : St → Lg → Prop} {r0 : LVK} {b0 c0 : St → Lg → Prop} {tt : LTT} {te : LTE} {vw : List Nat} {Dl : Addr}
/-! comprehensions over tuples -/
theorem c_tup (Pv : Nat → List V → Lg → Prop) {σw : St} (hw : wipe σ vw = σw) (h0 : Wk (Pv 0 []) L) (hG : ∀ i acc L, Pv i acc L → IsT K ([(Dl, .lst acc)] :: L) p xs) (hs : ∀ i acc x L, xs[i]? = some x → Pv i acc L → gg x σw ([(Dl, .lst acc)] :: L) (LcT tt te Dl acc (Pv (i + 1)) σw vw)) (hd : ∀ acc L, Pv xs.length acc L → Wk (Q (.ref Dl)) ([(Dl, .lst acc)] :: L)) : LcR (wkT K p xs) gg tt te vw σ Dl L Q := by
  refine ⟨Pv, h0, fun i acc L _ h => hG i acc L h, fun i acc x L L' hi p _ ⟨e1, e2⟩ => ?_, fun acc L p _ => hd acc L p⟩
  subst e1; subst hw
  exact hs i acc x _ e2 p
theorem a_dropT {ns : List Int} (hx : IsT K L p xs) (hv : IntsV xs ns) (hw : wipe σ vw = σw)
    (hs : ∀ (x : Int) (Dl : Addr), x ∈ ns → gg (.int x) σw ([(Dl, .lst [])] :: L) (LcT tt te Dl [] (AccN L) σw vw))
    (hd : ∀ Dl, Wk (Q (.ref Dl)) ([(Dl, .lst [])] :: L)) : ∀ Dl, Dl ∉ keys L → LcR (wkT K p xs) gg tt te vw σ Dl L Q := fun Dl _ => by
  have hv := hv.eq
  subst hv
  refine c_tup (fun i acc L' => AccN L acc L') hw (Wk.go ⟨rfl, rfl⟩) (fun i acc L' h => ?_) ?_ ?_
  · rw [h.2]; exact IsT.tl hx
  · rintro i acc x L' hi ⟨rfl, rfl⟩
    rw [List.getElem?_map] at hi
    obtain ⟨y, hy, rfl⟩ := Option.map_eq_some_iff.mp hi
    exact hs y Dl (List.mem_of_getElem? hy)
  · rintro acc L' ⟨rfl, rfl⟩
    exact hd Dl
theorem a_filtT {ns : List Int} (f : Int → Bool) (hx : IsT K L p xs) (hv : IntsV xs ns) (hw : wipe σ vw = σw) (hz : ns.length ≤ 1000000)
    (hs : ∀ (x : Int) (acc : List V) (Dl : Addr), x ∈ ns → acc.length < 1000000 → gg (.int x) σw ([(Dl, .lst acc)] :: L) (LcT tt te Dl acc (AccB acc (f x) (.int x) L) σw vw))
    (hd : ∀ Dl, Wk (Q (.ref Dl)) ([(Dl, .lst ((ns.filter f).map V.int))] :: L)) : ∀ Dl, Dl ∉ keys L → LcR (wkT K p xs) gg tt te vw σ Dl L Q := fun Dl _ => by
  have hv := hv.eq
  subst hv
  refine c_tup (fun i acc L' => acc = ((ns.take i).filter f).map V.int ∧ i ≤ ns.length ∧ L' = L) hw (Wk.go ⟨by simp, Nat.zero_le _, rfl⟩) (fun i acc L' h => ?_) ?_ ?_
  · rw [h.2.2]; exact IsT.tl hx
  · rintro i acc x L' hi ⟨rfl, hl, rfl⟩
    rw [List.getElem?_map] at hi
    obtain ⟨y, hy, rfl⟩ := Option.map_eq_some_iff.mp hi
    have hlt : i < ns.length := (List.getElem?_eq_some_iff.mp hy).1
    have hle : ((ns.take i).filter f).length ≤ i := Nat.le_trans (List.length_filter_le _ _) (by simp; omega)
    have := hs y (((ns.take i).filter f).map V.int) Dl (List.mem_of_getElem? hy) (by rw [List.length_map]; omega)
    have e : AccB (((ns.take i).filter f).map V.int) (f y) (.int y) L' = fun acc' L'' => acc' = ((ns.take (i + 1)).filter f).map V.int ∧ i + 1 ≤ ns.length ∧ L'' = L' := by
      funext a b
      unfold AccB
      rw [List.take_succ, hy]
      have : i + 1 ≤ ns.length := hlt
      cases hf : f y <;> simp [this, hf]
    rw [e] at this
    exact this
  · rintro acc L' ⟨rfl, _, rfl⟩
    rw [List.length_map, List.take_length]
    exact hd Dl
theorem s_kseqT {R : LWk → Lg → Prop} (h : LdT c p ts) (hm : c ∈ L) (k : ∀ xs, (p, HO.lst xs) ∈ c → TelAll c xs (ts.map dT) → R (wkL K p xs) L) : SeqK K R (.ref p) L := by
  obtain ⟨xs, h1, h2⟩ := h.open_
  exact s_kseqv (IsL.at_ (At.mem hm h1)) (k xs h1 h2)
theorem s_kseqW {R : LWk → Lg → Prop} (h : LdW c p ws) (hm : c ∈ L) (k : ∀ xs, (p, HO.lst xs) ∈ c → TelAll c xs (ws.map VM.dP) → R (wkL K p xs) L) : SeqK K R (.ref p) L := by
  obtain ⟨xs, h1, h2⟩ := h.open_
  exact s_kseqv (IsL.at_ (At.mem hm h1)) (k xs h1 h2)
theorem dTs_nil {a : List (List Int)} : dTs a = dI [] ↔ a = [] := by
  cases a <;> simp [dTs, dI]
theorem dTs_nil' {a : List (List Int)} : dI [] = dTs a ↔ a = [] := by
  cases a <;> simp [dTs, dI]
/-- tuples gathered turn by turn -/
def accM (g : Nat → List (List Int)) (n : Nat) : List (List Int) := ((List.range n).map g).flatten
theorem accM_succ (g : Nat → List (List Int)) (n : Nat) : accM g (n + 1) = accM g n ++ g n := by
  unfold accM
  rw [List.range_succ, List.map_append, List.flatten_append]
  simp
theorem accM_congr {g h : Nat → List (List Int)} {n : Nat} (e : ∀ i, i < n → g i = h i) : accM g n = accM h n := by
  unfold accM
  congr 1
  exact List.map_congr_left fun i hi => e i (List.mem_range.mp hi)
theorem accM_len {g : Nat → List (List Int)} (h : ∀ j, (g j).length ≤ 1) : ∀ i, (accM g i).length ≤ i
  | 0 => Nat.le_refl _
  | i + 1 => by
    rw [accM_succ, List.length_append]
    have := h i
    have := accM_len h i
    omega
/-- .. item by item -/
def accL (g : Int → List (List Int)) (ns : List Int) : List (List Int) := (ns.map g).flatten
theorem accL_take (g : Int → List (List Int)) {ns : List Int} {i : Nat} {x : Int} (h : ns[i]? = some x) : accL g (ns.take (i + 1)) = accL g (ns.take i) ++ g x := by
  unfold accL
  rw [List.take_succ, h]
  simp
theorem accL_len {g : Int → List (List Int)} (h : ∀ j, (g j).length ≤ 1) (ns : List Int) : (accL g ns).length ≤ ns.length := by
  induction ns with
  | nil => exact Nat.le_refl _
  | cons n ns ih =>
    unfold accL at ih ⊢
    rw [List.map_cons, List.flatten_cons, List.length_append, List.length_cons]
    have := h n
    omega
theorem LdT.to {ts' : List (List Int)} (h : LdT c p ts) (e : ts' = ts) : LdT c p ts' := e ▸ h
theorem LdW.to {ws' : List (Int × List Int)} (h : LdW c p ws) (e : ws' = ws) : LdW c p ws' := e ▸ h
/-! rows of a volume changed -/
theorem rowAt_set {rows : List (List Int)} {j k : Int} {r : List Int} (hj : 0 ≤ j) (hk : 0 ≤ k) (hl : j < rows.length) : rowAt (rows.set j.toNat r) k = if k = j then r else rowAt rows k := by
  unfold rowAt
  simp only [List.getD_eq_getElem?_getD, List.getElem?_set]
  by_cases e : k = j
  · subst e
    have : k.toNat < rows.length := by omega
    simp [this]
  · have : ¬ j.toNat = k.toNat := by omega
    simp [this, e]
theorem rowAt_putAt {rows : List (List Int)} {j k : Int} {n : Nat} {v : Int} (hj : 0 ≤ j) (hk : 0 ≤ k) (hl : j < rows.length) : rowAt (putAt rows j n v) k = if k = j then (rowAt rows j).set n v else rowAt rows k := rowAt_set hj hk hl
theorem rowAt_snoc {rows : List (List Int)} {k : Int} {r : List Int} (hk : 0 ≤ k) : rowAt (rows ++ [r]) k = if k < rows.length then rowAt rows k else if k = rows.length then r else [] := by
  unfold rowAt
  simp only [List.getD_eq_getElem?_getD]
  by_cases e : k < rows.length
  · rw [if_pos e, List.getElem?_append_left (by omega)]
  · rw [if_neg e, List.getElem?_append_right (by omega)]
    by_cases e2 : k = rows.length
    · rw [if_pos e2]
      have : k.toNat - rows.length = 0 := by omega
      rw [this]; rfl
    · rw [if_neg e2]
      have : ∃ m, k.toNat - rows.length = m + 1 := ⟨k.toNat - rows.length - 1, by omega⟩
      obtain ⟨m, hm⟩ := this
      rw [hm]; rfl
/-! in, of ints -/
theorem inV_ints (x : Int) : ∀ ns : List Int, inV (.int x) (ns.map V.int) = decide (x ∈ ns)
  | [] => by simp [inV]
  | n :: ns => by
    have ih := inV_ints x ns
    unfold inV at ih ⊢
    rw [List.map_cons, List.any_cons, ih]
    by_cases e : x = n
    · subst e; simp [eqV]
    · have e' : ¬ n = x := fun h => e h.symm
      simp [eqV, e, e']
theorem flat_ints : ∀ ns : List Int, (ns.map V.int).all flatV = true
  | [] => rfl
  | n :: ns => by rw [List.map_cons, List.all_cons, flat_ints ns]; rfl
section
variable {x : Int} {ns : List Int}
theorem s_in_i (h : IsL K L p xs) (v : IntsV xs ns) (k : Q (.bl (decide (x ∈ ns))) L) : gIn K false (.int x) (.ref p) L Q := by
  have e := v.eq
  subst e
  exact .inl ⟨p, _, rfl, .inl h, rfl, flat_ints ns, by rw [inV_ints]; exact k⟩
theorem s_nin_i (h : IsL K L p xs) (v : IntsV xs ns) (k : Q (.bl (!decide (x ∈ ns))) L) : gIn K true (.int x) (.ref p) L Q := by
  have e := v.eq
  subst e
  exact .inl ⟨p, _, rfl, .inl h, rfl, flat_ints ns, by rw [inV_ints]; exact k⟩
theorem s_in_it (h : IsT K L p xs) (v : IntsV xs ns) (k : Q (.bl (decide (x ∈ ns))) L) : gIn K false (.int x) (.ref p) L Q := by
  have e := v.eq
  subst e
  exact .inl ⟨p, _, rfl, .inr h, rfl, flat_ints ns, by rw [inV_ints]; exact k⟩
theorem s_nin_it (h : IsT K L p xs) (v : IntsV xs ns) (k : Q (.bl (!decide (x ∈ ns))) L) : gIn K true (.int x) (.ref p) L Q := by
  have e := v.eq
  subst e
  exact .inl ⟨p, _, rfl, .inr h, rfl, flat_ints ns, by rw [inV_ints]; exact k⟩
/-! dicts by ints -/
variable {kvs : List (Key × V)} {i : Int}
theorem s_in_d (h : At L p (.dK kvs)) (k : Q (.bl (valV kvs (.inl i)).isSome) L) : gIn K false (.int i) (.ref p) L Q := .inr ⟨p, _, rfl, fun H l => DGet.k (k := .inl i) (h H l), k⟩
theorem s_nin_d (h : At L p (.dK kvs)) (k : Q (.bl (!(valV kvs (.inl i)).isSome)) L) : gIn K true (.int i) (.ref p) L Q := .inr ⟨p, _, rfl, fun H l => DGet.k (k := .inl i) (h H l), k⟩
theorem s_ix_d (h : At L p (.dK kvs)) (e : valV kvs (.inl i) = some v) (k : Q v L) : gIx K (.ref p) (.int i) L Q := .inr (.inr ⟨p, v, rfl, fun H l => e ▸ DGet.k (k := .inl i) (h H l), k⟩)
theorem s_set_d {Q : Lg → Prop} (hw : Wr p (.dK kvs) (.dK (putK kvs (.inl i) v)) L L1) (hz : kvs.length < 1000000) (k : Q L1) : gSet (.ref p) (.int i) v L Q := .inr ⟨p, kvs, .inl i, L1, rfl, rfl, Nat.lt_of_lt_of_le hz (by decide), hw, k⟩
end
/-! sorted ints -/
def gSortedI (K : PySem.W.Frag) : LRC := fun xs L Q => ∃ (a : Addr) (ns : List Int), xs = [.ref a] ∧ IsL K L a (ns.map V.int) ∧ ∀ (ms : List Int) (q : Addr), ms.Perm ns → ms.Pairwise (· ≤ ·) → q ∉ keys L → Q (.ref q) ([(q, .lst (ms.map V.int))] :: L)
theorem lk_sorted {X : Cx} : CallL X (.builtin "sorted") (gSortedI X.K) := CallR.imp cr_sortedI fun xs H Q ⟨L, QL, hL, ⟨a, ns, e, h1, h2⟩, k⟩ => ⟨a, ns, e, h1 H hL, fun ms q p1 p2 hq => k _ _ _ (h2 ms q p1 p2 (hL.fresh hq)) (hL.new hq)⟩
theorem kk_sorted {X : Cx} (K : PySem.W.Frag) (h : X.K = K := by rfl) : CallL X (.builtin "sorted") (gSortedI K) := by subst h; exact lk_sorted
theorem s_sorted {ns : List Int} {xs : List V} (h : IsL K L a xs) (v : IntsV xs ns) (k : ∀ (ms : List Int) q, ms.Perm ns → ms.Pairwise (· ≤ ·) → ms.length = ns.length → Q (.ref q) ([(q, .lst (ms.map V.int))] :: L)) : gSortedI K [.ref a] L Q := ⟨a, ns, rfl, v.eq ▸ h, fun ms q p1 p2 _ => k ms q p1 p2 p1.length_eq⟩
/-! zip -/
def wkZ (K : PySem.W.Frag) (a b : Addr) (xs ys : List V) : LWk := ⟨min xs.length ys.length, fun L => IsL K L a xs ∧ IsL K L b ys, fun i L x L' => ∃ p u v, p ∉ keys L ∧ x = .ref p ∧ L' = [(p, .tup [u, v])] :: L ∧ xs[i]? = some u ∧ ys[i]? = some v⟩
theorem sim_z {a b : Addr} {xs ys : List V} : Sim (Itz K a b) (wkZ K a b xs ys) := (walk_zip rfl).mono (fun H ⟨L, l, h1, h2⟩ => ⟨h1 H l, h2 H l⟩) fun i H x H' hi g y L l _ => by
  obtain ⟨p, u, v, e1, hp, e2, h1, h2⟩ := y
  subst e1; subst e2
  exact ⟨_, l.new hp, p, u, v, l.fresh hp, rfl, rfl, h1, h2⟩
def kZip (K : PySem.W.Frag) (ta : LTA) : LTI := fun σ L R => ta σ L fun vs L1 => ∃ a b xs ys, vs = [.ref a, .ref b] ∧ IsL K L1 a xs ∧ IsL K L1 b ys ∧ R (wkZ K a b xs ys) L1
theorem li_zip {X : Cx} {e e2 : Expr} {ta : LTA} {p pos tpos : Pos} {elts : List Expr} {kk : Nat} (hg : Gl X "zip") (hm : X.mg "zip" = none) (ha : LA X [e, e2] ta)
    (hs : starEach [e, e2] X.env = (false, eval e X.env) :: starEach [e2] X.env := by rfl) (hpl : (backTo pos (starEach [e2] X.env)).any (·.1) = false := by rfl) : LI X (.Tuple elts kk tpos) (.Call (.Name "zip" p) [e, e2] [] pos) (kZip X.K ta) := by
  refine PI.imp (pi_zip hg hm ha hs hpl) fun σ H R h => ?_
  obtain ⟨L, RL, hL, h, k⟩ := h
  exact ⟨L, _, hL, h, fun vs L1 H1 ⟨a, b, xs, ys, e, h1, h2, h3⟩ l => ⟨a, b, xs, ys, e, h1 H1 l, h2 H1 l, k _ _ _ _ h3 l sim_z⟩⟩
theorem ki_zip {X : Cx} (K : PySem.W.Frag) {e e2 : Expr} {ta : LTA} {p pos tpos : Pos} {elts : List Expr} {kk : Nat} (hg : Gl X "zip") (hm : X.mg "zip" = none) (ha : LA X [e, e2] ta)
    (hs : starEach [e, e2] X.env = (false, eval e X.env) :: starEach [e2] X.env := by rfl) (hpl : (backTo pos (starEach [e2] X.env)).any (·.1) = false := by rfl) (h : X.K = K := by rfl) : LI X (.Tuple elts kk tpos) (.Call (.Name "zip" p) [e, e2] [] pos) (kZip K ta) := by subst h; exact li_zip hg hm ha hs hpl
def ZipK (K : PySem.W.Frag) (R : LWk → Lg → Prop) : List V → Lg → Prop := fun vs L1 => ∃ a b xs ys, vs = [.ref a, .ref b] ∧ IsL K L1 a xs ∧ IsL K L1 b ys ∧ R (wkZ K a b xs ys) L1
variable {R : LWk → Lg → Prop} {tr : LTA}
instance j_zip : S1 (kZip K tr σ L R) (tr σ L (ZipK K R)) := ⟨id⟩
theorem s_zipv {b : Addr} (h1 : IsL K L a xs) (h2 : IsL K L b ys) (k : R (wkZ K a b xs ys) L) : ZipK K R [.ref a, .ref b] L := ⟨a, b, xs, ys, rfl, h1, h2, k⟩
end
end VM

end

section
namespace VM
open PySem PySem.Spec L2
open PyProof.Rows hiding St

theorem dec_f {c : Prop} {d : Decidable c} (h : ¬ c) : @decide c d = false := decide_eq_false h
theorem dec_t {c : Prop} {d : Decidable c} (h : c) : @decide c d = true := decide_eq_true h
theorem dec_c {c c' : Prop} {d : Decidable c} {d' : Decidable c'} (h : c ↔ c') : @decide c d = @decide c' d' := by
  by_cases hc : c
  · rw [decide_eq_true hc, decide_eq_true (h.mp hc)]
  · rw [decide_eq_false hc, decide_eq_false (fun z => hc (h.mpr z))]
/-! ### len(set(ints)) -/
def distN (ns : List Int) : Nat := (PyProof.Rows.firstMet (fun i => ns.getD i 0) ns.length).length
theorem first_nodup (ns : List Int) : ∀ i, i ≤ ns.length → ((PyProof.Rows.firstMet (fun i => ns.getD i 0) i).length = i ↔ (ns.take i).Nodup)
  | 0, _ => by simp [PyProof.Rows.firstMet_zero]
  | i + 1, hi => by
    have hlt : i < ns.length := hi
    have ih := first_nodup ns i (Nat.le_of_lt hlt)
    have hle := PyProof.Rows.firstMet_length_le (fun i => ns.getD i 0) i
    have e1 : ns.getD i 0 = ns[i] := by rw [List.getD_eq_getElem?_getD, List.getElem?_eq_getElem hlt]; rfl
    have e2 : ns.take (i + 1) = ns.take i ++ [ns[i]] := by rw [List.take_succ, List.getElem?_eq_getElem hlt]; rfl
    have e3 : (List.range i).map (fun i => ns.getD i 0) = ns.take i := by
      apply List.ext_getElem?
      intro j
      rw [List.getElem?_map, List.getElem?_take]
      by_cases hj : j < i
      · rw [List.getElem?_range hj, if_pos hj]
        simp only [Option.map_some, List.getD_eq_getElem?_getD, List.getElem?_eq_getElem (show j < ns.length by omega)]
        rfl
      · rw [if_neg hj, List.getElem?_eq_none (by simpa using hj)]
        rfl
    have ha := PyProof.Rows.firstMet_any (fun i => ns.getD i 0) i ns[i]
    rw [e3] at ha
    rw [PyProof.Rows.firstMet_succ, e2]
    unfold PyProof.Rows.step_dedup
    rw [e1, ha]
    have hnd : (ns.take i ++ [ns[i]]).Nodup ↔ (ns.take i).Nodup ∧ ns[i] ∉ ns.take i := by
      rw [List.nodup_append]
      simp only [List.nodup_cons, List.not_mem_nil, not_false_eq_true, List.nodup_nil, and_self, List.mem_cons, or_false, ne_eq, true_and]
      constructor
      · rintro ⟨h1, h2⟩
        exact ⟨h1, fun h => h2 _ h _ rfl rfl⟩
      · rintro ⟨h1, h2⟩
        exact ⟨h1, fun a ha b hb e => h2 (by subst hb; subst e; exact ha)⟩
    by_cases hm : ns[i] ∈ ns.take i
    · have : (ns.take i).any (· == ns[i]) = true := List.any_eq_true.mpr ⟨_, hm, by simp⟩
      rw [if_pos this, hnd]
      constructor
      · intro h; omega
      · intro h; exact absurd hm h.2
    · have : ¬ (ns.take i).any (· == ns[i]) = true := fun h => by
        obtain ⟨y, hy, e⟩ := List.any_eq_true.mp h
        rw [eq_of_beq e] at hy
        exact hm hy
      rw [if_neg this, List.length_append, List.length_singleton, hnd]
      constructor
      · intro h; exact ⟨ih.mp (by omega), hm⟩
      · intro h; rw [ih.mpr h.1]
theorem distN_iff (ns : List Int) : distN ns = ns.length ↔ ns.Nodup := by
  have := first_nodup ns ns.length (Nat.le_refl _)
  rw [List.take_length] at this
  exact this
def tLenSetG (K : PySem.W.Frag) (ta : TE) : TE := fun σ H Q => ta σ H fun x H1 => ∃ (l : Addr) (ns : List Int), x = .ref l ∧ SqL K H1 l (ns.map V.int) ∧ ns.length ≤ 4000 ∧ Q (.int (distN ns)) H1
theorem pe_lenSetG {X : Cx} {a : Expr} {ta : TE} {p p2 q pos : Pos} (hg : Gl X "len") (hm : X.mg "len" = none) (hg2 : Gl X "set") (hm2 : X.mg "set" = none) (ha : PE X a ta) (hc : X.calm = true := by rfl)
    (na : starEach [a] X.env = (false, eval a X.env) :: starEach [] X.env := by rfl) : PE X (.Call (.Name "len" p) [.Call (.Name "set" p2) [a] [] q] [] pos) (tLenSetG X.K ta) := by
  refine ⟨fun pins s σ H Q I h => ?_⟩
  refine Call_ (ld_blt I hg hm boot_len ?_)
  refine PyProof.Rows.callWith_builtin1 (PyProof.Rows.args_cons ?_ rfl) rfl rfl
  refine Call_ (ld_blt I hg2 hm2 boot_set ?_)
  refine PyProof.Rows.callWith_type1 (PyProof.Rows.args_cons (thn (ha.run pins s σ H _ I h) fun v s1 ⟨x, H1, I1, r1, q1⟩ => PyProof.Rows.args_nil ?_) na) na rfl
  obtain ⟨l, ns, rfl, hq, hl, q1⟩ := q1
  cases r1
  obtain ⟨its, r, pl, hz⟩ := I1.list hq
  have hlen : its.toArray.size = ns.length := by rw [List.size_toArray, ← r.length, List.length_map]
  refine call_set_list (I1.ok.hd hc) pl.isList (by simpa using RZ.intsAre_vals r) (by rw [hlen]; unfold scanBound; omega) fun h' tk hS hk => ?_
  refine PyProof.Rows.args_nil ?_
  rw [hlen] at hS
  obtain ⟨o, es, ep, t, ho, hex, hd, _, _, _, hf, hn⟩ := hS
  have I2 : Inv X pins σ H1 { s1 with heap := h', toks := tk } := I1.kept fun b o e => hk b o (Heap.lt_size e) e
  have hle := PyProof.Rows.firstMet_length_le (fun i => ns.getD i 0) ns.length
  exact call_len_set ho hex hd hf (by rw [hn] <;> omega) ⟨.int (distN ns), H1, I2.tok _, ⟨_, by rw [hn]; rfl⟩, q1⟩
def lLenSet (K : PySem.W.Frag) (ta : LTE) : LTE := fun σ L Q => ta σ L fun x L1 => ∃ (l : Addr) (ns : List Int), x = .ref l ∧ IsL K L1 l (ns.map V.int) ∧ ns.length ≤ 4000 ∧ Q (.int (distN ns)) L1
theorem klenset {X : Cx} (K : PySem.W.Frag) {a : Expr} {ta : LTE} {p p2 q pos : Pos} (hg : Gl X "len") (hm : X.mg "len" = none) (hg2 : Gl X "set") (hm2 : X.mg "set" = none) (ha : LE X a ta) (hc : X.calm = true := by rfl)
    (na : starEach [a] X.env = (false, eval a X.env) :: starEach [] X.env := by rfl) (h : X.K = K := by rfl) : LE X (.Call (.Name "len" p) [.Call (.Name "set" p2) [a] [] q] [] pos) (lLenSet K ta) := by
  subst h
  refine PE.imp (pe_lenSetG hg hm hg2 hm2 ha hc na) fun σ H Q h => ?_
  obtain ⟨L, QL, hL, h, k⟩ := h
  exact ⟨L, _, hL, h, fun x L1 H1 ⟨l, ns, e, h1, h2, h3⟩ hL1 => ⟨l, ns, e, h1 H1 hL1, h2, k _ _ _ h3 hL1⟩⟩
section
variable {K : PySem.W.Frag} {σ : St} {L L1 L2 : Lg} {Q : LVK} {ta : LTE} {c : Chunk} {p a b t : Addr} {ns : List Int} {xs ys : List V} {ws : List (Int × List Int)} {P : Lg → Prop}
def LenSetK (K : PySem.W.Frag) (Q : LVK) : LVK := fun x L1 => ∃ (l : Addr) (ns : List Int), x = .ref l ∧ IsL K L1 l (ns.map V.int) ∧ ns.length ≤ 4000 ∧ Q (.int (distN ns)) L1
instance j_lenset : S1 (lLenSet K ta σ L Q) (ta σ L (LenSetK K Q)) := ⟨id⟩
theorem s_lenset (h : IsL K L p xs) (v : IntsV xs ns) (hz : ns.length ≤ 4000) (k : Q (.int (distN ns)) L) : LenSetK K Q (.ref p) L := ⟨p, ns, rfl, v.eq ▸ h, hz, k⟩

/-! ### chains -/
def ChK (r' : LR2) (tc : LTE) (σ : St) (y : V) (Q : LVK) : LVK := fun z L3 => ∃ k, z = .bl k ∧ (if k = true then tc σ L3 fun w' L4 => r' y w' L4 Q else Q (.bl false) L3)
instance j_chain {r r' : LR2} {tb tc : LTE} : S1 (lChain r r' ta tb tc σ L Q) (ta σ L fun x L1 => tb σ L1 fun y L2 => r x y L2 (ChK r' tc σ y Q)) := ⟨id⟩
instance j_chk {r' : LR2} {tc : LTE} {y : V} {b : Bool} : S1 (ChK r' tc σ y Q (.bl b) L) (if b = true then tc σ L fun w' L4 => r' y w' L4 Q else Q (.bl false) L) := ⟨fun h => ⟨b, rfl, h⟩⟩
theorem q_bl {b b' : Bool} (h : Q (.bl b') L) (e : b' = b) : Q (.bl b) L := e ▸ h
theorem s_sl_r {as : List Addr} {lo hi : Option Int} (h : IsL K L p (as.map V.ref)) (k : ∀ r, Q (.ref r) ([(r, .lst ((cutG as lo hi).map V.ref))] :: L)) : gSl K (.ref p) lo hi L Q := .inl ⟨p, _, rfl, h, fun r _ => by rw [cutV_map]; exact k r⟩
theorem cutG_map {α β : Type} (f : α → β) (xs : List α) (lo hi : Option Int) : cutG (xs.map f) lo hi = (cutG xs lo hi).map f := by
  unfold cutG
  rw [List.length_map, List.map_take, List.map_drop]
theorem cutG_same {α β : Type} {xs : List α} {ys : List β} (h : xs.length = ys.length) (lo hi : Option Int) : ∃ a n, cutG xs lo hi = (xs.drop a).take n ∧ cutG ys lo hi = (ys.drop a).take n := by
  refine ⟨_, _, rfl, ?_⟩
  unfold cutG
  rw [h]
theorem s_add_iv {q : Addr} {ms : List Int} (h1 : At L p (.lst xs)) (h2 : At L q (.lst ys)) (v1 : IntsV xs ns) (v2 : IntsV ys ms) (hz : ns.length + ms.length ≤ 1000000) (k : ∀ r, Q (.ref r) ([(r, .lst ((ns ++ ms).map V.int))] :: L)) : gAdd K (.ref p) (.ref q) L Q := by
  have e1 := v1.eq
  have e2 := v2.eq
  subst e1; subst e2
  exact s_add_l h1 h2 (by simp only [List.length_map]; exact Nat.le_trans hz (by decide)) fun r => by rw [← List.map_append]; exact k r
theorem s_rep1 {a j : Int} (h : At L p (.lst [V.int a])) (h1 : 0 ≤ j) (h2 : j.toNat ≤ 1000000) (k : ∀ r, Q (.ref r) ([(r, .lst ((List.replicate j.toNat a).map V.int))] :: L)) : gMul (.ref p) (.int j) L Q := by
  refine s_rep h h1 (by simpa using h2) (by omega) fun r => ?_
  have e := (IntsV.rep (k := j.toNat) (a := a)).eq
  rw [e]
  exact k r
theorem s_iteDx {c A B : Prop} {d : Decidable c} (h1 : c → A) (h2 : ¬ c → B) : if @decide c d = true then A else B := by
  by_cases h : c
  · rw [decide_eq_true h, if_pos rfl]; exact h1 h
  · rw [decide_eq_false h, if_neg Bool.false_ne_true]; exact h2 h
theorem s_iteNx {c A B : Prop} {d : Decidable c} (h1 : c → B) (h2 : ¬ c → A) : if (!@decide c d) = true then A else B := by
  by_cases h : c
  · rw [decide_eq_true h]; exact iteF (h1 h)
  · rw [decide_eq_false h]; exact iteT (h2 h)
theorem s_ix_ldW {i : Int} (h : LdW c p ws) (hm : c ∈ L) (h0 : 0 ≤ i) (h1 : i < ws.length) (k : ∀ t a, (t, HO.tup [.int (ws.getD i.toNat (0, [])).1, .ref a]) ∈ c → (a, HO.lst ((ws.getD i.toNat (0, [])).2.map V.int)) ∈ c → Q (.ref t) L) : gIx K (.ref p) (.int i) L Q := by
  obtain ⟨xs, h2, h3⟩ := h.open_
  obtain ⟨n, rfl⟩ : ∃ n : Nat, i = n := ⟨i.toNat, by omega⟩
  have hn : n < ws.length := by omega
  have hxl : xs.length = ws.length := by rw [h3.len, List.length_map]
  obtain ⟨w, t, a, e1, e2, m1, m2⟩ := h3.pair (List.getElem?_eq_getElem (show n < xs.length by omega))
  have ew : ws.getD (n : Int).toNat (0, []) = w := by
    rw [List.getD_eq_getElem?_getD, Int.toNat_natCast, e1]; rfl
  refine s_ix_l (v := .ref t) (IsL.at_ (At.mem hm h2)) (atI_nat ?_) (k t a (by rw [ew]; exact m1) (by rw [ew]; exact m2))
  rw [List.getElem?_eq_getElem (show n < xs.length by omega), e2]
theorem s_ix_ldT {ts : List (List Int)} {i : Int} (h : LdT c p ts) (hm : c ∈ L) (h0 : 0 ≤ i) (h1 : i < ts.length) (k : ∀ t, (t, HO.tup ((ts.getD i.toNat []).map V.int)) ∈ c → Q (.ref t) L) : gIx K (.ref p) (.int i) L Q := by
  obtain ⟨xs, h2, h3⟩ := h.open_
  obtain ⟨n, rfl⟩ : ∃ n : Nat, i = n := ⟨i.toNat, by omega⟩
  have hn : n < ts.length := by omega
  have hxl : xs.length = ts.length := by rw [h3.len, List.length_map]
  obtain ⟨r, t, e1, e2, m1⟩ := h3.tup (List.getElem?_eq_getElem (show n < xs.length by omega))
  have ew : ts.getD (n : Int).toNat [] = r := by
    rw [List.getD_eq_getElem?_getD, Int.toNat_natCast, e1]; rfl
  refine s_ix_l (v := .ref t) (IsL.at_ (At.mem hm h2)) (atI_nat ?_) (k t (by rw [ew]; exact m1))
  rw [List.getElem?_eq_getElem (show n < xs.length by omega), e2]
theorem s_len_tN {n : Nat} (h : IsT K L p xs) (e : xs.length = n) (k : Q (.int n) L) : gLen K [.ref p] L Q := s_len_t h (by rw [e]; exact k)
theorem s_len_lN {n : Nat} (h : IsL K L p xs) (e : xs.length = n) (k : Q (.int n) L) : gLen K [.ref p] L Q := s_len_l h (by rw [e]; exact k)
/-! ### set at a slot -/
theorem setAt_set : ∀ (σ : St) (j : Nat) (v : V), j < σ.length → SetAt v σ j (σ.set j (some v))
  | [], j, v, h => by simp at h
  | x :: σ, 0, v, _ => .hd
  | x :: σ, j + 1, v, h => .tl (setAt_set σ j v (by simpa using h))
theorem wipe2 {σ σw : St} {j k : Nat} {vs : List Nat} (hvs : vs = [j, k]) (hw : wipe σ vs = σw) (x y : Option V) : wipe ((σw.set j x).set k y) vs = σw := by
  subst hvs; subst hw
  simp only [wipe]
  apply List.ext_getElem?
  intro m
  simp only [List.getElem?_set, List.length_set]
  by_cases e1 : k = m <;> by_cases e2 : j = m <;> simp_all

/-! ### [(n, row) for n, row in zip(ints, rows)] -/
theorem a_zipW {as : List Addr} {rows : List (List Int)} {j k : Nat} {vs : List Nat} {ms : List Int} (hm : Pull (volC b as rows) L L1) (ha : IsL K L1 a xs) (v : IntsV xs ms) (hl : as.length = rows.length) (hz : ms.length ≤ 1000) (hj : j < σ.length) (hk : k < σ.length) (hjk : j ≠ k) (hvs : vs = [j, k])
    (kk : ∀ D c, LdW c D (ms.zip rows) → Wk (Q (.ref D)) (c :: L1)) : ∀ D, D ∉ keys L → LcR (wkZ K a b xs (as.map V.ref)) (hTup K 2 (hCons (hName j) (hCons (hName k) hNil))) lYes (lTup (lCons (lVar j) (lCons (lVar k) lNil))) vs σ D L Q := by
  have e := v.eq
  subst e
  intro D hD
  obtain ⟨σw, hw⟩ : ∃ σw, wipe σ vs = σw := ⟨_, rfl⟩
  have hj' : j < σw.length := by rw [← hw, wipe_length]; exact hj
  have hk' : k < σw.length := by rw [← hw, wipe_length]; exact hk
  have hmin : (ms.zip rows).length = min ms.length rows.length := List.length_zip
  refine ⟨fun i acc L' => ∃ C, L' = C :: L1 ∧ acc.length = i ∧ TelAll C acc (((ms.zip rows).take i).map VM.dP) ∧ (∀ x ∈ volC b as rows, x ∈ C), ?_, ?_, ?_, ?_⟩
  · exact Wk.by_ (L' := volC b as rows :: L1) (LicS.lic (LicS.pull hm LicS.refl)) ⟨_, rfl, rfl, by simpa using TelAll.nil, fun x hx => hx⟩
  · rintro i acc L' hi ⟨C, rfl, hacc, ht, hv⟩
    exact ⟨IsL.tl (IsL.tl ha), IsL.at_ (At.tl (At.hd (hv _ List.mem_cons_self)))⟩
  · rintro i acc x L3 L' hi ⟨C, rfl, hacc, ht, hv⟩ hDk ⟨p, u, v, hp, rfl, rfl, hu, hv2⟩
    rw [hw]
    have hi' : i < min ms.length (as.map V.ref).length := by simpa [wkZ] using hi
    rw [List.length_map] at hi'
    have h1 : i < ms.length := by omega
    have h2 : i < as.length := by omega
    have hr : rows[i]? = some rows[i] := List.getElem?_eq_getElem (by omega)
    have hms : ms[i]? = some ms[i] := List.getElem?_eq_getElem h1
    rw [List.getElem?_map, hms] at hu
    obtain rfl := Option.some.inj hu
    have has : as[i]? = some as[i] := List.getElem?_eq_getElem h2
    rw [List.getElem?_map, has] at hv2
    obtain rfl := Option.some.inj hv2
    have hzip : (ms.zip rows)[i]? = some (ms[i], rows[i]) := by rw [List.getElem?_zip_eq_some]; exact ⟨hms, hr⟩
    refine s_htup (IsT.at_ At.hd1) rfl ?_
    refine s_hcons (s_name (setAt_set _ _ _ hj') (s_hcons (s_name (setAt_set _ _ _ (by rw [List.length_set]; exact hk')) (s_hnil ?_))))
    refine ⟨wipe2 hvs hw _ _, s_yes ?_⟩
    rw [if_pos rfl]
    refine s_tup (s_cons (s_var (v := .int ms[i]) (by rw [List.getElem?_set_ne (Ne.symm hjk), List.getElem?_set_self hj']) (s_cons (s_var (v := .ref as[i]) (by rw [List.getElem?_set_self (by rw [List.length_set]; exact hk')]) (s_nil (s_new (show 2 ≤ sizeLine by decide) fun t2 => ?_))))))
    refine ⟨Nat.lt_of_lt_of_le (show acc.length < 1000000 by omega) (by decide), ((t2, .tup [.int ms[i], .ref as[i]]) :: C) :: L1, ?_, ⟨_, rfl, by simp [hacc], ?_, fun x hx => List.mem_cons_of_mem _ (hv x hx)⟩⟩
    · refine LicS.lic (LicS.pull (.tl (.tl .hd)) (LicS.split (LicS.pull .hd (LicS.skip LicS.refl))))
    · have e : ((ms.zip rows).take (i + 1)).map VM.dP = ((ms.zip rows).take i).map VM.dP ++ [VM.dP (ms[i], rows[i])] := by
        rw [List.take_succ, hzip, List.map_append]; rfl
      rw [e]
      exact TelAll.snoc (Tel.dP (a := as[i]) List.mem_cons_self (List.mem_cons_of_mem _ (hv _ (List.mem_cons_of_mem _ (cells_mem has hr))))) (ht.mono fun x hx => List.mem_cons_of_mem _ hx)
  · rintro acc L' ⟨C, rfl, hacc, ht, hv⟩ hDk
    have hn : (wkZ K a b (ms.map V.int) (as.map V.ref)).n = (ms.zip rows).length := by
      show min (ms.map V.int).length (as.map V.ref).length = _
      rw [hmin, List.length_map, List.length_map, hl]
    rw [hn, List.take_length] at ht
    obtain ⟨L5, l, q⟩ := kk D ((D, .lst acc) :: C) ⟨C, acc, rfl, ht⟩
    exact ⟨L5, Lic.trans (LicS.lic (LicS.of_flat (by simp))) l, q⟩
/-! ### [n for n, row in pairs] -/
theorem a_fst {j k : Nat} {vs : List Nat} (hm : c ∈ L) (hp : (p, HO.lst xs) ∈ c) (ht : TelAll c xs (ws.map VM.dP)) (hz : ws.length ≤ 1000) (hj : j < σ.length) (hk : k < σ.length) (hjk : j ≠ k) (hvs : vs = [j, k])
    (kk : ∀ D, Wk (Q (.ref D)) ([(D, .lst ((ws.map Prod.fst).map V.int))] :: L)) : ∀ D, D ∉ keys L → LcR (wkL K p xs) (hTup K 2 (hCons (hName j) (hCons (hName k) hNil))) lYes (lVar j) vs σ D L Q := by
  intro D hD
  obtain ⟨σw, hw⟩ : ∃ σw, wipe σ vs = σw := ⟨_, rfl⟩
  have hj' : j < σw.length := by rw [← hw, wipe_length]; exact hj
  have hk' : k < σw.length := by rw [← hw, wipe_length]; exact hk
  have hxl : xs.length = ws.length := by rw [ht.len, List.length_map]
  refine c_list (fun i acc L' => acc = ((ws.take i).map Prod.fst).map V.int ∧ i ≤ ws.length ∧ L' = L) hw (Wk.go ⟨by simp, Nat.zero_le _, rfl⟩) (fun i acc L' h => ?_) ?_ ?_
  · rw [h.2.2]; exact IsL.tl (IsL.at_ (At.mem hm hp))
  · rintro i acc x L' hi ⟨rfl, hl, rfl⟩
    obtain ⟨⟨n, r⟩, t, a, hwi, rfl, m1, m2⟩ := ht.pair hi
    have hlt : i < ws.length := (List.getElem?_eq_some_iff.mp hwi).1
    refine s_htup (xs := [.int n, .ref a]) (IsT.at_ (At.tl (At.mem hm m1))) rfl ?_
    refine s_hcons (s_name (setAt_set _ _ _ hj') (s_hcons (s_name (setAt_set _ _ _ (by rw [List.length_set]; exact hk')) (s_hnil ?_))))
    refine s_lct (wipe2 hvs hw _ _) (s_yes ?_)
    rw [if_pos rfl]
    refine s_var (v := .int n) (by rw [List.getElem?_set_ne (Ne.symm hjk), List.getElem?_set_self hj']) ?_
    refine s_lcy (L5 := L') (by simp; omega) Lic.refl ⟨?_, hlt, rfl⟩
    rw [List.take_succ, hwi]
    simp
  · rintro acc L' ⟨rfl, _, rfl⟩
    rw [hxl, List.take_length]
    exact kk D
/-- .. the rows -/
theorem a_snd {j k : Nat} {vs : List Nat} (hm : c ∈ L) (hp : (p, HO.lst xs) ∈ c) (ht : TelAll c xs (ws.map VM.dP)) (hz : ws.length ≤ 1000) (hj : j < σ.length) (hk : k < σ.length) (hjk : j ≠ k) (hvs : vs = [j, k])
    (kk : ∀ D (rs : List Addr), rs.length = ws.length → (∀ (i : Nat) a w, rs[i]? = some a → ws[i]? = some w → (a, HO.lst (w.2.map V.int)) ∈ c) → Wk (Q (.ref D)) ([(D, .lst (rs.map V.ref))] :: L)) : ∀ D, D ∉ keys L → LcR (wkL K p xs) (hTup K 2 (hCons (hName j) (hCons (hName k) hNil))) lYes (lVar k) vs σ D L Q := by
  intro D hD
  obtain ⟨σw, hw⟩ : ∃ σw, wipe σ vs = σw := ⟨_, rfl⟩
  have hj' : j < σw.length := by rw [← hw, wipe_length]; exact hj
  have hk' : k < σw.length := by rw [← hw, wipe_length]; exact hk
  have hxl : xs.length = ws.length := by rw [ht.len, List.length_map]
  refine c_list (fun i acc L' => ∃ rs : List Addr, acc = rs.map V.ref ∧ rs.length = i ∧ (∀ (i : Nat) a w, rs[i]? = some a → ws[i]? = some w → (a, HO.lst (w.2.map V.int)) ∈ c) ∧ i ≤ ws.length ∧ L' = L) hw (Wk.go ⟨[], rfl, rfl, (fun i a w h => by simp at h), Nat.zero_le _, rfl⟩) (fun i acc L' h => ?_) ?_ ?_
  · obtain ⟨_, _, _, _, _, rfl⟩ := h
    exact IsL.tl (IsL.at_ (At.mem hm hp))
  · rintro i acc x L' hi ⟨rs, rfl, hrl, hrs, hl, rfl⟩
    obtain ⟨⟨n, r⟩, t, a, hwi, rfl, m1, m2⟩ := ht.pair hi
    have hlt : i < ws.length := (List.getElem?_eq_some_iff.mp hwi).1
    refine s_htup (xs := [.int n, .ref a]) (IsT.at_ (At.tl (At.mem hm m1))) rfl ?_
    refine s_hcons (s_name (setAt_set _ _ _ hj') (s_hcons (s_name (setAt_set _ _ _ (by rw [List.length_set]; exact hk')) (s_hnil ?_))))
    refine s_lct (wipe2 hvs hw _ _) (s_yes ?_)
    rw [if_pos rfl]
    refine s_var (v := .ref a) (by rw [List.getElem?_set_self (by rw [List.length_set]; exact hk')]) ?_
    refine s_lcy (L5 := L') (by simp; omega) Lic.refl ⟨rs ++ [a], by simp, by simp [hrl], ?_, hlt, rfl⟩
    intro m a' w' h1 h2
    by_cases e : m < rs.length
    · rw [List.getElem?_append_left e] at h1
      exact hrs m a' w' h1 h2
    · rw [List.getElem?_append_right (by omega)] at h1
      have hm0 : m = i := by
        by_cases e2 : m - rs.length = 0
        · omega
        · obtain ⟨q, hq⟩ : ∃ q, m - rs.length = q + 1 := ⟨m - rs.length - 1, by omega⟩
          rw [hq] at h1
          simp at h1
      subst hm0
      rw [hrl, Nat.sub_self] at h1
      obtain rfl := Option.some.inj h1
      rw [hwi] at h2
      obtain rfl := Option.some.inj h2
      exact m2
  · rintro acc L' ⟨rs, rfl, hrl, hrs, _, rfl⟩
    exact kk D rs (by rw [hrl, hxl]) hrs
/-! ### pairs copied -/
theorem TelAll.mk {c : Chunk} : ∀ {xs : List V} {ds : List PyData}, xs.length = ds.length → (∀ (i : Nat) x d, xs[i]? = some x → ds[i]? = some d → Tel c x d) → TelAll c xs ds
  | [], [], _, _ => .nil
  | [], _ :: _, h, _ => by simp at h
  | _ :: _, [], h, _ => by simp at h
  | x :: xs, d :: ds, hl, h => .cons (h 0 x d rfl rfl) (TelAll.mk (by simpa using hl) fun i x d h1 h2 => h (i + 1) x d h1 h2)
theorem pairs_ldW {D : Addr} {ts as : List Addr} (hl : ts.length = ws.length) (hl2 : as.length = ws.length) : LdW (tupC D ts ws as ++ cellsL as (ws.map Prod.snd)) D ws := by
  refine ⟨ts.zip (List.zipWith (fun w a => HO.tup [V.int w.1, V.ref a]) ws as) ++ cellsL as (ws.map Prod.snd), ts.map V.ref, rfl, TelAll.mk (by simp [hl]) fun i x d hx hd => ?_⟩
  rw [List.getElem?_map] at hx hd
  obtain ⟨t, ht, rfl⟩ := Option.map_eq_some_iff.mp hx
  obtain ⟨w, hw, rfl⟩ := Option.map_eq_some_iff.mp hd
  have hi := (List.getElem?_eq_some_iff.mp hw).1
  have ha : as[i]? = some as[i] := List.getElem?_eq_getElem (by omega)
  exact Tel.dP (a := as[i]) (List.mem_append_left _ (zip_mem ht (by rw [List.getElem?_zipWith, hw, ha]))) (List.mem_append_right _ (cells_mem ha (by rw [List.getElem?_map, hw]; rfl)))
theorem LcR.unwk {W : LWk} {g : LTG} {tt : LTT} {te : LTE} {vs : List Nat} {D : Addr} (h : LcR W g tt te vs σ D L (fun v => Wk (Q v))) : LcR W g tt te vs σ D L Q := by
  obtain ⟨Pv, h0, hG, hs, hd⟩ := h
  refine ⟨Pv, h0, hG, hs, fun acc L p n => ?_⟩
  obtain ⟨L1, l1, L2, l2, q⟩ := hd acc L p n
  exact ⟨L2, l1.trans l2, q⟩
/-- [(n, list(r)) for n, r in ws], told as one chunk -/
theorem s_copyLW {i j k : Nat} {vs : List Nat} (hv : σ[i]? = some (some (.ref p))) (hm : c ∈ L) (ht : Tel c (.ref p) (dW ws)) (hz : ws.length ≤ 1000000) (hj : j < σ.length) (hk : k < σ.length) (hjk : j ≠ k) (hvs : vs = [j, k])
    (kk : ∀ D c, LdW c D ws → Wk (Q (.ref D)) (c :: L)) :
    lLc (kSeq K (lVar i)) (hTup K 2 (hCons (hName j) (hCons (hName k) hNil))) lYes (lTup (lCons (lVar j) (lCons (lCB (gList K) (lCons (lVar k) lNil)) lNil))) vs σ L Q := by
  obtain ⟨v, hv, a, xs, e, h⟩ := s_copyW (K := K) (Q := fun v => Wk (Q v)) hv hm ht hz hj hk hjk hvs fun D ts as h1 h2 => by
    obtain ⟨L5, l, q⟩ := kk D _ (pairs_ldW h1 h2)
    exact ⟨L5, Lic.trans (LicS.lic (LicS.splitA LicS.refl)) l, q⟩
  refine ⟨v, hv, a, xs, e, ?_⟩
  rcases h with ⟨h1, h2⟩ | ⟨h1, h2⟩
  · exact .inl ⟨h1, fun D hD => (h2 D hD).unwk⟩
  · exact .inr ⟨h1, fun D hD => (h2 D hD).unwk⟩
/-! ### comprehensions that build data -/
def TelP (ds : Nat → List PyData) (i : Nat) (L : Lg) : List V → Lg → Prop := fun acc L' => ∃ C, L' = C :: L ∧ TelAll C acc (ds i)
section
variable {gg : LTG} {tt : LTT} {te : LTE} {vw : List Nat} {Dl : Addr} {n : Nat} {σw : St} {acc : List V} {C : Chunk} {ds : Nat → List PyData} {i : Nat} {L4 L5 : Lg} {v : V} {d : PyData} {cs : List Chunk} {ms : List Int}
theorem a_telR (ds : Nat → List PyData) (h0 : ds 0 = []) (hw : wipe σ vw = σw)
    (hs : ∀ (i : Nat) (acc : List V) (C : Chunk) (Dl : Addr), i < n → acc.length = (ds i).length → TelAll C acc (ds i) → gg (.int (i : Int)) σw ([(Dl, .lst acc)] :: C :: L) (LcT tt te Dl acc (TelP ds (i + 1) L) σw vw))
    (hd : ∀ Dl c, LdD c Dl (ds n) → Wk (Q (.ref Dl)) (c :: L)) : ∀ Dl, Dl ∉ keys L → LcR (wkR 0 n) gg tt te vw σ Dl L Q := fun Dl _ => by
  refine c_range0 (fun i acc L' => TelP ds i L acc L') hw (Wk.by_ (LicS.lic (LicS.empty LicS.refl)) ⟨[], rfl, by rw [h0]; exact .nil⟩) ?_ ?_
  · rintro i acc L' hi ⟨C, rfl, ht⟩
    exact hs i acc C Dl hi ht.len ht
  · rintro acc L' ⟨C, rfl, ht⟩
    obtain ⟨L5, l, q⟩ := hd Dl ((Dl, .lst acc) :: C) ⟨C, acc, rfl, ht⟩
    exact ⟨L5, Lic.trans (LicS.lic (LicS.of_flat (by simp))) l, q⟩
theorem s_lcyD (hv : Tel cs.flatten v d) (hp : Pulls cs L4 L5) (l : LicS L5 ([(Dl, .lst acc)] :: C :: L)) (ht : TelAll C acc (ds i)) (hz : acc.length < 1000000) (e : ds (i + 1) = ds i ++ [d]) : LcY Dl acc (TelP ds (i + 1) L) v L4 := by
  refine s_lcy (L5 := (cs.flatten ++ C) :: L) hz (LicS.lic ?_) ⟨_, rfl, by rw [e]; exact TelAll.snoc (hv.mono fun x hx => List.mem_append_left _ hx) (ht.mono fun x hx => List.mem_append_right _ hx)⟩
  exact LicS.trans hp.lic (LicS.trans (LicS.cons l) (LicS.pull (.tl .hd) (LicS.splitA LicS.refl)))
theorem s_lcnD (l : LicS L4 ([(Dl, .lst acc)] :: C :: L)) (ht : TelAll C acc (ds i)) (e : ds (i + 1) = ds i) : LcN Dl acc (TelP ds (i + 1) L) L4 := s_lcn l.lic ⟨C, rfl, by rw [e]; exact ht⟩
theorem s_lcyT {r : List Int} (hv : IntsV xs r) (hp : Pull [(t, .tup xs)] L4 L5) (l : LicS L5 ([(Dl, .lst acc)] :: C :: L)) (ht : TelAll C acc (ds i)) (hz : acc.length < 1000000) (e : ds (i + 1) = ds i ++ [dT r]) : LcY Dl acc (TelP ds (i + 1) L) (.ref t) L4 := by
  have e' := hv.eq
  subst e'
  exact s_lcyD (cs := [[(t, .tup (r.map V.int))]]) (d := dT r) (Tel.tints (by simp)) (.cons hp .nil) l ht hz e
theorem s_lcyW {n : Int} {r : List Int} (hv : IntsV ys r) (hp : Pulls [[(t, .tup [.int n, .ref a])], [(a, .lst ys)]] L4 L5) (l : LicS L5 ([(Dl, .lst acc)] :: C :: L)) (ht : TelAll C acc (ds i)) (hz : acc.length < 1000000) (e : ds (i + 1) = ds i ++ [VM.dP (n, r)]) : LcY Dl acc (TelP ds (i + 1) L) (.ref t) L4 := by
  have e' := hv.eq
  subst e'
  exact s_lcyD (d := VM.dP (n, r)) (Tel.dP (a := a) (by simp) (by simp)) hp l ht hz e
end
/-! ### two lists of tuples joined, both given up -/
theorem s_add_ldT {Q : LVK} {c' : Chunk} {q : Addr} {ts us : List (List Int)} (h1 : LdT c p ts) (h2 : LdT c' q us) (p1 : Pull c L L1) (p2 : Pull c' L1 L2) (hz : ts.length + us.length ≤ 1000000) (k : ∀ r d, LdT d r (ts ++ us) → Wk (Q (.ref r)) (d :: L2)) : gAdd K (.ref p) (.ref q) L (fun v => Wk (Q v)) := by
  obtain ⟨C1, xs, e1, t1⟩ := h1
  obtain ⟨C2, ys, e2, t2⟩ := h2
  have hl1 := t1.len
  have hl2 := t2.len
  rw [List.length_map] at hl1 hl2
  refine s_add_l (xs := xs) (ys := ys) (At.mem p1.mem (by rw [e1]; exact List.mem_cons_self)) ?_ (Nat.le_trans (by omega : xs.length + ys.length ≤ 1000000) (by decide)) fun r => ?_
  · obtain ⟨L3, g1, g2⟩ := p1.sw p2
    exact At.mem g1.mem (by rw [e2]; exact List.mem_cons_self)
  · obtain ⟨L5, l, z⟩ := k r ((r, .lst (xs ++ ys)) :: (C1 ++ C2)) ⟨C1 ++ C2, xs ++ ys, rfl, by
      rw [List.map_append]
      have ap : ∀ {C : Chunk} {xs ys : List V} {ds es : List PyData}, TelAll C xs ds → TelAll C ys es → TelAll C (xs ++ ys) (ds ++ es) := by
        intro C xs ys ds es h k
        induction xs generalizing ds with
        | nil => cases h; exact k
        | cons x xs ih => cases h with | cons h1 h2 => exact .cons h1 (ih h2)
      exact ap (t1.mono fun x hx => List.mem_append_left _ hx) (t2.mono fun x hx => List.mem_append_right _ hx)⟩
    refine ⟨L5, Lic.trans (LicS.lic ?_) l, z⟩
    subst e1; subst e2
    refine LicS.split (LicS.pull .hd (LicS.splitA ?_))
    exact LicS.trans (LicS.pull p1 (LicS.pull p2 LicS.refl)) (LicS.src (LicS.skip (LicS.pull .hd (LicS.src (LicS.skip LicS.refl)))))
/-! ### pairs with rows of their own -/
def zipC (ts : List Addr) (ws : List (Int × List Int)) (as : List Addr) : Chunk := ts.zip (List.zipWith (fun w a => HO.tup [V.int w.1, V.ref a]) ws as)
def LdP (c : Chunk) (p : Addr) (ws : List (Int × List Int)) : Prop := ∃ ts as : List Addr, ts.length = ws.length ∧ as.length = ws.length ∧ c = (p, .lst (ts.map V.ref)) :: (zipC ts ws as ++ cellsL as (ws.map Prod.snd))
theorem LdP.nil {p : Addr} : LdP [(p, .lst [])] p [] := ⟨[], [], rfl, rfl, rfl⟩
theorem LdP.ldW (h : LdP c p ws) : LdW c p ws := by
  obtain ⟨ts, as, h1, h2, rfl⟩ := h
  exact pairs_ldW h1 h2
theorem LdP.to {ws' : List (Int × List Int)} (h : LdP c p ws) (e : ws' = ws) : LdP c p ws' := e ▸ h
theorem zipC_snoc {ts as : List Addr} {n : Int} {r : List Int} (h1 : ts.length = ws.length) (h2 : as.length = ws.length) : zipC (ts ++ [t]) (ws ++ [(n, r)]) (as ++ [a]) = zipC ts ws as ++ [(t, .tup [.int n, .ref a])] := by
  unfold zipC
  rw [List.zipWith_append (by omega), List.zip_append (by simp; omega)]
  rfl
/-- the tuple and its row join the others -/
theorem licP {ts as : List Addr} {n : Int} {r : List Int} {Z : Chunk} (h1 : ts.length = ws.length) (h2 : as.length = ws.length) : LicS ([(t, .tup [.int n, .ref a])] :: [(a, .lst (r.map V.int))] :: (zipC ts ws as ++ cellsL as (ws.map Prod.snd)) :: L) ((zipC (ts ++ [t]) (ws ++ [(n, r)]) (as ++ [a]) ++ cellsL (as ++ [a]) ((ws ++ [(n, r)]).map Prod.snd)) :: L) := by
  rw [zipC_snoc h1 h2, List.map_append]
  have e : cellsL (as ++ [a]) (List.map Prod.snd ws ++ List.map Prod.snd [(n, r)]) = cellsL as (ws.map Prod.snd) ++ [(a, .lst (r.map V.int))] := cells_snoc (by simp [h2])
  rw [e]
  refine LicS.splitA ?_
  refine LicS.trans (L' := (zipC ts ws as ++ cellsL as (ws.map Prod.snd)) :: [(t, .tup [.int n, .ref a])] :: [(a, .lst (r.map V.int))] :: L) (LicS.pull (.tl (.tl .hd)) (LicS.pull .hd (LicS.pull .hd LicS.refl))) ?_
  refine LicS.srcA ?_
  refine LicS.splitA ?_
  exact LicS.pull .hd (LicS.pull (.tl .hd) (LicS.splitA (LicS.pull .hd (LicS.pull .hd LicS.refl))))
theorem s_appP {n : Int} {r : List Int} (h : LdP c p ws) (hp : Pulls [[(t, .tup [.int n, .ref a])], [(a, .lst ys)]] L L1) (hc : Pull c L1 L2) (hv : IntsV ys r) (hz : ws.length < 1000000) (k : ∀ c', LdP c' p (ws ++ [(n, r)]) → Wk P (c' :: L2)) : gAppend (.ref p) [.ref t] L (fun _ => Wk P) := by
  have e := hv.eq
  subst e
  obtain ⟨ts, as, h1, h2, rfl⟩ := h
  obtain ⟨L3, g1, g2⟩ := hp.sw hc
  obtain ⟨L', w, q⟩ := Pull.wr (A := []) (o' := .lst ((ts.map V.ref) ++ [.ref t])) g1
  refine s_append w (by rw [List.length_map, h1]; exact hz) ?_
  obtain ⟨L5, l, z⟩ := k ((p, .lst ((ts ++ [t]).map V.ref)) :: (zipC (ts ++ [t]) (ws ++ [(n, r)]) (as ++ [a]) ++ cellsL (as ++ [a]) ((ws ++ [(n, r)]).map Prod.snd))) ⟨ts ++ [t], as ++ [a], by simp [h1], by simp [h2], rfl⟩
  refine ⟨L5, Lic.trans (LicS.lic ?_) l, z⟩
  cases g2 with
  | cons g3 g4 => cases g4 with
    | cons g5 g6 =>
      cases g6
      rw [List.map_append]
      refine LicS.split ?_
      refine LicS.trans (LicS.pull q (LicS.pull g3 (LicS.pull g5 LicS.refl))) ?_
      refine LicS.src (LicS.pull .hd ?_)
      refine LicS.trans (LicS.pull (.tl .hd) (LicS.pull (.tl .hd) (LicS.pull .hd LicS.refl))) ?_
      exact licP (Z := []) h1 h2
/-- a comprehension of pairs with rows of their own -/
def PairP (g : Nat → Int × List Int) (i : Nat) (L : Lg) : List V → Lg → Prop := fun acc L' => ∃ ts as : List Addr, acc = ts.map V.ref ∧ ts.length = i ∧ as.length = i ∧ L' = (zipC ts ((List.range i).map g) as ++ cellsL as (((List.range i).map g).map Prod.snd)) :: L
section
variable {gg : LTG} {tt : LTT} {te : LTE} {vw : List Nat} {Dl : Addr} {n : Nat} {σw : St}
theorem a_pairsP (g : Nat → Int × List Int) (hw : wipe σ vw = σw) (hz : n ≤ 1000000)
    (hs : ∀ (i : Nat) (ts as : List Addr) (Dl : Addr), i < n → ts.length = i → as.length = i → gg (.int (i : Int)) σw ([(Dl, .lst (ts.map V.ref))] :: (zipC ts ((List.range i).map g) as ++ cellsL as (((List.range i).map g).map Prod.snd)) :: L) (LcT tt te Dl (ts.map V.ref) (PairP g (i + 1) L) σw vw))
    (hd : ∀ Dl c, LdP c Dl ((List.range n).map g) → Wk (Q (.ref Dl)) (c :: L)) : ∀ Dl, Dl ∉ keys L → LcR (wkR 0 n) gg tt te vw σ Dl L Q := fun Dl _ => by
  refine c_range0 (fun i acc L' => PairP g i L acc L') hw (Wk.by_ (LicS.lic (LicS.empty LicS.refl)) ⟨[], [], rfl, rfl, rfl, rfl⟩) ?_ ?_
  · rintro i acc L' hi ⟨ts, as, rfl, h1, h2, rfl⟩
    exact hs i ts as Dl hi h1 h2
  · rintro acc L' ⟨ts, as, rfl, h1, h2, rfl⟩
    obtain ⟨L5, l, q⟩ := hd Dl _ ⟨ts, as, by simp [h1], by simp [h2], rfl⟩
    exact ⟨L5, Lic.trans (LicS.lic (LicS.split LicS.refl)) l, q⟩
theorem s_lcyP {g : Nat → Int × List Int} {i : Nat} {ts as : List Addr} {m : Int} {r : List Int} {L4 L5 : Lg} (hv : IntsV ys r) (h1 : ts.length = i) (h2 : as.length = i) (hz : i < 1000000) (e : g i = (m, r)) (hp : Pulls [[(t, .tup [.int m, .ref a])], [(a, .lst ys)]] L4 L5)
    (l : LicS L5 ([(Dl, .lst (ts.map V.ref))] :: (zipC ts ((List.range i).map g) as ++ cellsL as (((List.range i).map g).map Prod.snd)) :: L)) : LcY Dl (ts.map V.ref) (PairP g (i + 1) L) (.ref t) L4 := by
  have e' := hv.eq
  subst e'
  have el : (List.range (i + 1)).map g = (List.range i).map g ++ [(m, r)] := by rw [List.range_succ, List.map_append, ← e]; rfl
  refine s_lcy (by rw [List.length_map, h1]; exact hz) (L5 := (zipC (ts ++ [t]) ((List.range i).map g ++ [(m, r)]) (as ++ [a]) ++ cellsL (as ++ [a]) ((((List.range i).map g) ++ [(m, r)]).map Prod.snd)) :: L) (LicS.lic ?_) ⟨ts ++ [t], as ++ [a], by simp, by simp [h1], by simp [h2], by rw [el]⟩
  cases hp with
  | cons g3 g4 => cases g4 with
    | cons g5 g6 =>
      cases g6
      refine LicS.trans (LicS.pull g3 (LicS.pull g5 l)) ?_
      refine LicS.trans (L' := [(Dl, .lst (ts.map V.ref))] :: [(t, .tup [.int m, .ref a])] :: [(a, .lst (r.map V.int))] :: (zipC ts ((List.range i).map g) as ++ cellsL as (((List.range i).map g).map Prod.snd)) :: L) (LicS.pull (.tl (.tl .hd)) (LicS.pull .hd (LicS.pull .hd (LicS.pull .hd LicS.refl)))) ?_
      exact LicS.cons (licP (Z := []) (by simp [h1]) (by simp [h2]))
end
end
end VM

end

section
namespace VM
open PySem PySem.Spec L2
open PyProof.Rows hiding St

/-! ### joins where some slots change -/
section
variable {σ : St} {L : Lg} {t : LTS} {n0 : St → Lg → Prop} {r0 : LVK} {b0 c0 : St → Lg → Prop}
theorem sj_1 {k0 : Nat} (P : Lg → Prop) (h1 : t ⟨fun τ => Wk (SlW σ [k0] (fun _ => P) 0 τ), r0, b0, c0⟩ σ L) (h2 : ∀ a0 L', P L' → n0 ((wipe σ [k0]).set k0 a0) L') : lJoin t ⟨n0, r0, b0, c0⟩ σ L := ⟨_, h1, fun τ L' ⟨e, q⟩ => by
  obtain ⟨a0, rfl⟩ := unw1 e
  exact h2 a0 L' q⟩
theorem sjv_1 {k0 : Nat} (P : Option V → Lg → Prop) (h1 : t ⟨fun τ => Wk (SlV1 σ k0 (fun _ => P) 0 τ), r0, b0, c0⟩ σ L) (h2 : ∀ a0 L', P a0 L' → n0 ((wipe σ [k0]).set k0 a0) L') : lJoin t ⟨n0, r0, b0, c0⟩ σ L := ⟨_, h1, fun τ L' ⟨a0, e, q⟩ => by
  subst e
  exact h2 a0 L' q⟩
theorem sj_2 {k0 k1 : Nat} (P : Lg → Prop) (h1 : t ⟨fun τ => Wk (SlW σ [k0, k1] (fun _ => P) 0 τ), r0, b0, c0⟩ σ L) (h2 : ∀ a0 a1 L', P L' → n0 (((wipe σ [k0, k1]).set k0 a0).set k1 a1) L') : lJoin t ⟨n0, r0, b0, c0⟩ σ L := ⟨_, h1, fun τ L' ⟨e, q⟩ => by
  obtain ⟨a0, a1, rfl⟩ := unw2 e
  exact h2 a0 a1 L' q⟩
theorem sjv_2 {k0 k1 : Nat} (P : Option V → Option V → Lg → Prop) (h1 : t ⟨fun τ => Wk (SlV2 σ k0 k1 (fun _ => P) 0 τ), r0, b0, c0⟩ σ L) (h2 : ∀ a0 a1 L', P a0 a1 L' → n0 (((wipe σ [k0, k1]).set k0 a0).set k1 a1) L') : lJoin t ⟨n0, r0, b0, c0⟩ σ L := ⟨_, h1, fun τ L' ⟨a0, a1, e, q⟩ => by
  subst e
  exact h2 a0 a1 L' q⟩
theorem sj_3 {k0 k1 k2 : Nat} (P : Lg → Prop) (h1 : t ⟨fun τ => Wk (SlW σ [k0, k1, k2] (fun _ => P) 0 τ), r0, b0, c0⟩ σ L) (h2 : ∀ a0 a1 a2 L', P L' → n0 ((((wipe σ [k0, k1, k2]).set k0 a0).set k1 a1).set k2 a2) L') : lJoin t ⟨n0, r0, b0, c0⟩ σ L := ⟨_, h1, fun τ L' ⟨e, q⟩ => by
  obtain ⟨a0, a1, a2, rfl⟩ := unw3 e
  exact h2 a0 a1 a2 L' q⟩
theorem sjv_3 {k0 k1 k2 : Nat} (P : Option V → Option V → Option V → Lg → Prop) (h1 : t ⟨fun τ => Wk (SlV3 σ k0 k1 k2 (fun _ => P) 0 τ), r0, b0, c0⟩ σ L) (h2 : ∀ a0 a1 a2 L', P a0 a1 a2 L' → n0 ((((wipe σ [k0, k1, k2]).set k0 a0).set k1 a1).set k2 a2) L') : lJoin t ⟨n0, r0, b0, c0⟩ σ L := ⟨_, h1, fun τ L' ⟨a0, a1, a2, e, q⟩ => by
  subst e
  exact h2 a0 a1 a2 L' q⟩
theorem sj_4 {k0 k1 k2 k3 : Nat} (P : Lg → Prop) (h1 : t ⟨fun τ => Wk (SlW σ [k0, k1, k2, k3] (fun _ => P) 0 τ), r0, b0, c0⟩ σ L) (h2 : ∀ a0 a1 a2 a3 L', P L' → n0 (((((wipe σ [k0, k1, k2, k3]).set k0 a0).set k1 a1).set k2 a2).set k3 a3) L') : lJoin t ⟨n0, r0, b0, c0⟩ σ L := ⟨_, h1, fun τ L' ⟨e, q⟩ => by
  obtain ⟨a0, a1, a2, a3, rfl⟩ := unw4 e
  exact h2 a0 a1 a2 a3 L' q⟩
theorem sjv_4 {k0 k1 k2 k3 : Nat} (P : Option V → Option V → Option V → Option V → Lg → Prop) (h1 : t ⟨fun τ => Wk (SlV4 σ k0 k1 k2 k3 (fun _ => P) 0 τ), r0, b0, c0⟩ σ L) (h2 : ∀ a0 a1 a2 a3 L', P a0 a1 a2 a3 L' → n0 (((((wipe σ [k0, k1, k2, k3]).set k0 a0).set k1 a1).set k2 a2).set k3 a3) L') : lJoin t ⟨n0, r0, b0, c0⟩ σ L := ⟨_, h1, fun τ L' ⟨a0, a1, a2, a3, e, q⟩ => by
  subst e
  exact h2 a0 a1 a2 a3 L' q⟩
theorem sj_5 {k0 k1 k2 k3 k4 : Nat} (P : Lg → Prop) (h1 : t ⟨fun τ => Wk (SlW σ [k0, k1, k2, k3, k4] (fun _ => P) 0 τ), r0, b0, c0⟩ σ L) (h2 : ∀ a0 a1 a2 a3 a4 L', P L' → n0 ((((((wipe σ [k0, k1, k2, k3, k4]).set k0 a0).set k1 a1).set k2 a2).set k3 a3).set k4 a4) L') : lJoin t ⟨n0, r0, b0, c0⟩ σ L := ⟨_, h1, fun τ L' ⟨e, q⟩ => by
  obtain ⟨a0, a1, a2, a3, a4, rfl⟩ := unw5 e
  exact h2 a0 a1 a2 a3 a4 L' q⟩
theorem sjv_5 {k0 k1 k2 k3 k4 : Nat} (P : Option V → Option V → Option V → Option V → Option V → Lg → Prop) (h1 : t ⟨fun τ => Wk (SlV5 σ k0 k1 k2 k3 k4 (fun _ => P) 0 τ), r0, b0, c0⟩ σ L) (h2 : ∀ a0 a1 a2 a3 a4 L', P a0 a1 a2 a3 a4 L' → n0 ((((((wipe σ [k0, k1, k2, k3, k4]).set k0 a0).set k1 a1).set k2 a2).set k3 a3).set k4 a4) L') : lJoin t ⟨n0, r0, b0, c0⟩ σ L := ⟨_, h1, fun τ L' ⟨a0, a1, a2, a3, a4, e, q⟩ => by
  subst e
  exact h2 a0 a1 a2 a3 a4 L' q⟩
theorem sj_6 {k0 k1 k2 k3 k4 k5 : Nat} (P : Lg → Prop) (h1 : t ⟨fun τ => Wk (SlW σ [k0, k1, k2, k3, k4, k5] (fun _ => P) 0 τ), r0, b0, c0⟩ σ L) (h2 : ∀ a0 a1 a2 a3 a4 a5 L', P L' → n0 (((((((wipe σ [k0, k1, k2, k3, k4, k5]).set k0 a0).set k1 a1).set k2 a2).set k3 a3).set k4 a4).set k5 a5) L') : lJoin t ⟨n0, r0, b0, c0⟩ σ L := ⟨_, h1, fun τ L' ⟨e, q⟩ => by
  obtain ⟨a0, a1, a2, a3, a4, a5, rfl⟩ := unw6 e
  exact h2 a0 a1 a2 a3 a4 a5 L' q⟩
theorem sjv_6 {k0 k1 k2 k3 k4 k5 : Nat} (P : Option V → Option V → Option V → Option V → Option V → Option V → Lg → Prop) (h1 : t ⟨fun τ => Wk (SlV6 σ k0 k1 k2 k3 k4 k5 (fun _ => P) 0 τ), r0, b0, c0⟩ σ L) (h2 : ∀ a0 a1 a2 a3 a4 a5 L', P a0 a1 a2 a3 a4 a5 L' → n0 (((((((wipe σ [k0, k1, k2, k3, k4, k5]).set k0 a0).set k1 a1).set k2 a2).set k3 a3).set k4 a4).set k5 a5) L') : lJoin t ⟨n0, r0, b0, c0⟩ σ L := ⟨_, h1, fun τ L' ⟨a0, a1, a2, a3, a4, a5, e, q⟩ => by
  subst e
  exact h2 a0 a1 a2 a3 a4 a5 L' q⟩
theorem sj_7 {k0 k1 k2 k3 k4 k5 k6 : Nat} (P : Lg → Prop) (h1 : t ⟨fun τ => Wk (SlW σ [k0, k1, k2, k3, k4, k5, k6] (fun _ => P) 0 τ), r0, b0, c0⟩ σ L) (h2 : ∀ a0 a1 a2 a3 a4 a5 a6 L', P L' → n0 ((((((((wipe σ [k0, k1, k2, k3, k4, k5, k6]).set k0 a0).set k1 a1).set k2 a2).set k3 a3).set k4 a4).set k5 a5).set k6 a6) L') : lJoin t ⟨n0, r0, b0, c0⟩ σ L := ⟨_, h1, fun τ L' ⟨e, q⟩ => by
  obtain ⟨a0, a1, a2, a3, a4, a5, a6, rfl⟩ := unw7 e
  exact h2 a0 a1 a2 a3 a4 a5 a6 L' q⟩
theorem sjv_7 {k0 k1 k2 k3 k4 k5 k6 : Nat} (P : Option V → Option V → Option V → Option V → Option V → Option V → Option V → Lg → Prop) (h1 : t ⟨fun τ => Wk (SlV7 σ k0 k1 k2 k3 k4 k5 k6 (fun _ => P) 0 τ), r0, b0, c0⟩ σ L) (h2 : ∀ a0 a1 a2 a3 a4 a5 a6 L', P a0 a1 a2 a3 a4 a5 a6 L' → n0 ((((((((wipe σ [k0, k1, k2, k3, k4, k5, k6]).set k0 a0).set k1 a1).set k2 a2).set k3 a3).set k4 a4).set k5 a5).set k6 a6) L') : lJoin t ⟨n0, r0, b0, c0⟩ σ L := ⟨_, h1, fun τ L' ⟨a0, a1, a2, a3, a4, a5, a6, e, q⟩ => by
  subst e
  exact h2 a0 a1 a2 a3 a4 a5 a6 L' q⟩
end
end VM

end

section
namespace VM
open PySem PySem.Spec L2
open PyProof.Rows hiding St

/-! ### a new dict, d.get(k, x) -/
section
variable {X : Cx} {o e f : Expr} {apos cpos pos : Pos} {ta tb tc : LTE} {σ : St} {L : Lg} {Q : LVK}
def lDict0 : LTE := fun _ L Q => ∀ p, p ∉ keys L → Q (.ref p) ([(p, .dK [])] :: L)
theorem ldict0 : LE X (.Dict [] [] pos) lDict0 := by
  refine PE.imp pe_dnewK fun σ H Q h => ?_
  obtain ⟨L, QL, hL, h, k⟩ := h
  exact fun p hp => k _ _ _ (h p (hL.fresh hp)) (hL.new hp)
theorem s_dict0 (k : ∀ p, Q (.ref p) ([(p, .dK [])] :: L)) : lDict0 σ L Q := fun p _ => k p
def DgZ (a : Addr) (k : Int) (Q : LVK) : LVK := fun z L3 => ∃ kvs, At L3 a (.dK kvs) ∧ Q ((valV kvs (.inl k)).getD z) L3
def DgY (a : Addr) (tc : LTE) (σ : St) (Q : LVK) : LVK := fun y L2 => ∃ k, y = .int k ∧ tc σ L2 (DgZ a k Q)
def DgK (tb tc : LTE) (σ : St) (Q : LVK) : LVK := fun x L1 => ∃ a kvs, x = .ref a ∧ At L1 a (.dK kvs) ∧ tb σ L1 (DgY a tc σ Q)
def lDGet2 (ta tb tc : LTE) : LTE := fun σ L Q => ta σ L (DgK tb tc σ Q)
theorem ldget2 (hu : X.A.units + 64 < cLine) (ho : LE X o ta) (he : LE X e tb) (hf : LE X f tc) (m : M2 X o "get" apos e f cpos := by exact ⟨rfl, rfl, rfl, rfl⟩) : LE X (.Call (.Attribute o "get" apos) [e, f] [] cpos) (lDGet2 ta tb tc) := by
  refine PE.imp (pe_dget2 (Nat.lt_of_le_of_lt (Nat.add_le_add_left (by decide) _) hu) ho he hf m) fun σ H Q h => ?_
  obtain ⟨L, QL, hL, h, k⟩ := h
  refine ⟨L, _, hL, h, fun x L1 H1 ⟨a, kvs, e1, h1, h2⟩ hL1 => ⟨a, e1, .inl ⟨kvs, .inl (h1 H1 hL1)⟩, L1, _, hL1, h2, fun y L2 H2 ⟨i, e2, h3⟩ hL2 => ⟨L2, _, hL2, h3, fun z L3 H3 ⟨kv3, h4, q⟩ hL3 => ⟨_, by subst e2; exact DGet.k (k := .inl i) (h4 H3 hL3), k _ _ _ q hL3⟩⟩⟩⟩
variable {a : Addr} {kvs : List (Key × V)} {i : Int} {z : V}
instance j_dget : S1 (lDGet2 ta tb tc σ L Q) (ta σ L (DgK tb tc σ Q)) := ⟨id⟩
theorem s_dgk (h : At L a (.dK kvs)) (k : tb σ L (DgY a tc σ Q)) : DgK tb tc σ Q (.ref a) L := ⟨a, kvs, rfl, h, k⟩
instance j_dgy : S1 (DgY a tc σ Q (.int i) L) (tc σ L (DgZ a i Q)) := ⟨fun h => ⟨i, rfl, h⟩⟩
theorem s_dgz (h : At L a (.dK kvs)) (k : Q ((valV kvs (.inl i)).getD z) L) : DgZ a i Q z L := ⟨kvs, h, k⟩
/-! list(d), sorted(d) -/
def gListD : LRC := fun xs L Q => ∃ (a : Addr) (kvs : List (Key × V)), xs = [.ref a] ∧ At L a (.dK kvs) ∧ ∀ p, p ∉ keys L → Q (.ref p) ([(p, .lst (kvs.map fun kv => kV kv.1))] :: L)
theorem lk_listD {X : Cx} (hc : X.calm = true := by rfl) : CallL X (.type "list") gListD := CallR.imp (call_listD hc) fun xs H Q ⟨L, QL, hL, ⟨a, kvs, e, h1, h2⟩, k⟩ => ⟨a, kvs, e, .inl (h1 H hL), fun p hp => k _ _ _ (h2 p (hL.fresh hp)) (hL.new hp)⟩
def gSortedD : LRC := fun xs L Q => ∃ (a : Addr) (kvs : List (Key × V)) (ks : List Int), xs = [.ref a] ∧ At L a (.dK kvs) ∧ kvs.map (·.1) = ks.map Sum.inl ∧ ks.length < 64 ∧ ∀ (ys : List Int) (p : Addr), ys.Perm ks → ys.Pairwise (· ≤ ·) → p ∉ keys L → Q (.ref p) ([(p, .lst (ys.map V.int))] :: L)
theorem lk_sortedD {X : Cx} (hc : X.calm = true := by rfl) : CallL X (.builtin "sorted") gSortedD := CallR.imp (call_sortedDI hc) fun xs H Q ⟨L, QL, hL, ⟨a, kvs, ks, e, h1, h2, h3, h4⟩, k⟩ => ⟨a, kvs, ks, e, .inl (h1 H hL), h2, h3, fun ys p p1 p2 hp => k _ _ _ (h4 ys p p1 p2 (hL.fresh hp)) (hL.new hp)⟩
theorem s_listD (h : At L a (.dK kvs)) (k : ∀ p, Q (.ref p) ([(p, .lst (kvs.map fun kv => kV kv.1))] :: L)) : gListD [.ref a] L Q := ⟨a, kvs, rfl, h, fun p _ => k p⟩
theorem s_sortedD {ks : List Int} (h : At L a (.dK kvs)) (e : kvs.map (·.1) = ks.map Sum.inl) (hz : ks.length < 64) (k : ∀ (ys : List Int) (p : Addr), ys.Perm ks → ys.Pairwise (· ≤ ·) → Q (.ref p) ([(p, .lst (ys.map V.int))] :: L)) : gSortedD [.ref a] L Q := ⟨a, kvs, ks, rfl, h, e, hz, fun ys p p1 p2 _ => k ys p p1 p2⟩
/-! a filter that keeps nothing -/
theorem a_dropL {K : PySem.W.Frag} {p : Addr} {xs : List V} {gg : LTG} {tt : LTT} {te : LTE} {vw : List Nat} {σw : St} (hx : IsL K L p xs) (hw : wipe σ vw = σw)
    (hs : ∀ (x : V) (Dl : Addr), x ∈ xs → gg x σw ([(Dl, .lst [])] :: L) (LcT tt te Dl [] (AccN L) σw vw))
    (hd : ∀ Dl, Wk (Q (.ref Dl)) ([(Dl, .lst [])] :: L)) : ∀ Dl, Dl ∉ keys L → LcR (wkL K p xs) gg tt te vw σ Dl L Q := fun Dl _ => by
  refine c_list (fun i acc L' => AccN L acc L') hw (Wk.go ⟨rfl, rfl⟩) (fun i acc L' h => ?_) ?_ ?_
  · rw [h.2]; exact IsL.tl hx
  · rintro i acc x L' hi ⟨rfl, rfl⟩
    exact hs x Dl (List.mem_of_getElem? hi)
  · rintro acc L' ⟨rfl, rfl⟩
    exact hd Dl
theorem a_dropD {K : PySem.W.Frag} {p : Addr} {c : Chunk} {ts : List (List Int)} {xs : List V} {gg : LTG} {tt : LTT} {te : LTE} {vw : List Nat} {σw : St} (hm : c ∈ L) (hp : (p, HO.lst xs) ∈ c) (ht : TelAll c xs (ts.map dT)) (hw : wipe σ vw = σw)
    (hs : ∀ (r : List Int) (t Dl : Addr), r ∈ ts → (t, HO.tup (r.map V.int)) ∈ c → gg (.ref t) σw ([(Dl, .lst [])] :: L) (LcT tt te Dl [] (AccN L) σw vw))
    (hd : ∀ Dl, Wk (Q (.ref Dl)) ([(Dl, .lst [])] :: L)) : ∀ Dl, Dl ∉ keys L → LcR (wkL K p xs) gg tt te vw σ Dl L Q :=
  a_dropL (IsL.at_ (At.mem hm hp)) hw (fun x Dl hx => by
    obtain ⟨i, hi⟩ := List.getElem?_of_mem hx
    obtain ⟨r, t, e1, rfl, m⟩ := ht.tup hi
    exact hs r t Dl (List.mem_of_getElem? e1) m) hd
theorem adr_cut {as : List Addr} {lo hi : Int} {i : Nat} (h0 : 0 ≤ lo) (h1 : lo ≤ hi) (h2 : (i : Int) < hi - lo) : adrAt (cutG as (some lo) (some hi)) (i : Int) = adrAt as (lo + (i : Int)) := by
  rw [cutG_lohi h0 (by omega)]
  unfold adrAt
  simp only [List.getD_eq_getElem?_getD, List.getElem?_take, List.getElem?_drop]
  rw [if_pos (by omega), show lo.toNat + (i : Int).toNat = (lo + (i : Int)).toNat by omega]
theorem cut_len {α : Type} {xs : List α} {lo hi : Int} (h0 : 0 ≤ lo) (h1 : lo ≤ hi) (h2 : hi ≤ xs.length) : (cutG xs (some lo) (some hi)).length = (hi - lo).toNat := by
  rw [cutG_lohi h0 (by omega), List.length_take, List.length_drop]
  omega
/-! comprehensions over a volume, over a list of tuples -/
section
variable {K : PySem.W.Frag} {p : Addr} {as : List Addr} {rows ts : List (List Int)} {c : Chunk} {xs : List V} {gg : LTG} {tt : LTT} {te : LTE} {vw : List Nat} {σw : St}
theorem range_rows {β : Type} (g : List Int → β) : ((List.range rows.length).map fun i : Nat => g (rowAt rows (i : Int))) = rows.map g := by
  apply List.ext_getElem?
  intro j
  rw [List.getElem?_map, List.getElem?_map]
  by_cases h : j < rows.length
  · rw [List.getElem?_range h, List.getElem?_eq_getElem h]
    simp only [Option.map_some]
    unfold rowAt
    rw [List.getD_eq_getElem?_getD, Int.toNat_natCast, List.getElem?_eq_getElem h]
    rfl
  · rw [List.getElem?_eq_none (by simpa using h), List.getElem?_eq_none (by omega)]
    rfl
theorem a_intsV (g : List Int → Int) (hm : volC p as rows ∈ L) (hl : as.length = rows.length) (hw : wipe σ vw = σw) (hz : rows.length ≤ 1000000)
    (hs : ∀ (i : Nat) (acc : List V) (Dl : Addr), i < as.length → acc.length < 1000000 → gg (.ref (adrAt as (i : Int))) σw ([(Dl, .lst acc)] :: L) (LcT tt te Dl acc (AccI acc (.int (g (rowAt rows (i : Int)))) L) σw vw))
    (hd : ∀ Dl, Wk (Q (.ref Dl)) ([(Dl, .lst ((rows.map g).map V.int))] :: L)) : ∀ Dl, Dl ∉ keys L → LcR (wkL K p (as.map V.ref)) gg tt te vw σ Dl L Q := fun Dl _ => by
  refine c_refs (fun i acc L' => acc = ((List.range i).map fun i : Nat => g (rowAt rows (i : Int))).map V.int ∧ L' = L) hw (Wk.go ⟨rfl, rfl⟩) (fun i acc L' h => ?_) ?_ ?_
  · rw [h.2]; exact IsL.tl (IsL.at_ (vol_top hm))
  · rintro i acc L' hi ⟨rfl, rfl⟩
    have := hs i (((List.range i).map fun i : Nat => g (rowAt rows (i : Int))).map V.int) Dl hi (by simp; omega)
    have e : AccI (((List.range i).map fun i : Nat => g (rowAt rows (i : Int))).map V.int) (.int (g (rowAt rows (i : Int)))) L' = fun acc' L'' => acc' = ((List.range (i + 1)).map fun i : Nat => g (rowAt rows (i : Int))).map V.int ∧ L'' = L' := by
      funext a b
      unfold AccI
      rw [List.range_succ, List.map_append, List.map_append]; rfl
    rw [e] at this
    exact this
  · rintro acc L' ⟨rfl, rfl⟩
    rw [hl, range_rows]
    exact hd Dl
theorem a_rowsV (g : List Int → List Int) (hm : volC p as rows ∈ L) (hl : as.length = rows.length) (hw : wipe σ vw = σw)
    (hs : ∀ (i : Nat) (bs : List Addr) (Dl : Addr), i < as.length → bs.length = i → gg (.ref (adrAt as (i : Int))) σw ([(Dl, .lst (bs.map V.ref))] :: cellsL bs ((List.range i).map fun i : Nat => g (rowAt rows (i : Int))) :: L) (LcT tt te Dl (bs.map V.ref) (RowsP (fun i : Nat => g (rowAt rows (i : Int))) (i + 1) L) σw vw))
    (hd : ∀ Dl bs, bs.length = (rows.map g).length → Wk (Q (.ref Dl)) (volC Dl bs (rows.map g) :: L)) : ∀ Dl, Dl ∉ keys L → LcR (wkL K p (as.map V.ref)) gg tt te vw σ Dl L Q := fun Dl _ => by
  refine c_refs (fun i acc L' => ∃ bs : List Addr, acc = bs.map V.ref ∧ bs.length = i ∧ L' = cellsL bs ((List.range i).map fun i : Nat => g (rowAt rows (i : Int))) :: L) hw (Wk.by_ lic_cells_nil ⟨[], rfl, rfl, rfl⟩) (fun i acc L' h => ?_) ?_ ?_
  · obtain ⟨bs, _, _, rfl⟩ := h
    exact IsL.tl (IsL.tl (IsL.at_ (vol_top hm)))
  · rintro i acc L' hi ⟨bs, rfl, hb, rfl⟩
    exact hs i bs Dl hi hb
  · rintro acc L' ⟨bs, rfl, hb, rfl⟩
    rw [hl, range_rows]
    obtain ⟨L5, l, q⟩ := hd Dl bs (by rw [List.length_map]; omega)
    exact ⟨L5, Lic.trans lic_vol l, q⟩
theorem a_intsT (g : List Int → Int) (hm : c ∈ L) (hp : (p, HO.lst xs) ∈ c) (ht : TelAll c xs (ts.map dT)) (hw : wipe σ vw = σw) (hz : ts.length ≤ 1000000)
    (hs : ∀ (r : List Int) (t : Addr) (acc : List V) (Dl : Addr), r ∈ ts → (t, HO.tup (r.map V.int)) ∈ c → acc.length < 1000000 → gg (.ref t) σw ([(Dl, .lst acc)] :: L) (LcT tt te Dl acc (AccI acc (.int (g r)) L) σw vw))
    (hd : ∀ Dl, Wk (Q (.ref Dl)) ([(Dl, .lst ((ts.map g).map V.int))] :: L)) : ∀ Dl, Dl ∉ keys L → LcR (wkL K p xs) gg tt te vw σ Dl L Q := fun Dl _ => by
  have hxl : xs.length = ts.length := by rw [ht.len, List.length_map]
  refine c_list (fun i acc L' => acc = ((ts.take i).map g).map V.int ∧ i ≤ ts.length ∧ L' = L) hw (Wk.go ⟨rfl, Nat.zero_le _, rfl⟩) (fun i acc L' h => ?_) ?_ ?_
  · rw [h.2.2]; exact IsL.tl (IsL.at_ (At.mem hm hp))
  · rintro i acc x L' hi ⟨rfl, hil, rfl⟩
    obtain ⟨r, t, e1, rfl, m⟩ := ht.tup hi
    have hlt : i < ts.length := (List.getElem?_eq_some_iff.mp e1).1
    have := hs r t (((ts.take i).map g).map V.int) Dl (List.mem_of_getElem? e1) m (by simp; omega)
    have e : AccI (((ts.take i).map g).map V.int) (.int (g r)) L' = fun acc' L'' => acc' = ((ts.take (i + 1)).map g).map V.int ∧ i + 1 ≤ ts.length ∧ L'' = L' := by
      funext a b
      unfold AccI
      have h1 : i + 1 ≤ ts.length := hlt
      rw [List.take_succ, e1, List.map_append, List.map_append]
      simp [h1]
    rw [e] at this
    exact this
  · rintro acc L' ⟨rfl, _, rfl⟩
    rw [hxl, List.take_length]
    exact hd Dl
end
/-! x in l, of data of any depth -/
def gInD (K : PySem.W.Frag) (neg : Bool) : LR2 := fun x y L Q => ∃ d ds, DpL K L x d ∧ DpL K L y (.list ds) ∧ SeqAt.shaped d = true ∧ SeqAt.shaped (.list ds) = true ∧ Q (.bl (if neg then !(ds.any fun z => PyData.eqv z d) else ds.any fun z => PyData.eqv z d)) L
theorem kd_in {X : Cx} (K : PySem.W.Frag) (hu : X.A.units + 65 < cLine) (h : X.K = K := by rfl) : OpL X (compareOp .In) (gInD K false) := by
  subst h
  exact OpR.imp (L2.op_inD hu) fun x y H Q ⟨L, QL, hL, ⟨d, ds, h1, h2, h3, h4, h5⟩, k⟩ => ⟨d, ds, h1 H hL, h2 H hL, h3, h4, k _ _ _ h5 hL⟩
theorem kd_notIn {X : Cx} (K : PySem.W.Frag) (hu : X.A.units + 65 < cLine) (h : X.K = K := by rfl) : OpL X (compareOp .NotIn) (gInD K true) := by
  subst h
  exact OpR.imp (L2.op_notInD hu) fun x y H Q ⟨L, QL, hL, ⟨d, ds, h1, h2, h3, h4, h5⟩, k⟩ => ⟨d, ds, h1 H hL, h2 H hL, h3, h4, k _ _ _ h5 hL⟩
theorem units65 {k : Nat} {A : Around} (r : Room k A) : A.units + 65 < cLine := by have := r.un; omega
section
variable {K : PySem.W.Frag} {p q : Addr} {as : List Addr} {rows ts : List (List Int)} {ns : List Int} {c : Chunk} {xs : List V}
theorem any_dI (ns : List Int) : ∀ rows : List (List Int), ((rows.map dI).any fun z => PyData.eqv z (dI ns)) = decide (ns ∈ rows)
  | [] => by simp
  | r :: rows => by
    rw [List.map_cons, List.any_cons, any_dI ns rows, eqv_dI]
    by_cases e : r = ns
    · subst e; simp
    · have e' : ¬ ns = r := fun z => e z.symm
      simp [e, e']
theorem any_dT (ns : List Int) : ∀ ts : List (List Int), ((ts.map dT).any fun z => PyData.eqv z (dT ns)) = decide (ns ∈ ts)
  | [] => by simp
  | r :: ts => by
    rw [List.map_cons, List.any_cons, any_dT ns ts, eqv_dT]
    by_cases e : r = ns
    · subst e; simp
    · have e' : ¬ ns = r := fun z => e z.symm
      simp [e, e']
theorem s_ninD_R (h1 : IsL K L q xs) (v : IntsV xs ns) (hm : volC p as rows ∈ L) (hl : as.length = rows.length) (k : Q (.bl (!decide (ns ∈ rows))) L) : gInD K true (.ref q) (.ref p) L Q :=
  ⟨dI ns, rows.map dI, DpL.ints (v.eq ▸ h1), DpL.vol hm hl, shaped_nb (nb_dI _), shaped_nb (nb_dR _), by rw [any_dI]; exact k⟩
theorem s_ninD_T (h1 : IsT K L q xs) (v : IntsV xs ns) (h : LdT c p ts) (hm : c ∈ L) (k : Q (.bl (!decide (ns ∈ ts))) L) : gInD K true (.ref q) (.ref p) L Q :=
  ⟨dT ns, ts.map dT, DpL.tints (v.eq ▸ h1), DpL.ldT h hm, shaped_nb (nb_dT _), shaped_nb (nb_dTs _), by rw [any_dT]; exact k⟩
theorem s_sl_ti {lo hi : Option Int} (h : IsT K L p xs) (v : IntsV xs ns) (hn : ¬ (HT.sIx ns.length 0 lo = 0 ∧ HT.sIx ns.length ns.length hi = ns.length)) (k : ∀ r, Q (.ref r) ([(r, .tup ((cutG ns lo hi).map V.int))] :: L)) : gSl K (.ref p) lo hi L Q := by
  have e := v.eq
  subst e
  exact s_sl_t h (by rw [List.length_map]; exact hn) (fun r => by rw [cutV_map]; exact k r)
theorem s_add_ti {ys : List V} {ms : List Int} (h1 : IsT K L p xs) (h2 : IsT K L q ys) (v1 : IntsV xs ns) (v2 : IntsV ys ms) (n1 : ns ≠ []) (n2 : ms ≠ []) (hz : ns.length + ms.length ≤ 1000000) (k : ∀ r, Q (.ref r) ([(r, .tup ((ns ++ ms).map V.int))] :: L)) : gAdd K (.ref p) (.ref q) L Q := by
  have e1 := v1.eq
  have e2 := v2.eq
  subst e1; subst e2
  refine s_add_t h1 h2 (by simpa using n1) (by simpa using n2) (by simp only [List.length_map]; exact Nat.le_trans hz (by decide)) fun r => ?_
  rw [← List.map_append]
  exact k r
end
end
end VM

end

section
namespace VM
open PySem PySem.Spec L2
open PyProof.Rows hiding St

/-! ### filters over a range, over a volume -/
section
variable {K : PySem.W.Frag} {σ σw : St} {L : Lg} {Q : LVK} {p : Addr} {as : List Addr} {rows : List (List Int)} {gg : LTG} {tt : LTT} {te : LTE} {vw : List Nat} {lo : Int} {n : Nat}
def rngL (lo : Int) (n : Nat) : List Int := (List.range n).map fun i : Nat => lo + (i : Int)
theorem rngL_succ {lo : Int} {n : Nat} : rngL lo (n + 1) = rngL lo n ++ [lo + (n : Int)] := by
  unfold rngL
  rw [List.range_succ, List.map_append]
  rfl
theorem rngL_len {lo : Int} {n : Nat} : (rngL lo n).length = n := by unfold rngL; simp
theorem mem_rngL {lo : Int} {n : Nat} {x : Int} : x ∈ rngL lo n ↔ lo ≤ x ∧ x < lo + n := by
  unfold rngL
  rw [List.mem_map]
  constructor
  · rintro ⟨i, hi, rfl⟩
    rw [List.mem_range] at hi
    omega
  · rintro ⟨h1, h2⟩
    exact ⟨(x - lo).toNat, List.mem_range.mpr (by omega), by omega⟩
theorem a_filtN (f : Int → Bool) (hw : wipe σ vw = σw) (hz : n ≤ 1000000)
    (hs : ∀ (i : Nat) (acc : List V) (Dl : Addr), i < n → acc.length < 1000000 → gg (.int (lo + i)) σw ([(Dl, .lst acc)] :: L) (LcT tt te Dl acc (AccB acc (f (lo + i)) (.int (lo + i)) L) σw vw))
    (hd : ∀ Dl, Wk (Q (.ref Dl)) ([(Dl, .lst (((rngL lo n).filter f).map V.int))] :: L)) : ∀ Dl, Dl ∉ keys L → LcR (wkR lo n) gg tt te vw σ Dl L Q := fun Dl _ => by
  refine c_range (fun i acc L' => acc = ((rngL lo i).filter f).map V.int ∧ L' = L) hw (Wk.go ⟨rfl, rfl⟩) ?_ ?_
  · rintro i acc L' hi ⟨rfl, rfl⟩
    have hle : ((rngL lo i).filter f).length ≤ i := Nat.le_trans (List.length_filter_le _ _) (by rw [rngL_len]; exact Nat.le_refl _)
    have := hs i (((rngL lo i).filter f).map V.int) Dl hi (by rw [List.length_map]; omega)
    have e : AccB (((rngL lo i).filter f).map V.int) (f (lo + i)) (.int (lo + i)) L' = fun acc' L'' => acc' = ((rngL lo (i + 1)).filter f).map V.int ∧ L'' = L' := by
      funext a b
      unfold AccB
      rw [rngL_succ]
      cases hf : f (lo + i) <;> simp [hf]
    rw [e] at this
    exact this
  · rintro acc L' ⟨rfl, rfl⟩
    exact hd Dl
/-- the rows of a volume that pass a test: their addresses -/
def FiltV (f : List Int → Bool) (rows : List (List Int)) (i : Nat) (L : Lg) : List V → Lg → Prop := fun acc L' => ∃ bs : List Addr, acc = bs.map V.ref ∧ bs.length = ((rows.take i).filter f).length ∧ i ≤ rows.length ∧ L' = L
theorem filtV_take (f : List Int → Bool) {i : Nat} (hi : i < rows.length) : (rows.take (i + 1)).filter f = (rows.take i).filter f ++ if f (rowAt rows (i : Int)) = true then [rowAt rows (i : Int)] else [] := by
  have eg : rows[i]? = some (rowAt rows (i : Int)) := by
    have := get_row (rows := rows) (j := (i : Int)) (by omega) (by omega)
    simpa using this
  rw [List.take_succ, eg, List.filter_append]
  cases hf : f (rowAt rows (i : Int)) <;> simp [hf]
theorem s_lcyF {f : List Int → Bool} {i : Nat} {bs : List Addr} {a Dl : Addr} {L4 : Lg} (hc : f (rowAt rows (i : Int)) = true) (hb : bs.length = ((rows.take i).filter f).length) (hi : i < rows.length) (hz : rows.length ≤ 1000000) (l : Lic L4 ([(Dl, .lst (bs.map V.ref))] :: L)) : LcY Dl (bs.map V.ref) (FiltV f rows (i + 1) L) (.ref a) L4 := by
  have hle : ((rows.take i).filter f).length ≤ i := Nat.le_trans (List.length_filter_le _ _) (by simp; omega)
  refine s_lcy (by rw [List.length_map]; omega) l ⟨bs ++ [a], by simp, ?_, by omega, rfl⟩
  rw [filtV_take f hi, if_pos hc, List.length_append, List.length_append, hb]
  rfl
theorem s_lcnF {f : List Int → Bool} {i : Nat} {bs : List Addr} {Dl : Addr} {L4 : Lg} (hc : f (rowAt rows (i : Int)) = false) (hb : bs.length = ((rows.take i).filter f).length) (hi : i < rows.length) (l : Lic L4 ([(Dl, .lst (bs.map V.ref))] :: L)) : LcN Dl (bs.map V.ref) (FiltV f rows (i + 1) L) L4 := by
  refine s_lcn l ⟨bs, rfl, ?_, by omega, rfl⟩
  rw [filtV_take f hi, hc, hb]
  simp
theorem a_filtV (f : List Int → Bool) (hm : volC p as rows ∈ L) (hl : as.length = rows.length) (hw : wipe σ vw = σw)
    (hs : ∀ (i : Nat) (bs : List Addr) (Dl : Addr), i < rows.length → bs.length = ((rows.take i).filter f).length → gg (.ref (adrAt as (i : Int))) σw ([(Dl, .lst (bs.map V.ref))] :: L) (LcT tt te Dl (bs.map V.ref) (FiltV f rows (i + 1) L) σw vw))
    (hd : ∀ Dl (bs : List Addr), bs.length = (rows.filter f).length → Wk (Q (.ref Dl)) ([(Dl, .lst (bs.map V.ref))] :: L)) : ∀ Dl, Dl ∉ keys L → LcR (wkL K p (as.map V.ref)) gg tt te vw σ Dl L Q := fun Dl _ => by
  refine c_refs (fun i acc L' => FiltV f rows i L acc L') hw (Wk.go ⟨[], rfl, rfl, Nat.zero_le _, rfl⟩) (fun i acc L' h => ?_) ?_ ?_
  · obtain ⟨bs, _, _, _, rfl⟩ := h
    exact IsL.tl (IsL.at_ (vol_top hm))
  · rintro i acc L' hi ⟨bs, rfl, hb, hi2, rfl⟩
    exact hs i bs Dl (by omega) hb
  · rintro acc L' ⟨bs, rfl, hb, _, rfl⟩
    rw [hl, List.take_length] at hb
    exact hd Dl bs hb
end
/-! ### gathering by a filter -/
theorem accL_filter (g : Int → List (List Int)) (f : Int → Bool) {lo : Int} : ∀ n : Nat, accL g ((rngL lo n).filter f) = accM (fun i : Nat => if f (lo + (i : Int)) = true then g (lo + (i : Int)) else []) n
  | 0 => rfl
  | n + 1 => by
    rw [rngL_succ, List.filter_append, accM_succ, ← accL_filter g f n]
    unfold accL
    rw [List.map_append, List.flatten_append]
    cases hf : f (lo + (n : Int)) <;> simp [hf]
/-! ### a dict that counts -/
def cntR (rs : List (List Int)) (f : Int) : Int := ((rs.filter fun r => decide (r.getD 3 0 = f)).length : Int)
theorem cntR_snoc (rs : List (List Int)) (r : List Int) (f : Int) : cntR (rs ++ [r]) f = cntR rs f + if r.getD 3 0 = f then 1 else 0 := by
  unfold cntR
  rw [List.filter_append, List.length_append]
  by_cases h : r.getD 3 0 = f
  · rw [if_pos h, List.filter_cons_of_pos (by rw [decide_eq_true h])]
    simp
  · rw [if_neg h, List.filter_cons_of_neg (by rw [decide_eq_false h]; simp)]
    simp
theorem cntR_nn (rs : List (List Int)) (f : Int) : 0 ≤ cntR rs f := by unfold cntR; omega
def CntD (kvs : List (Key × V)) (rs : List (List Int)) : Prop := (∀ f : Int, valV kvs (.inl f) = if cntR rs f = 0 then none else some (.int (cntR rs f))) ∧ kvs.length ≤ rs.length
theorem CntD.nil : CntD [] [] := ⟨fun _ => rfl, Nat.le_refl _⟩
theorem CntD.is {kvs : List (Key × V)} {rs : List (List Int)} (h : CntD kvs rs) (f : Int) : (valV kvs (.inl f)).isSome = !decide (cntR rs f = 0) := by
  rw [h.1 f]
  by_cases e : cntR rs f = 0 <;> simp [e]
theorem CntD.get {kvs : List (Key × V)} {rs : List (List Int)} (h : CntD kvs rs) (f : Int) : (valV kvs (.inl f)).getD (.int 0) = .int (cntR rs f) := by
  rw [h.1 f]
  by_cases e : cntR rs f = 0 <;> simp [e]
theorem CntD.snoc {kvs : List (Key × V)} {rs : List (List Int)} {r : List Int} (h : CntD kvs rs) : CntD (putK kvs (.inl (r.getD 3 0)) (.int (cntR rs (r.getD 3 0) + 1))) (rs ++ [r]) := by
  refine ⟨fun f => ?_, ?_⟩
  · rw [L2.valV_put, cntR_snoc]
    have := cntR_nn rs f
    by_cases e : f = r.getD 3 0
    · subst e
      rw [if_pos rfl, if_pos rfl, if_neg (by omega)]
    · rw [if_neg (fun z => e (Sum.inl.inj z)), if_neg (c := r.getD 3 0 = f) (fun z => e z.symm), h.1 f, Int.add_zero]
  · have := L2.length_putK kvs (.inl (r.getD 3 0)) (.int (cntR rs (r.getD 3 0) + 1))
    have := h.2
    rw [List.length_append, List.length_singleton]
    omega
section
variable {K : PySem.W.Frag} {L L1 : Lg} {p : Addr} {kvs : List (Key × V)} {rs : List (List Int)} {x : Int} {Q : LVK}
theorem s_nin_cd (h : At L p (.dK kvs)) (c : CntD kvs rs) (k : Q (.bl (decide (cntR rs x = 0))) L) : gIn K true (.int x) (.ref p) L Q := s_nin_d h (by rw [c.is, Bool.not_not]; exact k)
theorem s_in_cd (h : At L p (.dK kvs)) (c : CntD kvs rs) (k : Q (.bl (!decide (cntR rs x = 0))) L) : gIn K false (.int x) (.ref p) L Q := s_in_d h (by rw [c.is]; exact k)
theorem s_dgz_cd (h : At L p (.dK kvs)) (c : CntD kvs rs) (k : Q (.int (cntR rs x)) L) : DgZ p x Q (.int 0) L := s_dgz h (by rw [c.get]; exact k)
end
end VM

end

section
namespace VM
open PySem PySem.Spec L2
open PyProof.Rows hiding St

/-! ### d.get(k) -/
section
variable {X : Cx} {o e f : Expr} {apos cpos pos : Pos} {ta tb tc : LTE} {σ : St} {L : Lg} {Q : LVK}
def Dg1Y (a : Addr) (Q : LVK) : LVK := fun y L2 => ∃ k kvs, y = .int k ∧ At L2 a (.dK kvs) ∧ Q ((valV kvs (.inl k)).getD .non) L2
def Dg1K (tb : LTE) (σ : St) (Q : LVK) : LVK := fun x L1 => ∃ a kvs, x = .ref a ∧ At L1 a (.dK kvs) ∧ tb σ L1 (Dg1Y a Q)
def lDGet1 (ta tb : LTE) : LTE := fun σ L Q => ta σ L (Dg1K tb σ Q)
theorem ldget1 (hu : X.A.units + 64 < cLine) (ho : LE X o ta) (he : LE X e tb) (m : M1 X o "get" apos e cpos := by exact ⟨rfl, rfl, rfl, rfl⟩) : LE X (.Call (.Attribute o "get" apos) [e] [] cpos) (lDGet1 ta tb) := by
  refine PE.imp (pe_dget1 (Nat.lt_of_le_of_lt (Nat.add_le_add_left (by decide) _) hu) ho he m) fun σ H Q h => ?_
  obtain ⟨L, QL, hL, h, k⟩ := h
  refine ⟨L, _, hL, h, fun x L1 H1 ⟨a, kvs, e1, h1, h2⟩ hL1 => ⟨a, e1, .inl ⟨kvs, .inl (h1 H1 hL1)⟩, L1, _, hL1, h2, fun y L2 H2 ⟨i, kv2, e2, h3, q⟩ hL2 => ⟨_, by subst e2; exact DGet.k (k := .inl i) (h3 H2 hL2), k _ _ _ q hL2⟩⟩⟩
variable {a : Addr} {kvs : List (Key × V)} {i : Int} {z : V}
instance j_dget1 : S1 (lDGet1 ta tb σ L Q) (ta σ L (Dg1K tb σ Q)) := ⟨id⟩
theorem s_dg1k (h : At L a (.dK kvs)) (k : tb σ L (Dg1Y a Q)) : Dg1K tb σ Q (.ref a) L := ⟨a, kvs, rfl, h, k⟩
theorem s_dg1y (h : At L a (.dK kvs)) (k : Q ((valV kvs (.inl i)).getD .non) L) : Dg1Y a Q (.int i) L := ⟨i, kvs, rfl, h, k⟩
end
/-! ### dicts of ints -/
def optV : Option Int → V
  | none => .non
  | some x => .int x
def IntD (kvs : List (Key × V)) (m : Int → Option Int) : Prop := ∀ k : Int, valV kvs (.inl k) = (m k).map V.int
def noM : Int → Option Int := fun _ => none
def putM (m : Int → Option Int) (k v : Int) : Int → Option Int := fun x => if x = k then some v else m x
theorem IntD.nil : IntD [] noM := fun _ => rfl
theorem IntD.put {kvs : List (Key × V)} {m : Int → Option Int} {k v : Int} (h : IntD kvs m) : IntD (putK kvs (.inl k) (.int v)) (putM m k v) := fun x => by
  rw [L2.valV_put]
  unfold putM
  by_cases e : x = k
  · subst e
    rw [if_pos rfl, if_pos rfl]
    rfl
  · rw [if_neg (fun z => e (Sum.inl.inj z)), if_neg e]
    exact h x
section
variable {K : PySem.W.Frag} {L L1 : Lg} {p : Addr} {kvs : List (Key × V)} {m : Int → Option Int} {x : Int} {Q : LVK}
theorem IntD.is (c : IntD kvs m) (x : Int) : (valV kvs (.inl x)).isSome = (m x).isSome := by rw [c x, Option.isSome_map]
theorem IntD.get (c : IntD kvs m) (x : Int) : (valV kvs (.inl x)).getD .non = optV (m x) := by
  rw [c x]
  cases m x <;> rfl
theorem s_nin_id (c : IntD kvs m) (h : At L p (.dK kvs)) (k : Q (.bl (!(m x).isSome)) L) : gIn K true (.int x) (.ref p) L Q := s_nin_d h (by rw [c.is]; exact k)
theorem s_in_id (c : IntD kvs m) (h : At L p (.dK kvs)) (k : Q (.bl (m x).isSome) L) : gIn K false (.int x) (.ref p) L Q := s_in_d h (by rw [c.is]; exact k)
theorem s_ix_id (c : IntD kvs m) (h : At L p (.dK kvs)) (e : (m x).isSome = true) (k : ∀ y, m x = some y → Q (.int y) L) : gIx K (.ref p) (.int x) L Q := by
  obtain ⟨y, hy⟩ := Option.isSome_iff_exists.mp e
  exact s_ix_d h (by rw [c x, hy]; rfl) (k y hy)
theorem s_dg1_id (c : IntD kvs m) (h : At L p (.dK kvs)) (k : Q (optV (m x)) L) : Dg1Y p Q (.int x) L := s_dg1y h (by rw [c.get]; exact k)
theorem s_set_id {Q : Lg → Prop} {v : Int} (c : IntD kvs m) (hz : kvs.length < 1000000) (hw : Wr p (.dK kvs) (.dK (putK kvs (.inl x) (.int v))) L L1) (k : IntD (putK kvs (.inl x) (.int v)) (putM m x v) → (putK kvs (.inl x) (.int v)).length ≤ kvs.length + 1 → Q L1) : gSet (.ref p) (.int x) (.int v) L Q :=
  s_set_d hw hz (k c.put (L2.length_putK _ _ _))
/-! what may be None -/
theorem optV_inj {a b : Option Int} : optV a = optV b ↔ a = b := by
  constructor
  · intro h
    cases a <;> cases b
    · rfl
    · cases h
    · cases h
    · injection h with h; rw [h]
  · rintro rfl; rfl
theorem scal_opt (a b : Option Int) : scal (optV a) (optV b) = true := by cases a <;> cases b <;> rfl
theorem s_ne_opt {a b : Option Int} (k : Q (.bl (!decide (a = b))) L) : gNe K (optV a) (optV b) L Q := .inl ⟨scal_opt a b, by
  rw [show decide (optV a = optV b) = decide (a = b) from by rw [decide_eq_decide]; exact optV_inj]; exact k⟩
theorem s_eq_opt {a b : Option Int} (k : Q (.bl (decide (a = b))) L) : gEq K (optV a) (optV b) L Q := .inl ⟨scal_opt a b, by
  rw [show decide (optV a = optV b) = decide (a = b) from by rw [decide_eq_decide]; exact optV_inj]; exact k⟩
theorem s_isN_opt {a : Option Int} (k : Q (.bl (!decide (a = none))) L) : gIsN (optV a) .non L Q := ⟨rfl, by
  rw [show decide (optV a = .non) = decide (a = none) from by rw [decide_eq_decide]; exact optV_inj (b := none)]; exact k⟩
theorem s_is_opt {a : Option Int} (k : Q (.bl (decide (a = none))) L) : gIs (optV a) .non L Q := ⟨rfl, by
  rw [show decide (optV a = .non) = decide (a = none) from by rw [decide_eq_decide]; exact optV_inj (b := none)]; exact k⟩
/-! the last one -/
theorem atI_last {α : Type} {xs : List α} {v : α} (h : xs.getLast? = some v) : atI xs (-1) = some v := by
  have hl : xs.length - 1 < xs.length := by
    rw [List.getLast?_eq_getElem?] at h
    exact (List.getElem?_eq_some_iff.mp h).1
  rw [List.getLast?_eq_getElem?] at h
  have e : ixN xs.length (-1) = some (xs.length - 1) := by
    unfold ixN
    rw [if_neg (by decide), if_pos (by omega)]
    exact congrArg some (by omega)
  unfold atI
  rw [e]
  exact h
theorem s_ix_last {xs : List V} {ns : List Int} {y : Int} (h : IsL K L p xs) (v : IntsV xs ns) (hn : ns.getLast? = some y) (k : Q (.int y) L) : gIx K (.ref p) (.int (-1)) L Q := by
  refine s_ix_l h (atI_last ?_) k
  rw [v.eq, List.getLast?_map, hn]
  rfl
/-! cuts of lists of tuples -/
theorem TelAll.cut {c : Chunk} {lo hi : Option Int} {xs : List V} {ds : List PyData} (h : TelAll c xs ds) : TelAll c (cutG xs lo hi) (cutG ds lo hi) := by
  have hl := h.len
  have drop : ∀ (n : Nat) {xs : List V} {ds : List PyData}, TelAll c xs ds → TelAll c (xs.drop n) (ds.drop n) := by
    intro n
    induction n with
    | zero => intro xs ds h; simpa using h
    | succ n ih =>
      intro xs ds h
      cases h with
      | nil => simpa using TelAll.nil
      | cons a b => simpa using ih b
  have take : ∀ (n : Nat) {xs : List V} {ds : List PyData}, TelAll c xs ds → TelAll c (xs.take n) (ds.take n) := by
    intro n
    induction n with
    | zero => intro xs ds h; simpa using TelAll.nil
    | succ n ih =>
      intro xs ds h
      cases h with
      | nil => simpa using TelAll.nil
      | cons a b => simpa using TelAll.cons a (ih b)
  unfold cutG
  rw [hl]
  exact take _ (drop _ h)
theorem s_sl_ldT {c : Chunk} {ts : List (List Int)} {lo hi : Option Int} (h : LdT c p ts) (hp : Pull c L L1) (k : ∀ r d, LdT d r (cutG ts lo hi) → Wk (Q (.ref r)) (d :: L1)) : gSl K (.ref p) lo hi L (fun v => Wk (Q v)) := by
  obtain ⟨xs, h1, h2⟩ := h.open_
  refine s_sl_l (IsL.at_ (At.mem hp.mem h1)) fun r => ?_
  obtain ⟨L5, l, q⟩ := k r ((r, .lst (cutV xs lo hi)) :: c) ⟨c, cutV xs lo hi, rfl, by rw [show cutV xs lo hi = cutG xs lo hi from rfl, ← cutG_map]; exact h2.cut⟩
  refine ⟨L5, Lic.trans (LicS.lic ?_) l, q⟩
  exact LicS.trans (LicS.cons (LicS.pull hp LicS.refl)) (LicS.split LicS.refl)
end
/-! ### filters of lists of tuples -/
section
variable {K : PySem.W.Frag} {σ σw : St} {L : Lg} {Q : LVK} {p : Addr} {ts : List (List Int)} {c : Chunk} {xs : List V} {gg : LTG} {tt : LTT} {te : LTE} {vw : List Nat}
def FiltT (f : List Int → Bool) (ts : List (List Int)) (i : Nat) (L : Lg) : List V → Lg → Prop := fun acc L' => acc.length = ((ts.take i).filter f).length ∧ i ≤ ts.length ∧ L' = L
theorem filtT_take (f : List Int → Bool) {i : Nat} {r : List Int} (hi : ts[i]? = some r) : (ts.take (i + 1)).filter f = (ts.take i).filter f ++ if f r = true then [r] else [] := by
  rw [List.take_succ, hi, List.filter_append]
  cases hf : f r <;> simp [hf]
theorem s_lcyFT {f : List Int → Bool} {i : Nat} {r : List Int} {acc : List V} {v : V} {Dl : Addr} {L4 : Lg} (hc : f r = true) (hb : acc.length = ((ts.take i).filter f).length) (hi : ts[i]? = some r) (hz : ts.length ≤ 1000000) (l : Lic L4 ([(Dl, .lst acc)] :: L)) : LcY Dl acc (FiltT f ts (i + 1) L) v L4 := by
  have hlt : i < ts.length := (List.getElem?_eq_some_iff.mp hi).1
  have hle : ((ts.take i).filter f).length ≤ i := Nat.le_trans (List.length_filter_le _ _) (by simp; omega)
  refine s_lcy (by omega) l ⟨?_, by omega, rfl⟩
  rw [filtT_take f hi, if_pos hc, List.length_append, List.length_append, hb]
  rfl
theorem s_lcnFT {f : List Int → Bool} {i : Nat} {r : List Int} {acc : List V} {Dl : Addr} {L4 : Lg} (hc : f r = false) (hb : acc.length = ((ts.take i).filter f).length) (hi : ts[i]? = some r) (l : Lic L4 ([(Dl, .lst acc)] :: L)) : LcN Dl acc (FiltT f ts (i + 1) L) L4 := by
  have hlt : i < ts.length := (List.getElem?_eq_some_iff.mp hi).1
  refine s_lcn l ⟨?_, by omega, rfl⟩
  rw [filtT_take f hi, hc, hb]
  simp
theorem a_filtLT (f : List Int → Bool) (hm : c ∈ L) (hp : (p, HO.lst xs) ∈ c) (ht : TelAll c xs (ts.map dT)) (hw : wipe σ vw = σw)
    (hs : ∀ (i : Nat) (r : List Int) (t : Addr) (acc : List V) (Dl : Addr), ts[i]? = some r → (t, HO.tup (r.map V.int)) ∈ c → acc.length = ((ts.take i).filter f).length → gg (.ref t) σw ([(Dl, .lst acc)] :: L) (LcT tt te Dl acc (FiltT f ts (i + 1) L) σw vw))
    (hd : ∀ Dl acc, acc.length = (ts.filter f).length → Wk (Q (.ref Dl)) ([(Dl, .lst acc)] :: L)) : ∀ Dl, Dl ∉ keys L → LcR (wkL K p xs) gg tt te vw σ Dl L Q := fun Dl _ => by
  have hxl : xs.length = ts.length := by rw [ht.len, List.length_map]
  refine c_list (fun i acc L' => FiltT f ts i L acc L') hw (Wk.go ⟨rfl, Nat.zero_le _, rfl⟩) (fun i acc L' h => ?_) ?_ ?_
  · rw [h.2.2]; exact IsL.tl (IsL.at_ (At.mem hm hp))
  · rintro i acc x L' hi ⟨hb, hil, rfl⟩
    obtain ⟨r, t, e1, rfl, m⟩ := ht.tup hi
    exact hs i r t acc Dl e1 m hb
  · rintro acc L' ⟨hb, _, rfl⟩
    rw [hxl, List.take_length] at hb
    exact hd Dl acc hb
end
end VM

end

section
namespace VM
open PySem PySem.Spec L2
open PyProof.Rows hiding St

/-! ### exceptions: what is wished of them, by the ledger -/
def WL (W : WX) (σ : St) : LXK := fun c d L => ∀ H, Led H L → W c d σ H
/-- what a def wishes of what leaves it -/
def WD (E : XK) : WX := fun c d _ H => E c d H
def OkMX (P : Program) (w : World) (K : PySem.W.Frag) (mg : Str → Option Value) (base : Heap) (k : Nat) (f : Addr) (ps : List Str) (dvs : List V) (sp : LSp) : Prop := ∃ fd, FnOk P w K mg base (L2.CX P w) k f fd ps (UpP sp) ∧ (∀ j, j ≤ dvs.length → ∃ ds, Vals (dvs.drop j) ds ∧ Binds K fd ps ds) ∧ PySem.W.keepIn K (.ref f) = true
def OkFX (P : Program) (w : World) (K : PySem.W.Frag) (mg : Str → Option Value) (base : Heap) (k : Nat) (x : Str) (ps : List Str) (dvs : List V) (sp : LSp) : Prop := mg x = some (.ref (He.ga K x)) ∧ OkMX P w K mg base k (He.ga K x) ps dvs sp
def XCallK (W : WX) (sp : LSp) (σ : St) (Q : LVK) : List V → Lg → Prop := fun vs => Wk fun L1 => sp vs L1 Q (WL W σ)
def lCallX (W : WX) (dl : List V) (sp : LSp) (t : LTA) : LTE := fun σ L Q => t σ L (CatK dl (XCallK W sp σ Q))
def lMethX (W : WX) (C : Addr) (m : Str) (dl : List V) (sp : LSp) (ta : LTE) (t : LTA) : LTE := fun σ L Q => ta σ L fun x L1 => ObjL C m x L1 ∧ t σ L1 (CatK dl fun vs => XCallK W sp σ Q (x :: vs))
section
variable {X : Cx} {W : WX} {k : Nat} {f C : Addr} {fd : FuncData} {ps : List Str} {sp : LSp} {dvs dl : List V} {ds : List Value} {x m : Str} {p pos apos : Pos} {e o : Expr} {es : List Expr} {ta te : LTE} {t : LTA}
theorem run_fnX {sp : Sp} {pins : List (Addr × Obj)} {σ : St} {H : Hp} {s : Shared} {Q : VK} {us : List Value} {vs : List V} (F : FnOk X.prog X.w X.K X.mg X.base (L2.CX X.prog X.w) k f fd ps sp) (hr : Room k X.A) (hb : Binds X.K fd ps ds) (hd : Vals dl ds) (tk : Takes X W) (I : Inv X pins σ H s) (r : Vals vs us)
    (h : sp (vs ++ dl) H Q (WE W σ)) : wpAny (model X.prog X.w) X.A (call (.ref f) us) (EP X pins σ Q) X.xe s := by
  have rr := Vals.append r hd
  have hlen := (Vals.length rr).symm.trans (F.len _ _ _ _ h)
  have run := F.run X.A X.stack s H ⟨us, []⟩ _ _ Q _ hr I.env0 (hb s us I.kIn hlen) rr h
  refine wpAny_call (codeAny_mono run ?_)
  rintro (e | fl) s' hq
  · exact passAt tk σ pins H s e s' I hq
  · cases fl <;> first | exact I.after hq | exact hq.elim
theorem lcallOX (tk : Takes X W) (G : OkFX X.prog X.w X.K X.mg X.base k x ps dvs sp) (j : Nat) (hj : j ≤ dvs.length) (hd : dvs.drop j = dl) (hr : Room k X.A) (hg : Gl X x) (ha : LA X (e :: es) t) (hdb : (x == ("__debug__" : Str)) = false := by decide)
    (he : starEach (e :: es) X.env = (false, eval e X.env) :: starEach es X.env := by rfl) (hpl : (backTo pos (starEach es X.env)).any (·.1) = false := by rfl) : LE X (.Call (.Name x p) (e :: es) [] pos) (lCallX W dl sp t) := by
  obtain ⟨hm, fd, F, hb, kp⟩ := G
  obtain ⟨ds, hds, hbd⟩ := hb j hj
  subst hd
  refine ⟨fun pins s σ H Q I h => ?_⟩
  obtain ⟨L, QL, hL, h, kq⟩ := h
  have args := ha.run pos pins s σ H (fun vs H1 => UpP (wkP sp) (vs ++ dvs.drop j) H1 Q (WE W σ)) I
    ⟨L, _, hL, h, fun vs L1 H1 h1 hL1 => ⟨L1, QL, WL W σ, hL1, h1, kq, fun c d L' H' z l => z H' l⟩⟩
  exact wpAny_Call_Name_kw (ld_glob I hg hm (PySem.W.callWith_K (h₀ := X.base) I.ok.mod.kin kp
    (thn args fun us s1 q => by obtain ⟨vs, H1, I1, r, q⟩ := q; exact ⟨I1.kIn, run_fnX (FnOk.wk F) hr hbd hds tk I1 r q⟩) he hpl) hdb)
theorem lmethOX {pl : Sem Bool} (tk : Takes X W) (c : Cls X.K C) (hm : Meth X.K C m f) (G : OkMX X.prog X.w X.K X.mg X.base k f ps dvs sp) (j : Nat) (hj : j ≤ dvs.length) (hd : dvs.drop j = dl) (hr : Room k X.A) (he : LE X o ta) (ha : LA X (e :: es) t)
    (hst : starEach (e :: es) X.env = (false, eval e X.env) :: starEach es X.env := by rfl) (hpl : (backTo pos (starEach es X.env)).any (·.1) = false := by rfl)
    (ht : eval (.Call (.Attribute o m apos) (e :: es) [] pos) X.env = (do
      let ov ← eval o X.env
      standAt apos.atName
      let (f, first) ← holding [ov] (getMethod ov m pl)
      callWith pos f first (backTo pos (starEach (e :: es) X.env)) (backToKw pos (keywordEach [] X.env))) := by rfl) :
    LE X (.Call (.Attribute o m apos) (e :: es) [] pos) (lMethX W C m dl sp ta t) := by
  obtain ⟨fd, F, hb, kp⟩ := G
  obtain ⟨ds, hds, hbd⟩ := hb j hj
  subst hd
  refine ⟨fun pins s σ H Q I h => ?_⟩
  obtain ⟨L, QL, hL, h, kq⟩ := h
  have obj := he.run pins s σ H (fun x H1 => ∃ L1, Led H1 L1 ∧ ObjL C m x L1 ∧ t σ L1 (CatK (dvs.drop j) fun vs => XCallK W sp σ QL (x :: vs))) I ⟨L, _, hL, h, fun x L1 H1 h1 hL1 => ⟨L1, hL1, h1⟩⟩
  refine PySem.W.methodCall_KW (pl := pl) (thn obj fun u s1 q => ?_) ht
  obtain ⟨x, H1, I1, rx, L1, hL1, ho, q⟩ := q
  obtain ⟨a, dx, fs, ex, ea, l⟩ := ho H1 hL1
  subst ex
  have eu : u = Value.ref a := rx
  subst eu
  refine getmeth_ok I1 ea c hm l ?_
  have args := ha.run pos pins s1 σ H1 (fun vs H2 => UpP (wkP sp) ((V.ref a :: vs) ++ dvs.drop j) H2 Q (WE W σ)) I1
    ⟨L1, _, hL1, q, fun vs L2 H2 h2 hL2 => ⟨L2, QL, WL W σ, hL2, h2, kq, fun c d L' H' z l => z H' l⟩⟩
  refine PySem.W.callWith_K (first := [.ref a]) (h₀ := X.base) I.ok.mod.kin hm.kp (thn args fun us s2 q => ?_) hst hpl
  obtain ⟨vs, H2, I2, r, q⟩ := q
  exact ⟨I2.kIn, run_fnX (us := .ref a :: us) (vs := V.ref a :: vs) (FnOk.wk F) hr hbd hds tk I2 (.cons rfl r) q⟩
theorem lmethOX0 {pl : Sem Bool} (tk : Takes X W) (c : Cls X.K C) (hm : Meth X.K C m f) (G : OkMX X.prog X.w X.K X.mg X.base k f ps dvs sp) (j : Nat) (hj : j ≤ dvs.length) (hd : dvs.drop j = dl) (hr : Room k X.A) (he : LE X o ta)
    (ht : eval (.Call (.Attribute o m apos) [] [] pos) X.env = (do
      let ov ← eval o X.env
      standAt apos.atName
      let (f, first) ← holding [ov] (getMethod ov m pl)
      callWith pos f first (backTo pos (starEach [] X.env)) (backToKw pos (keywordEach [] X.env))) := by rfl) :
    LE X (.Call (.Attribute o m apos) [] [] pos) (lMethX W C m dl sp ta lNil) := by
  obtain ⟨fd, F, hb, kp⟩ := G
  obtain ⟨ds, hds, hbd⟩ := hb j hj
  subst hd
  refine ⟨fun pins s σ H Q I h => ?_⟩
  obtain ⟨L, QL, hL, h, kq⟩ := h
  have obj := he.run pins s σ H (fun x H1 => ∃ L1, Led H1 L1 ∧ ObjL C m x L1 ∧ lNil σ L1 (CatK (dvs.drop j) fun vs => XCallK W sp σ QL (x :: vs))) I ⟨L, _, hL, h, fun x L1 H1 h1 hL1 => ⟨L1, hL1, h1⟩⟩
  refine PySem.W.methodCall_KW (pl := pl) (thn obj fun u s1 q => ?_) ht
  obtain ⟨x, H1, I1, rx, L1, hL1, ho, q⟩ := q
  obtain ⟨a, dx, fs, ex, ea, l⟩ := ho H1 hL1
  subst ex
  have eu : u = Value.ref a := rx
  subst eu
  refine getmeth_ok I1 ea c hm l ?_
  refine PySem.W.callWith_K0 (first := [.ref a]) I1.kIn hm.kp (run_fnX (us := [.ref a]) (vs := [V.ref a]) (FnOk.wk F) hr hbd hds tk I1 (.cons rfl .nil) ?_)
  exact ⟨L1, QL, WL W σ, hL1, q, kq, fun c d L' H' z l => z H' l⟩
/-- C(..) that may be refused: what is wished of the refusal, whatever the slots -/
def WLa (W : WX) (n : Nat) : LXK := fun c d L' => ∀ σ' : St, σ'.length = n → WL W σ' c d L'
def MakeXK (W : WX) (n : Nat) (C : Addr) (sp : LSp) (Q : LVK) : List V → Lg → Prop := fun vs L1 => ∀ x dx, x ∉ keys L1 → sp (.ref x :: vs) ([(x, .ins C dx [])] :: L1) (fun v L2 => v = .non ∧ Q (.ref x) L2) (WLa W n)
def lMakeX (W : WX) (n : Nat) (C : Addr) (dl : List V) (sp : LSp) (t : LTA) : LTE := fun σ L Q => t σ L (CatK dl (MakeXK W n C sp Q))
theorem lmakeOX {n : Nat} (tk : Takes X W) (M : Mk X.K C f) (hm : X.mg x = some (.ref C)) (G : OkMX X.prog X.w X.K X.mg X.base k f ps dvs sp) (j : Nat) (hj : j ≤ dvs.length) (hd : dvs.drop j = dl) (hr : Room (k + 1) X.A) (hg : Gl X x)
    (ha : LA X (e :: es) t) (hn : X.N.length = n := by rfl) (hdb : (x == ("__debug__" : Str)) = false := by decide) (he : starEach (e :: es) X.env = (false, eval e X.env) :: starEach es X.env := by rfl) (hpl : (backTo pos (starEach es X.env)).any (·.1) = false := by rfl) :
    LE X (.Call (.Name x p) (e :: es) [] pos) (lMakeX W n C dl sp t) := by
  obtain ⟨fd, F, hb, kp⟩ := G
  obtain ⟨ds, hds, hbd⟩ := hb j hj
  subst hd
  have pass : Passes (L2.CX X.prog X.w) X (DnX (WLa W n)) := fun pins σ H s e s' I c =>
    tk e s' (XE.of_call I (fun cls d H' ⟨L', l, q⟩ => q σ (I.len.trans hn) H' l) c)
  refine PE.imp (pe_make M F hr hg hm hbd hds pass ha hdb he hpl) fun σ H Q h => ?_
  obtain ⟨L, QL, hL, h, kq⟩ := h
  refine ⟨L, _, hL, h, fun vs L1 H1 h1 hL1 y dx ny nd ne => ?_⟩
  exact ⟨_, _, _, led_ins hL1 ny nd ne, h1 y dx (hL1.fresh ny), fun v L' H' ⟨q1, q2⟩ l => ⟨q1, kq _ _ _ q2 l⟩, fun c d L' H' q l => ⟨L', l, q⟩⟩
variable {σ : St} {L : Lg} {Q : LVK}
instance j_callX : S1 (lCallX W dl sp t σ L Q) (t σ L (CatK dl (XCallK W sp σ Q))) := ⟨id⟩
instance j_methX {m : Str} : S1 (lMethX W C m dl sp ta t σ L Q) (ta σ L fun x L1 => ObjL C m x L1 ∧ t σ L1 (CatK dl fun vs => XCallK W sp σ Q (x :: vs))) := ⟨id⟩
instance j_makeX {n : Nat} : S1 (lMakeX W n C dl sp t σ L Q) (t σ L (CatK dl (MakeXK W n C sp Q))) := ⟨id⟩
theorem s_makeXK {n : Nat} {vs : List V} (k : ∀ x dx, sp (.ref x :: vs) ([(x, .ins C dx [])] :: L) (fun v L2 => v = .non ∧ Q (.ref x) L2) (WLa W n)) : MakeXK W n C sp Q vs L := fun x dx _ => k x dx
theorem s_xcall {vs : List V} (k : Wk (fun L1 => sp vs L1 Q (WL W σ)) L) : XCallK W sp σ Q vs L := k
instance j_xcall {vs : List V} : S1 (XCallK W sp σ Q vs L) (Wk (fun L1 => sp vs L1 Q (WL W σ)) L) := ⟨id⟩
end
/-! ### raise -/
def lRaise (W : WX) (C : Addr) : LTS := fun _ σ L => WL W σ (.ref C) none L
def ExcB (K : PySem.W.Frag) (C : Addr) : Bool := PySem.W.excIn K C [.type "ValueError", .type "Exception", .type "BaseException", .type "object"] "ValueError.__new__" && (PySem.W.keepIn K (.ref C) && (decide (PySem.W.subIn K (.ref C) (.type "BaseException") = some true) && decide (PySem.W.typeIn K (.ref C) = some (.type "type"))))
section
variable {X : Cx} {W : WX} {C : Addr} {x m : Str} {j : Nat} {p p2 pos pos' : Pos} {st : Stmt} {t : LTS} {tt : LTT} {te : LTE} {e : Expr}
theorem ls_raise (tk : Takes X W) (hB : ExcB X.K C = true) (hm : X.mg x = some (.ref C)) (hg : Gl X x) (hc : X.calm = true := by rfl) (hdb : (x == ("__debug__" : Str)) = false := by decide) : LS X (.Raise (some (.Call (.Name x p) [.Constant (.str m) j p2] [] pos)) none pos') (lRaise W C) := by
  unfold ExcB at hB
  simp only [Bool.and_eq_true, decide_eq_true_eq] at hB
  exact PS.imp (ps_raise hc tk (pmk_own PySem.F.excBase_ValueError hB.1 hm hB.2.1 (raises_own hB.2.2.1 hB.2.2.2) hg hdb)) fun D σ H ⟨L, _, hL, h, _⟩ => h H hL
theorem LS.nox (h : LS X.nox st t) : LS X st t := ⟨fun pins s σ H D I hw =>
  wpAny_mono (PS.run h pins s σ H D (I.wish _) hw) (fun _ _ q => q.unwish) fun _ _ z => z.elim⟩
theorem LT.nox (h : LT X.nox e tt) : LT X e tt := PT.nox h
theorem LE.nox (h : LE X.nox e te) : LE X e te := PE.nox h
theorem s_raise {D : LEnds} {σ : St} {L : Lg} (h : WL W σ (.ref C) none L) : lRaise W C D σ L := h
instance j_raise {D : LEnds} {σ : St} {L : Lg} : S1 (lRaise W C D σ L) (WL W σ (.ref C) none L) := ⟨id⟩
end
/-! ### a def that may refuse -/
theorem fn_okX {P : Program} {w : World} {K : PySem.W.Frag} {mg : Str → Option Value} {base : Heap} {y qual : Str} {params : Arguments} {body : List Stmt} {scope : Scope} {dvs : List V} {kws : List (Str × V)} {g : Addr} {fd : FuncData} {N qs : List Str} {j : Nat} {sp' : LSp}
    (F : FunD K y qual params body scope dvs kws g fd) (S : FnScope N qs scope) (len : ∀ vs L Q E, sp' vs L Q E → vs.length = qs.length)
    (hbody : ∀ (cdv : Value) (A : Around) (outer : List Env) (s : Shared) (H : Hp) (E : XK), Room j (A.deeper (envOfC qual scope s.heap.objs.size g cdv)) →
      ∃ t, LSs (cxOf (L2.CX P w) P w K mg base N qual scope g cdv A outer s H E) body t ∧ ∀ vs L Q EL σ, (∀ c d L σ, EL c d L → WL (WD E) σ c d L) → sp' vs L Q EL → start N vs = σ → t ⟨fun _ => Wk (Q .non), Q, fun _ _ => False, fun _ _ => False⟩ σ L) : FnOk P w K mg base (L2.CX P w) (j + 1) g fd qs (UpP sp') := by
  refine F.ok S (UpP.len len) fun cdv A outer s H vs Q E hr h => ?_
  obtain ⟨t, ht, hq⟩ := hbody cdv A outer s H E hr
  obtain ⟨L, QL, EL, hL, hs, k1, k2⟩ := h
  exact ⟨_, ht, L, _, hL, hq vs L QL EL _ (fun c d L σ z H' l => k2 c d L H' z l) hs rfl, ⟨fun σ' L' H' ⟨L2, l2, q⟩ l => k1 _ _ _ q (l2 _ l), fun v L' H' q l => k1 _ _ _ q l, fun _ _ _ z => z.elim, fun _ _ _ z => z.elim⟩⟩
theorem FnOk.toX {P : Program} {w : World} {K : PySem.W.Frag} {mg : Str → Option Value} {base : Heap} {k : Nat} {x : Str} {ps : List Str} {sp : LSp} (G : OkF P w K mg base k x ps sp) : OkFX P w K mg base k x ps [] sp := by
  obtain ⟨hm, fd, F, hb, kp⟩ := G
  exact ⟨hm, fd, FnOk.cx F, fun j hj => ⟨[], by simp; exact .nil, hb⟩, kp⟩
/-! ### try -/
abbrev LSu := Addr → Value → Option Addr → LTS
/-- the wish of the clause 'except c as n' -/
def AsW (K : PySem.W.Frag) (c : Value) (i : Nat) (ts : LSu) (Wout : WX) (D : LEnds) : Value → Option Addr → St → Lg → Prop := fun cls d σ L => ∃ b, PySem.W.exmOne K cls c = some b ∧
  (b = true → ∀ a, a ∉ keys L → ts a cls d ⟨fun σ' => D.nx (σ'.set i none), D.rt, fun σ' => D.bk (σ'.set i none), fun σ' => D.ct (σ'.set i none)⟩ (σ.set i (some (.ref a))) L) ∧ (b = false → WL Wout σ cls d L)
def lTryAs (K : PySem.W.Frag) (c : Value) (i : Nat) (tb : WX → LTS) (ts : LSu) (Wout : WX) : LTS := fun D σ L => ∀ W', (∀ cls d σ' L', AsW K c i ts Wout D cls d σ' L' → WL W' σ' cls d L') → tb W' D σ L
/-- .. of clauses without names, one after the other -/
def ManyW (K : PySem.W.Frag) (Wout : WX) (D : LEnds) : List (Value × LSu) → Value → Option Addr → St → Lg → Prop
  | [] => fun cls d σ L => WL Wout σ cls d L
  | (c, ts) :: r => fun cls d σ L => ∃ b, PySem.W.exmOne K cls c = some b ∧ (b = true → ∀ a, a ∉ keys L → ts a cls d D σ L) ∧ (b = false → ManyW K Wout D r cls d σ L)
def lTryMany (K : PySem.W.Frag) (l : List (Value × LSu)) (tb : WX → LTS) (Wout : WX) : LTS := fun D σ L => ∀ W', (∀ cls d σ' L', ManyW K Wout D l cls d σ' L' → WL W' σ' cls d L') → tb W' D σ L
/-- .. with else -/
def lTryManyE (K : PySem.W.Frag) (l : List (Value × LSu)) (tb : WX → LTS) (u : LTS) (Wout : WX) : LTS := fun D σ L => ∀ W', (∀ cls d σ' L', ManyW K Wout D l cls d σ' L' → WL W' σ' cls d L') → tb W' { D with nx := u D } σ L
section
variable {X : Cx} {x n : Str} {c : Value} {i : Nat} {body suite orelse : List Stmt} {b₀ : Stmt} {np pos pos' : Pos} {tb : WX → LTS} {ts : LSu} {Wout : WX} {h₀ : ExceptHandler} {hds : List ExceptHandler} {l : List (Value × LSu)} {u : LTS}
/-- a suite, whatever was caught -/
def SuOk (X : Cx) (suite : List Stmt) (ts : LSu) : Prop := ∀ (a : Addr) (oe : Obj) (cls : Value) (d : Option Addr) (pn : List (Addr × Obj)), Zc cls d oe → (∃ vs, oe.data = .fields vs) → LSs (X.suite a ((a, oe) :: pn)) suite (ts a cls d)
def BoOk (X : Cx) (body : List Stmt) (tb : WX → LTS) : Prop := ∀ (W : WX) (pn : List (Addr × Obj)) (xe : Value → Shared → Prop), Takes (X.tr pn xe) W → PassesOwn (model X.prog X.w) X.A X.env xe → LSs (X.tr pn xe) body (tb W)
theorem ls_tryAs (hN : X.N.Nodup) (hi : X.N[i]? = some n) (hln : X.env.kindOf n = some .local) (hc : Names X x c) (tk : Takes X Wout) (hb : BoOk X body tb) (hsu : SuOk X (b₀ :: suite) ts) (hs : X.stack = X.env :: X.outer := by rfl) (hf : X.env.frame = some X.env.locals := by rfl) :
    LS X (.Try body [.ExceptHandler (some (.Name x np)) (some n) (b₀ :: suite) pos'] [] [] pos) (lTryAs X.K c i tb ts Wout) := by
  refine PS.imp (ps_try_as hs hf hN hi hln hc tk (tb := fun W => UpS (tb W)) (ts := fun a cls d => UpS (ts a cls d)) hb hsu) fun D σ H h => ?_
  obtain ⟨L, DL, hL, h, k⟩ := h
  refine ⟨L, DL, hL, h _ fun cls d σ' L' z H' l => ?_, k⟩
  obtain ⟨b, e, h1, h2⟩ := z
  exact ⟨b, e, fun hb a na => ⟨L', _, l, h1 hb a (l.fresh na), ⟨fun σ2 L2 H2 q => k.nx _ _ _ q, k.rt, fun σ2 L2 H2 q => k.bk _ _ _ q, fun σ2 L2 H2 q => k.ct _ _ _ q⟩⟩, fun hb => h2 hb H' l⟩
inductive HdsL (X : Cx) : List ExceptHandler → List (Value × LSu) → Prop
  | nil : HdsL X [] []
  | cons {x : Str} {c : Value} {ts : LSu} {b₀ : Stmt} {suite : List Stmt} {np pos' : Pos} {hds : List ExceptHandler} {l : List (Value × LSu)} (hc : Names X x c) (hsu : SuOk X (b₀ :: suite) ts) (r : HdsL X hds l) : HdsL X (.ExceptHandler (some (.Name x np)) none (b₀ :: suite) pos' :: hds) ((c, ts) :: l)
def upL (l : List (Value × LSu)) : List (Value × (Addr → Value → Option Addr → TS)) := l.map fun p => (p.1, fun a cls d => UpS (p.2 a cls d))
theorem HdsL.up : ∀ {hds : List ExceptHandler} {l : List (Value × LSu)}, HdsL X hds l → HdsOk X hds (upL l) := by
  intro hds l h
  induction h with
  | nil => exact .nil
  | cons hc hsu _ ih => exact .cons hc hsu ih
theorem manyW_up {D : Ends} {DL : LEnds} (k : EndsUp DL D) : ∀ {l : List (Value × LSu)} {cls : Value} {d : Option Addr} {σ : St} {L : Lg} {H : Hp}, Led H L → ManyW X.K Wout DL l cls d σ L → wMany X.K Wout D (upL l) cls d σ H
  | [], cls, d, σ, L, H, hL, h => h H hL
  | (c, ts) :: r, cls, d, σ, L, H, hL, h => by
    obtain ⟨b, e, h1, h2⟩ := h
    exact ⟨b, e, fun hb a na => ⟨L, DL, hL, h1 hb a (hL.fresh na), k⟩, fun hb => manyW_up k hL (h2 hb)⟩
theorem ls_tryMany (tk : Takes X Wout) (hb : BoOk X body tb) (hh : HdsL X (h₀ :: hds) l) (hs : X.stack = X.env :: X.outer := by rfl) (hf : X.env.frame = some X.env.locals := by rfl) : LS X (.Try body (h₀ :: hds) [] [] pos) (lTryMany X.K l tb Wout) := by
  refine PS.imp (ps_try_many hs hf tk (tb := fun W => UpS (tb W)) (l := upL l) hb hh.up) fun D σ H h => ?_
  obtain ⟨L, DL, hL, h, k⟩ := h
  exact ⟨L, DL, hL, h _ fun cls d σ' L' z H' l => manyW_up k l z, k⟩
theorem ls_tryManyE (ho : LSs X orelse u) (tk : Takes X Wout) (hb : BoOk X body tb) (hh : HdsL X (h₀ :: hds) l) (hs : X.stack = X.env :: X.outer := by rfl) (hf : X.env.frame = some X.env.locals := by rfl) : LS X (.Try body (h₀ :: hds) orelse [] pos) (lTryManyE X.K l tb u Wout) := by
  refine PS.imp (ps_try_manyE ho hs hf tk (tb := fun W => UpS (tb W)) (l := upL l) hb hh.up) fun D σ H h => ?_
  obtain ⟨L, DL, hL, h, k⟩ := h
  exact ⟨L, { DL with nx := u DL }, hL, h _ fun cls d σ' L' z H' l => manyW_up k l z, ⟨fun σ2 L2 H2 q l2 => ⟨L2, DL, l2, q, k⟩, k.rt, k.bk, k.ct⟩⟩
end
/-! ### isinstance of what was caught -/
def ExcCB (K : PySem.W.Frag) (D : Addr) : Bool := decide (PySem.W.findIn K (.ref D) "__getattribute__" = some (some (.builtin "BaseException.__getattribute__"))) && (decide (PySem.W.findIn K (.ref D) "__getattr__" = some none) && (decide (PySem.W.subIn K (.ref D) (.type "BaseException") = some true) && (PySem.W.hasDictIn K D && (decide (PySem.W.findIn K (.ref D) "__class__" = some (some (.builtin "object.__class__"))) && (decide (PySem.W.specialIn K (.builtin "object.__class__") "__get__" = some (some (.builtin "getset_descriptor.__get__"))) && (decide (PySem.W.takesIn K (.builtin "object.__class__") = some true) && decide (PySem.W.mroIn K D (.type "object") = some true)))))))
theorem ExcCB.ok {K : PySem.W.Frag} {D : Addr} (h : ExcCB K D = true) : ExcC K D := by
  unfold ExcCB at h
  simp only [Bool.and_eq_true, decide_eq_true_eq] at h
  obtain ⟨h1, h2, h3, h4, h5, h6, h7, h8⟩ := h
  exact ⟨h1, h2, h3, h4, h5, h6, h7, h8⟩
def gIsE1 (K : PySem.W.Frag) (a : Addr) (cls : Value) (d : Option Addr) : LRC := fun xs L Q => ∃ (D : Addr) (c : V) (cv : Value) (b : Bool), cls = .ref D ∧ d = none ∧ ExcCB K D = true ∧ xs = [.ref a, c] ∧ ClsV c cv ∧ PySem.W.kitOne K (.ref D) cv = some b ∧ Q (.bl b) L
def gIsET (K : PySem.W.Frag) (a : Addr) (cls : Value) (d : Option Addr) : LRC := fun xs L Q => ∃ (D t : Addr) (cs : List V) (us : List Value) (b : Bool), cls = .ref D ∧ d = none ∧ ExcCB K D = true ∧ xs = [.ref a, .ref t] ∧ At L t (.tup cs) ∧ Paired ClsV cs us ∧ PySem.W.kitAny K (.ref D) us = some b ∧ Q (.bl b) L
def gIsE (K : PySem.W.Frag) (a : Addr) (cls : Value) (d : Option Addr) : LRC := fun xs L Q => gIsE1 K a cls d xs L Q ∨ gIsET K a cls d xs L Q ∨ lIsi K xs L Q
section
variable {X : Cx} {a : Addr} {oe : Obj} {cls : Value} {d : Option Addr} {pn : List (Addr × Obj)}
theorem lk_isE1 (hz : Zc cls d oe) (hf : ∃ vs, oe.data = .fields vs) : CallL (X.suite a ((a, oe) :: pn)) (.builtin "isinstance") (gIsE1 X.K a cls d) := by
  intro pins s σ H xs us Q I r h
  obtain ⟨L, QL, hL, ⟨D, c, cv, b, rfl, rfl, hB, rfl, hv, hk, q⟩, k⟩ := h
  exact call_isE (ExcCB.ok hB) hz hf pins s σ H _ us Q I r ⟨c, cv, b, rfl, fun u ru => hv.eq ru, hk, k _ _ _ q hL⟩
theorem lk_isET (hz : Zc cls d oe) (hf : ∃ vs, oe.data = .fields vs) : CallL (X.suite a ((a, oe) :: pn)) (.builtin "isinstance") (gIsET X.K a cls d) := by
  intro pins s σ H xs us Q I r h
  obtain ⟨L, QL, hL, ⟨D, t, cs, ws, b, rfl, rfl, hB, rfl, hT, hp, hk, q⟩, k⟩ := h
  obtain ⟨u1, u2, rfl, r1, r2⟩ := vals2 r
  have e1 : u1 = Value.ref a := r1
  have e2 : u2 = Value.ref t := r2
  subst e1 e2
  have C := (ExcCB.ok hB)
  have hget := (I.pin (a, oe) (List.mem_append_left _ List.mem_cons_self)).1
  obtain ⟨oc, od, oda, osl⟩ := oe
  obtain ⟨z1, z2⟩ := hz
  obtain ⟨vs, hvs⟩ := hf
  dsimp only at z1 z2 hvs
  subst z1 z2 hvs
  have J : PySem.W.InstAt s.heap a ⟨.ref D, none, .fields vs, osl⟩ D none := ⟨hget, rfl, rfl, trivial⟩
  have tok : ObjOk X.prog X.w H s.heap t (.tup cs) := I.hok t _ (hT H hL)
  obtain ⟨_, its, rv, ob, g1, g2, n, g3⟩ := tok
  have e3 := ClsV.all hp rv
  subst e3
  obtain ⟨qc, qd, qt, qs⟩ := ob
  simp only at g2 g3
  subst g2 g3
  exact PySem.W.kia_tup (PySem.W.handS_kitx_exc C.hg C.hk C.hs C.hd C.ha C.hn C.ht C.hm) I.kIn J g1 hk (fun z => nomatch z) fun tk => ⟨.bl b, H, I.tok tk, rfl, k _ _ _ q hL⟩
theorem kk_isE (K : PySem.W.Frag) (hz : Zc cls d oe) (hf : ∃ vs, oe.data = .fields vs) (h : X.K = K := by rfl) : CallL (X.suite a ((a, oe) :: pn)) (.builtin "isinstance") (gIsE K a cls d) := by
  subst h
  exact CallL.or (lk_isE1 hz hf) (CallL.or (lk_isET hz hf) lk_isi)
variable {K : PySem.W.Frag} {D C t : Addr} {L : Lg} {Q : LVK} {b : Bool}
theorem s_isE (hB : ExcCB K D = true) (hk : PySem.W.kitOne K (.ref D) (.ref C) = some b) (k : Q (.bl b) L) : gIsE K a (.ref D) none [.ref a, .ref C] L Q := .inl ⟨D, _, _, b, rfl, rfl, hB, rfl, .own C, hk, k⟩
theorem s_isEty {T : String} (hB : ExcCB K D = true) (hk : PySem.W.kitOne K (.ref D) (.type T) = some b) (k : Q (.bl b) L) : gIsE K a (.ref D) none [.ref a, .ty T] L Q := .inl ⟨D, _, _, b, rfl, rfl, hB, rfl, .ty T, hk, k⟩
theorem s_isET {cs : List V} {us : List Value} (hB : ExcCB K D = true) (ht : At L t (.tup cs)) (hp : Paired ClsV cs us) (hk : PySem.W.kitAny K (.ref D) us = some b) (k : Q (.bl b) L) : gIsE K a (.ref D) none [.ref a, .ref t] L Q := .inr (.inl ⟨D, t, cs, us, b, rfl, rfl, hB, rfl, ht, hp, hk, k⟩)
theorem kany_nil {x : Value} : PySem.W.kitAny K x [] = some false := rfl
theorem kany_t {x c : Value} {cs : List Value} (h : PySem.W.kitOne K x c = some true) : PySem.W.kitAny K x (c :: cs) = some true := by unfold PySem.W.kitAny; rw [h]
theorem kany_f {x c : Value} {cs : List Value} (h : PySem.W.kitOne K x c = some false) (r : PySem.W.kitAny K x cs = some b) : PySem.W.kitAny K x (c :: cs) = some b := by
  unfold PySem.W.kitAny
  rw [h]
  exact r
end
/-! ### the rules with the written part named -/
section
variable {X : Cx} (K : PySem.W.Frag) {x n : Str} {c : Value} {i : Nat} {body suite orelse : List Stmt} {b₀ : Stmt} {np pos pos' : Pos} {tb : WX → LTS} {ts : LSu} {Wout : WX} {h₀ : ExceptHandler} {hds : List ExceptHandler} {l : List (Value × LSu)} {u : LTS} {E : XK}
theorem kls_tryAs (hN : X.N.Nodup) (hi : X.N[i]? = some n) (hln : X.env.kindOf n = some .local) (hc : Names X x c) (tk : Takes X Wout) (hb : BoOk X body tb) (hsu : SuOk X (b₀ :: suite) ts) (h : X.K = K := by rfl) (hs : X.stack = X.env :: X.outer := by rfl) (hf : X.env.frame = some X.env.locals := by rfl) :
    LS X (.Try body [.ExceptHandler (some (.Name x np)) (some n) (b₀ :: suite) pos'] [] [] pos) (lTryAs K c i tb ts Wout) := by
  subst h
  exact ls_tryAs hN hi hln hc tk hb hsu hs hf
theorem kls_tryMany (tk : Takes X Wout) (hb : BoOk X body tb) (hh : HdsL X (h₀ :: hds) l) (h : X.K = K := by rfl) (hs : X.stack = X.env :: X.outer := by rfl) (hf : X.env.frame = some X.env.locals := by rfl) : LS X (.Try body (h₀ :: hds) [] [] pos) (lTryMany K l tb Wout) := by
  subst h
  exact ls_tryMany tk hb hh hs hf
theorem kls_tryManyE (ho : LSs X orelse u) (tk : Takes X Wout) (hb : BoOk X body tb) (hh : HdsL X (h₀ :: hds) l) (h : X.K = K := by rfl) (hs : X.stack = X.env :: X.outer := by rfl) (hf : X.env.frame = some X.env.locals := by rfl) : LS X (.Try body (h₀ :: hds) orelse [] pos) (lTryManyE K l tb u Wout) := by
  subst h
  exact ls_tryManyE ho tk hb hh hs hf
theorem takes_ofD (hs : X.stack = X.env :: X.outer) (hf : X.env.frame = some X.env.locals) (hex : X.ex = []) {E₁ : Value → Shared → Prop}
    (hx : X.xe = fun e s' => wpAny (model X.prog X.w) X.A (leaving X.env e) (fun _ s'' => L2.CX X.prog X.w X.outer X.H_0 X.s_0 E e s'') E₁ s') : Takes X (WD E) := takes_of hs hf hex hx
end
theorem bindsX0 {K : PySem.W.Frag} {fd : FuncData} {ps : List Str} (h : Binds K fd ps []) : ∀ j, j ≤ ([] : List V).length → ∃ ds, Vals (([] : List V).drop j) ds ∧ Binds K fd ps ds := fun j _ => ⟨[], by simp; exact .nil, h⟩
theorem WL.by_ {W : WX} {σ : St} {c : Value} {d : Option Addr} {L L' : Lg} (l : Lic L L') (h : WL W σ c d L') : WL W σ c d L := fun H hL => h H (l H hL)
/-! promises with a refusal -/
def sp1X (P : V → Lg → LVK → LXK → Prop) : LSp := fun vs L Q E => ∃ a, vs = [a] ∧ P a L Q E
def sp2X (P : V → V → Lg → LVK → LXK → Prop) : LSp := fun vs L Q E => ∃ a b, vs = [a, b] ∧ P a b L Q E
def sp3X (P : V → V → V → Lg → LVK → LXK → Prop) : LSp := fun vs L Q E => ∃ a b c, vs = [a, b, c] ∧ P a b c L Q E
def sp4X (P : V → V → V → V → Lg → LVK → LXK → Prop) : LSp := fun vs L Q E => ∃ a b c d, vs = [a, b, c, d] ∧ P a b c d L Q E
def sp5X (P : V → V → V → V → V → Lg → LVK → LXK → Prop) : LSp := fun vs L Q E => ∃ a b c d e, vs = [a, b, c, d, e] ∧ P a b c d e L Q E
def sp6X (P : V → V → V → V → V → V → Lg → LVK → LXK → Prop) : LSp := fun vs L Q E => ∃ a b c d e f, vs = [a, b, c, d, e, f] ∧ P a b c d e f L Q E
theorem len1X {P : V → Lg → LVK → LXK → Prop} {n : Nat} (h : n = 1) : ∀ vs L Q E, sp1X P vs L Q E → vs.length = n := fun _ _ _ _ ⟨_, e, _⟩ => by rw [e, h]; rfl
theorem len2X {P : V → V → Lg → LVK → LXK → Prop} {n : Nat} (h : n = 2) : ∀ vs L Q E, sp2X P vs L Q E → vs.length = n := fun _ _ _ _ ⟨_, _, e, _⟩ => by rw [e, h]; rfl
theorem len3X {P : V → V → V → Lg → LVK → LXK → Prop} {n : Nat} (h : n = 3) : ∀ vs L Q E, sp3X P vs L Q E → vs.length = n := fun _ _ _ _ ⟨_, _, _, e, _⟩ => by rw [e, h]; rfl
theorem len4X {P : V → V → V → V → Lg → LVK → LXK → Prop} {n : Nat} (h : n = 4) : ∀ vs L Q E, sp4X P vs L Q E → vs.length = n := fun _ _ _ _ ⟨_, _, _, _, e, _⟩ => by rw [e, h]; rfl
theorem len5X {P : V → V → V → V → V → Lg → LVK → LXK → Prop} {n : Nat} (h : n = 5) : ∀ vs L Q E, sp5X P vs L Q E → vs.length = n := fun _ _ _ _ ⟨_, _, _, _, _, e, _⟩ => by rw [e, h]; rfl
theorem len6X {P : V → V → V → V → V → V → Lg → LVK → LXK → Prop} {n : Nat} (h : n = 6) : ∀ vs L Q E, sp6X P vs L Q E → vs.length = n := fun _ _ _ _ ⟨_, _, _, _, _, _, e, _⟩ => by rw [e, h]; rfl
theorem st5 {σ : St} (h : σ.length = 5) : ∃ a b c d e, σ = [a, b, c, d, e] := by
  match σ, h with
  | [a, b, c, d, e], _ => exact ⟨a, b, c, d, e, rfl⟩
end VM

end

section
namespace VM
open PySem PySem.Spec L2
open PyProof.Rows hiding St

/-! ### min of a list of ints, min(.., default=None) -/
theorem minOf_le : ∀ (ys : List Int) (y : Int), PySem.W.minOf y ys ∈ y :: ys ∧ ∀ z ∈ y :: ys, PySem.W.minOf y ys ≤ z
  | [], y => ⟨by simp [PySem.W.minOf], fun z hz => by rw [List.mem_singleton.mp hz]; exact Int.le_refl _⟩
  | x :: ys, y => by
    have ih := minOf_le ys (if x < y then x else y)
    have e : PySem.W.minOf y (x :: ys) = PySem.W.minOf (if x < y then x else y) ys := by
      unfold PySem.W.minOf
      rw [List.foldl_cons]
      congr 1
      show (if decide (x < y) = true then x else y) = _
      by_cases h : x < y <;> simp [h]
    rw [e]
    obtain ⟨h1, h2⟩ := ih
    refine ⟨?_, fun z hz => ?_⟩
    · rcases List.mem_cons.mp h1 with h | h
      · rw [h]
        split <;> simp
      · simp [h]
    · have h3 := h2 _ (List.mem_cons_self)
      have h4 : (if x < y then x else y) ≤ x ∧ (if x < y then x else y) ≤ y := by split <;> omega
      rcases List.mem_cons.mp hz with h | h
      · rw [h]; omega
      · rcases List.mem_cons.mp h with h | h
        · rw [h]; omega
        · exact h2 z (List.mem_cons_of_mem _ h)
def rMinD (K : PySem.W.Frag) : List V → List V → Hp → VK → Prop := fun vs zs H Q => ∃ (a : Addr) (ns : List Int), vs = [.ref a] ∧ zs = [.non] ∧ SqL K H a (ns.map V.int) ∧ (ns = [] → Q .non H) ∧ ∀ m, m ∈ ns → (∀ y ∈ ns, m ≤ y) → Q (.int m) H
section
variable {X : Cx}
theorem cr_minD (hc : X.calm = true) (hu : X.A.units + 64 < cLine) : CallRK X (.builtin "min") [Str.ofString "default"] (rMinD X.K) := by
  intro pins s σ H vs zs us ws Q I r rz h
  obtain ⟨a, ns, rfl, rfl, hs, q0, q1⟩ := h
  obtain ⟨its, rv, hl, _⟩ := I.list hs
  rw [Vals.ref1 r]
  obtain ⟨w1, rfl, e1⟩ := vals1 rz
  have e2 : w1 = Value.none := e1
  subst e2
  have hi := rv.ints
  refine PySem.W.min_list_datum_default (α := Int) (xs := ns) (I.ok.hd hc) hl.isList (by rw [List.toList_toArray]; exact PySem.W.HoldAll.of_ints hi) (by show X.A.units + 1 + 0 < cLine; omega) (fun e h' tk k => ?_) fun y ys i v h' tk e hv hh k => ?_
  · exact ⟨.non, H, I.kept k, rfl, q0 e⟩
  · obtain ⟨as, rd⟩ := hh
    have rd' : PySem.Reads h' v (.int (PySem.W.minOf y ys)) as := rd
    obtain ⟨h1, h2⟩ := minOf_le ys y
    cases rd' with
    | int _ t => exact ⟨.int _, H, I.kept k, ⟨t, rfl⟩, q1 _ (by rw [e]; exact h1) (by rw [e]; exact h2)⟩
def MinDK (K : PySem.W.Frag) (Q : LVK) : LVK := fun x L => ∃ (a : Addr) (ns : List Int), x = .ref a ∧ IsL K L a (ns.map V.int) ∧ (ns = [] → Q .non L) ∧ ∀ m, m ∈ ns → (∀ y ∈ ns, m ≤ y) → Q (.int m) L
def lMinD (K : PySem.W.Frag) (ta : LTE) : LTE := fun σ L Q => ta σ L (MinDK K Q)
theorem kmin_d (K : PySem.W.Frag) {e : Expr} {j : Nat} {p pos kpos npos : Pos} {ta : LTE} (hu : X.A.units + 64 < cLine) (hg : Gl X "min") (hm : X.mg "min" = none) (ha : LE X e ta) (hc : X.calm = true := by rfl) (h : X.K = K := by rfl)
    (he : backTo pos (starEach [e] X.env) = (false, eval e X.env) :: backTo pos (starEach [] X.env) := by rfl) (hpl : (backTo pos (starEach [e] X.env)).any (·.1) = false := by rfl) (hs : starEach [e] X.env = (false, eval e X.env) :: starEach [] X.env := by rfl)
    (hall : (backToKw pos (keywordEach [⟨some "default", .Constant .none j npos, kpos⟩] X.env)).all (·.1.isSome) = true := by rfl) (hnone : (backToKw pos (keywordEach [⟨some "default", .Constant .none j npos, kpos⟩] X.env)).any (·.1.isNone) = false := by rfl) (hks : (backToKw pos (keywordEach [⟨some "default", .Constant .none j npos, kpos⟩] X.env)).filterMap (·.1) = [Str.ofString "default"] := by rfl) :
    LE X (.Call (.Name "min" p) [e] [⟨some "default", .Constant .none j npos, kpos⟩] pos) (lMinD K ta) := by
  subst h
  refine PE.imp (pe_callBK (cr_minD hc hu) hg hm (by decide +kernel) (pa_cons ha pa_nil hs) (pk_cons pe_non pk_nil) (by decide) (by decide) he hpl hall hnone hks) fun σ H Q hq => ?_
  obtain ⟨L, QL, hL, hq, k⟩ := hq
  refine ⟨L, _, hL, hq, fun x L1 H1 h1 hL1 => ?_⟩
  obtain ⟨a, ns, e1, hi, q0, q1⟩ := h1
  exact ⟨a, ns, by rw [e1], rfl, hi H1 hL1, fun z => k _ _ _ (q0 z) hL1, fun m h1 h2 => k _ _ _ (q1 m h1 h2) hL1⟩
def gMin1 (K : PySem.W.Frag) : LRC := fun xs L Q => ∃ (a : Addr) (ns : List Int), xs = [.ref a] ∧ IsL K L a (ns.map V.int) ∧ 0 < ns.length ∧ ∀ m, m ∈ ns → (∀ y ∈ ns, m ≤ y) → Q (.int m) L
theorem kk_min1 (K : PySem.W.Frag) (hc : X.calm = true := by rfl) (h : X.K = K := by rfl) : CallL X (.builtin "min") (gMin1 K) := by
  subst h
  exact CallR.imp (cr_min hc) fun xs H Q ⟨L, QL, hL, ⟨a, ns, e, hi, hn, q⟩, k⟩ => ⟨a, ns, e, hi H hL, hn, fun m h1 h2 => k _ _ _ (q m h1 h2) hL⟩
variable {K : PySem.W.Frag} {σ : St} {L L1 : Lg} {Q : LVK} {ta : LTE} {p a : Addr} {xs : List V} {ns : List Int} {x : Int}
instance j_minD : S1 (lMinD K ta σ L Q) (ta σ L (MinDK K Q)) := ⟨id⟩
theorem s_minD (h : IsL K L p xs) (v : IntsV xs ns) (h0 : ns = [] → Q .non L) (k : ∀ m, m ∈ ns → (∀ y ∈ ns, m ≤ y) → Q (.int m) L) : MinDK K Q (.ref p) L := ⟨p, ns, rfl, by have := v.eq; subst this; exact h, h0, k⟩
theorem s_min1 (h : IsL K L p xs) (v : IntsV xs ns) (h0 : 0 < ns.length) (k : ∀ m, m ∈ ns → (∀ y ∈ ns, m ≤ y) → Q (.int m) L) : gMin1 K [.ref p] L Q := ⟨p, ns, rfl, by have := v.eq; subst this; exact h, h0, k⟩
end
/-! ### walks over a dict's keys: the dict stands still from then on -/
def wkK (a : Addr) (od : Obj) (kvs : List (Key × V)) : LWk := ⟨kvs.length, fun L => At L a (.frz od (.dK kvs)), fun i L x L' => L' = L ∧ ∃ k v, kvs[i]? = some (k, v) ∧ x = kV k⟩
def KeyK (R : LWk → Lg → Prop) : V → Lg → Prop := fun x L1 => ∃ (a : Addr) (kvs : List (Key × V)), x = .ref a ∧ ((∃ L2 : Obj → Lg, ∀ od, Wr a (.dK kvs) (.frz od (.dK kvs)) L1 (L2 od) ∧ R (wkK a od kvs) (L2 od)) ∨ ∃ od, At L1 a (.frz od (.dK kvs)) ∧ R (wkK a od kvs) L1)
def kKeys (tl : LTE) : LTI := fun σ L R => tl σ L (KeyK R)
theorem ki_keys {X : Cx} {tg e : Expr} {tl : LTE} (hl : LE X e tl) : LI X tg e (kKeys tl) := by
  have hx : PE X e (fun σ H Q => Up (tl σ) H fun x H1 => ∃ (a : Addr) (kvs : List (Key × V)), x = .ref a ∧ ((H1 a = some (.dK kvs) ∧ ∀ od, Q x (upd H1 a (.frz od (.dK kvs)))) ∨ ∃ od, H1 a = some (.frz od (.dK kvs)) ∧ Q x H1)) := by
    refine ⟨fun pins s σ H Q I h => ?_⟩
    refine wpAny_mono (hl.run pins s σ H _ I h) (fun u s1 z => ?_) fun _ _ z => z
    obtain ⟨x, H1, I1, rx, a, kvs, e1, hd⟩ := z
    rcases hd with ⟨hd, q⟩ | ⟨od, hd, q⟩
    · obtain ⟨od, J⟩ := I1.lock hd True.intro
      exact ⟨x, _, J, rx, q od⟩
    · exact ⟨x, H1, I1, rx, q⟩
  refine PI.imp (pi_keys hx) fun σ H R h => ?_
  obtain ⟨L, RL, hL, h, k⟩ := h
  refine ⟨L, _, hL, h, fun x L1 H1 h1 hL1 => ?_⟩
  obtain ⟨a, kvs, rfl, hd⟩ := h1
  have sim : ∀ od : Obj, Sim (Itk a od kvs) (wkK a od kvs) := fun od => walk_keys.mono (fun H ⟨L, l, g⟩ => g H l) fun i H x H' hi g y L l _ => by
    obtain ⟨rfl, y2⟩ := y
    exact ⟨L, l, rfl, y2⟩
  refine ⟨a, kvs, rfl, ?_⟩
  rcases hd with ⟨L2, hw⟩ | ⟨od, ha, q⟩
  · refine .inl ⟨(hw default).1.at_ H1 hL1, fun od => ?_⟩
    obtain ⟨w, q⟩ := hw od
    refine ⟨a, od, rfl, .inl ⟨kvs, upd_same, ?_⟩⟩
    exact k _ _ _ _ q (w.led hL1) (sim od)
  · exact .inr ⟨od, ha H1 hL1, a, od, rfl, .inl ⟨kvs, ha H1 hL1, k _ _ _ _ q hL1 (sim od)⟩⟩
section
variable {σ : St} {L L1 : Lg} {R : LWk → Lg → Prop} {tl : LTE}
instance j_keys : S1 (kKeys tl σ L R) (tl σ L (KeyK R)) := ⟨id⟩
end
/-! ### dicts of data by ints -/
/-- a dict that is read, frozen or not -/
def DkU (u : HO) (kvs : List (Key × V)) : Prop := u = .dK kvs ∨ ∃ od, u = .frz od (.dK kvs)
def lookE {β : Type} (es : List (Int × β)) (k : Int) : Option β := (es.find? fun e => decide (e.1 = k)).map (·.2)
def DicD (c : Chunk) (p : Addr) (es : List (Int × PyData)) : Prop := ∃ (kvs : List (Key × V)) (C : Chunk), c = (p, HO.dK kvs) :: C ∧ kvs.map (·.1) = es.map (fun e => (.inl e.1 : Key)) ∧ TelAll C (kvs.map (·.2)) (es.map (·.2))
/-- .. told, whether it stands still or not -/
def DicF (c : Chunk) (p : Addr) (es : List (Int × PyData)) : Prop := ∃ (u : HO) (kvs : List (Key × V)) (C : Chunk), c = (p, u) :: C ∧ DkU u kvs ∧ kvs.map (·.1) = es.map (fun e => (.inl e.1 : Key)) ∧ TelAll C (kvs.map (·.2)) (es.map (·.2))
theorem DicD.f {c : Chunk} {p : Addr} {es : List (Int × PyData)} (h : DicD c p es) : DicF c p es := let ⟨kvs, C, h1, h2, h3⟩ := h; ⟨_, kvs, C, h1, .inl rfl, h2, h3⟩
theorem DicD.nil {p : Addr} : DicD [(p, .dK [])] p [] := ⟨[], [], rfl, rfl, .nil⟩
theorem look_val {C : Chunk} {k : Int} : ∀ {kvs : List (Key × V)} {es : List (Int × PyData)}, kvs.map (·.1) = es.map (fun e => (.inl e.1 : Key)) → TelAll C (kvs.map (·.2)) (es.map (·.2)) →
    (lookE es k = none → valV kvs (.inl k) = none) ∧ ∀ d, lookE es k = some d → ∃ v, valV kvs (.inl k) = some v ∧ Tel C v d
  | [], [], _, _ => ⟨fun _ => rfl, fun d h => by cases h⟩
  | [], _ :: _, h, _ => by cases h
  | _ :: _, [], h, _ => by cases h
  | (k1, v1) :: kvs, (k2, d2) :: es, h, t => by
    simp only [List.map_cons, List.cons.injEq] at h
    obtain ⟨h1, h2⟩ := h
    cases t with
    | cons ta tb =>
      have ih := look_val (k := k) h2 tb
      by_cases e : k2 = k
      · have e1 : lookE ((k2, d2) :: es) k = some d2 := by unfold lookE; rw [List.find?_cons_of_pos (by simpa using e)]; rfl
        have e2 : valV ((k1, v1) :: kvs) (.inl k) = some v1 := L2.valV_pos (by rw [h1, e])
        rw [e1, e2]
        exact ⟨fun z => (by cases z), fun d hd => ⟨v1, rfl, by rw [← Option.some.inj hd]; exact ta⟩⟩
      · have e1 : lookE ((k2, d2) :: es) k = lookE es k := by unfold lookE; rw [List.find?_cons_of_neg (by simpa using e)]
        have e2 : valV ((k1, v1) :: kvs) (.inl k) = valV kvs (.inl k) := L2.valV_neg (by rw [h1]; intro z; exact e (Sum.inl.inj z))
        rw [e1, e2]
        exact ih
theorem lookE_snoc {β : Type} {es : List (Int × β)} {k x : Int} {d : β} (h : lookE es k = none) : lookE (es ++ [(k, d)]) x = if x = k then some d else lookE es x := by
  unfold lookE at *
  rw [List.find?_append]
  by_cases e : x = k
  · subst e
    rw [if_pos rfl]
    rw [Option.map_eq_none_iff] at h
    rw [h, List.find?_cons_of_pos (by simp)]
    rfl
  · rw [if_neg e]
    cases hf : es.find? (fun e => decide (e.1 = x)) with
    | some y => rfl
    | none => rw [List.find?_cons_of_neg (by simpa using fun z => e z.symm)]; rfl
section
variable {K : PySem.W.Frag} {L L1 L2 : Lg} {c : Chunk} {p : Addr} {es : List (Int × PyData)} {x : Int} {Q : LVK} {d : PyData} {v : V} {cs : List Chunk}
theorem DicF.get (h : DicF c p es) (hm : c ∈ L) : ∃ kvs, (∀ H, Led H L → Rd H p (.dK kvs)) ∧ kvs.map (·.1) = es.map (fun e => (.inl e.1 : Key)) ∧ TelAll c (kvs.map (·.2)) (es.map (·.2)) := by
  obtain ⟨u, kvs, C, rfl, hu, hk, ht⟩ := h
  refine ⟨kvs, fun H l => ?_, hk, ht.mono fun x hx => List.mem_cons_of_mem _ hx⟩
  have e := l.get _ hm (p, u) List.mem_cons_self
  rcases hu with rfl | ⟨od, rfl⟩
  · exact .inl e
  · exact .inr ⟨od, e⟩
theorem dget_rd {kvs : List (Key × V)} (h : ∀ H, Led H L → Rd H p (.dK kvs)) (k : Int) : DGetL L p (.int k) (valV kvs (.inl k)) := fun H l => .inl ⟨kvs, .inl k, h H l, rfl, rfl⟩
theorem s_in_dd (h : DicF c p es) (hm : c ∈ L) (k : Q (.bl (lookE es x).isSome) L) : gIn K false (.int x) (.ref p) L Q := by
  obtain ⟨kvs, h1, h2, h3⟩ := h.get hm
  have lv := look_val (k := x) h2 h3
  refine .inr ⟨p, _, rfl, dget_rd h1 x, ?_⟩
  have e : (valV kvs (.inl x)).isSome = (lookE es x).isSome := by
    cases hl : lookE es x with
    | none => rw [lv.1 hl]; rfl
    | some d => obtain ⟨v, e, _⟩ := lv.2 d hl; rw [e]; rfl
  rw [if_neg (by decide), e]
  exact k
theorem s_nin_dd (h : DicF c p es) (hm : c ∈ L) (k : Q (.bl (!(lookE es x).isSome)) L) : gIn K true (.int x) (.ref p) L Q := by
  obtain ⟨kvs, h1, h2, h3⟩ := h.get hm
  have lv := look_val (k := x) h2 h3
  refine .inr ⟨p, _, rfl, dget_rd h1 x, ?_⟩
  have e : (valV kvs (.inl x)).isSome = (lookE es x).isSome := by
    cases hl : lookE es x with
    | none => rw [lv.1 hl]; rfl
    | some d => obtain ⟨v, e, _⟩ := lv.2 d hl; rw [e]; rfl
  rw [if_pos rfl, e]
  exact k
theorem s_ix_dd (h : DicF c p es) (hm : c ∈ L) (e : lookE es x = some d) (k : ∀ v, Tel c v d → Q v L) : gIx K (.ref p) (.int x) L Q := by
  obtain ⟨kvs, h1, h2, h3⟩ := h.get hm
  obtain ⟨v, e1, t⟩ := (look_val (k := x) h2 h3).2 d e
  exact .inr (.inr ⟨p, v, rfl, by rw [← e1]; exact dget_rd h1 x, k v t⟩)
/-- a new key -/
theorem s_set_dd {Q : Lg → Prop} (h : DicD c p es) (hv : Tel cs.flatten v d) (hp : Pulls cs L L1) (hc : Pull c L1 L2) (hn : lookE es x = none) (hz : es.length < 1000000) (k : ∀ c', DicD c' p (es ++ [(x, d)]) → Wk Q (c' :: L2)) : gSet (.ref p) (.int x) v L (Wk Q) := by
  obtain ⟨kvs, C, rfl, hk, ht⟩ := h
  obtain ⟨L3, p3, q3⟩ := hp.sw hc
  obtain ⟨L4, w4, p4⟩ := Pull.wr (A := []) (B := C) (o := .dK kvs) (o' := .dK (putK kvs (.inl x) v)) p3
  have hkl : kvs.length = es.length := by have := congrArg List.length hk; rwa [List.length_map, List.length_map] at this
  have hput : putK kvs (.inl x) v = kvs ++ [(.inl x, v)] := _root_.L2.putK_new v ((look_val (k := x) hk ht).1 hn)
  refine s_set_d (kvs := kvs) w4 (by omega) ?_
  obtain ⟨L5, l5, q5⟩ := k ((p, .dK (putK kvs (.inl x) v)) :: (C ++ cs.flatten)) ⟨_, _, rfl, by rw [hput, List.map_append, List.map_append, hk]; rfl, by
    rw [hput, List.map_append, List.map_append]
    exact TelAll.snoc (hv.mono fun y hy => List.mem_append_right _ hy) (ht.mono fun y hy => List.mem_append_left _ hy)⟩
  refine ⟨L5, Lic.trans (LicS.lic ?_) l5, q5⟩
  refine LicS.trans (LicS.pull p4 q3.lic) ?_
  exact LicS.of_flat (by simp [List.flatten])
end
end VM

end

section
namespace VM
open PySem PySem.Spec L2
open PyProof.Rows hiding St

/-! ### walks over the keys of a dict of data -/
/-- it stands still -/
def FrzD (c : Chunk) (p : Addr) (od : Obj) (kvs : List (Key × V)) (es : List (Int × PyData)) : Prop := ∃ C : Chunk, c = (p, HO.frz od (.dK kvs)) :: C ∧ kvs.map (·.1) = es.map (fun e => (.inl e.1 : Key)) ∧ TelAll C (kvs.map (·.2)) (es.map (·.2))
theorem FrzD.f {c : Chunk} {p : Addr} {od : Obj} {kvs : List (Key × V)} {es : List (Int × PyData)} (h : FrzD c p od kvs es) : DicF c p es := let ⟨C, h1, h2, h3⟩ := h; ⟨_, kvs, C, h1, .inr ⟨od, rfl⟩, h2, h3⟩
section
variable {K : PySem.W.Frag} {σ σw : St} {L L1 : Lg} {c : Chunk} {p a : Addr} {es : List (Int × PyData)} {R : LWk → Lg → Prop} {od : Obj} {kvs : List (Key × V)} {gg : LTG} {tt : LTT} {te : LTE} {vw : List Nat} {Dl : Addr} {Q : LVK}
theorem s_keysD (h : DicF c p es) (hp : Pull c L L1) (k : ∀ od kvs c' L4, FrzD c' p od kvs es → LicS L4 (c' :: L1) → R (wkK p od kvs) L4) : KeyK R (.ref p) L := by
  obtain ⟨u, kvs, C, rfl, hu, hk, ht⟩ := h
  refine ⟨p, kvs, rfl, ?_⟩
  rcases hu with rfl | ⟨od, rfl⟩
  · refine .inl ?_
    have := fun od : Obj => Pull.wr (A := []) (B := C) (o := .dK kvs) (o' := .frz od (.dK kvs)) hp
    obtain ⟨L2, h2⟩ := Classical.skolem.mp this
    exact ⟨L2, fun od => ⟨(h2 od).1, k od kvs _ _ ⟨C, rfl, hk, ht⟩ (LicS.pull (h2 od).2 LicS.refl)⟩⟩
  · refine .inr ⟨od, fun H l => l.get _ hp.mem _ List.mem_cons_self, k od kvs _ _ ⟨C, rfl, hk, ht⟩ (LicS.pull hp LicS.refl)⟩
theorem c_keys (Pv : Nat → List V → Lg → Prop) {σw : St} (hw : wipe σ vw = σw) (h0 : Wk (Pv 0 []) L) (hG : ∀ i acc L, Pv i acc L → At ([(Dl, .lst acc)] :: L) a (.frz od (.dK kvs))) (hs : ∀ i acc k v L, kvs[i]? = some (k, v) → Pv i acc L → gg (kV k) σw ([(Dl, .lst acc)] :: L) (LcT tt te Dl acc (Pv (i + 1)) σw vw)) (hd : ∀ acc L, Pv kvs.length acc L → Wk (Q (.ref Dl)) ([(Dl, .lst acc)] :: L)) : LcR (wkK a od kvs) gg tt te vw σ Dl L Q := by
  refine ⟨Pv, h0, fun i acc L _ h => hG i acc L h, fun i acc x L L' hi p _ ⟨e1, k, v, e2, e3⟩ => ?_, fun acc L p _ => hd acc L p⟩
  subst e1; subst hw; subst e3
  exact hs i acc k v _ e2 p
theorem a_filtK (f : Int → Bool) (h : FrzD c p od kvs es) (hl : LicS L (c :: L1)) (hw : wipe σ vw = σw) (hz : es.length ≤ 1000000)
    (hs : ∀ (x : Int) (acc : List V) (Dl : Addr), x ∈ es.map (·.1) → acc.length < 1000000 → gg (.int x) σw ([(Dl, .lst acc)] :: c :: L1) (LcT tt te Dl acc (AccB acc (f x) (.int x) (c :: L1)) σw vw))
    (hd : ∀ Dl, Wk (Q (.ref Dl)) ([(Dl, .lst (((es.map (·.1)).filter f).map V.int))] :: c :: L1)) : ∀ Dl, Dl ∉ keys L → LcR (wkK p od kvs) gg tt te vw σ Dl L Q := fun Dl _ => by
  obtain ⟨C, rfl, hk, ht⟩ := h
  have hkl : kvs.length = es.length := by have := congrArg List.length hk; rwa [List.length_map, List.length_map] at this
  refine c_keys (fun i acc L' => acc = (((es.map (·.1)).take i).filter f).map V.int ∧ i ≤ es.length ∧ L' = ((p, HO.frz od (.dK kvs)) :: C) :: L1) hw ?_ (fun i acc L' h => ?_) ?_ ?_
  · exact Wk.by_ hl.lic ⟨by simp, Nat.zero_le _, rfl⟩
  · rw [h.2.2]; exact fun H l => l.get _ (List.mem_cons_of_mem _ List.mem_cons_self) _ List.mem_cons_self
  · rintro i acc k v L' hi ⟨rfl, hl, rfl⟩
    have hlt : i < es.length := by have := (List.getElem?_eq_some_iff.mp hi).1; omega
    obtain ⟨y, hy⟩ : ∃ y, es[i]? = some y := ⟨_, List.getElem?_eq_getElem hlt⟩
    have hkk : k = .inl y.1 := by
      have e1 : (kvs.map (·.1))[i]? = some k := by rw [List.getElem?_map, hi]; rfl
      have e2 : (es.map (fun e => (.inl e.1 : Key)))[i]? = some (.inl y.1) := by rw [List.getElem?_map, hy]; rfl
      rw [hk, e2] at e1
      exact (Option.some.inj e1).symm
    subst hkk
    have hy1 : (es.map (·.1))[i]? = some y.1 := by rw [List.getElem?_map, hy]; rfl
    have hle : (((es.map (·.1)).take i).filter f).length ≤ i := Nat.le_trans (List.length_filter_le _ _) (by simp; omega)
    have := hs y.1 ((((es.map (·.1)).take i).filter f).map V.int) Dl (List.mem_of_getElem? hy1) (by rw [List.length_map]; omega)
    have e : AccB ((((es.map (·.1)).take i).filter f).map V.int) (f y.1) (.int y.1) (((p, HO.frz od (.dK kvs)) :: C) :: L1) = fun acc' L'' => acc' = (((es.map (·.1)).take (i + 1)).filter f).map V.int ∧ i + 1 ≤ es.length ∧ L'' = ((p, HO.frz od (.dK kvs)) :: C) :: L1 := by
      funext a b
      unfold AccB
      rw [List.take_succ, hy1]
      have : i + 1 ≤ es.length := hlt
      cases hf : f y.1 <;> simp [this, hf]
    rw [e] at this
    exact this
  · rintro acc L' ⟨rfl, _, rfl⟩
    rw [hkl, List.take_of_length_le (by rw [List.length_map]; exact Nat.le_refl _)]
    exact hd Dl
/-- sorted(d) -/
theorem s_sortedDD (h : DicD c p es) (hm : c ∈ L) (hz : es.length < 64) (k : ∀ (ys : List Int) (q : Addr), ys.Perm (es.map (·.1)) → ys.Pairwise (· ≤ ·) → Q (.ref q) ([(q, .lst (ys.map V.int))] :: L)) : gSortedD [.ref p] L Q := by
  obtain ⟨kvs, C, rfl, hk, ht⟩ := h
  refine s_sortedD (kvs := kvs) (ks := es.map (·.1)) (fun H l => l.get _ hm _ List.mem_cons_self) ?_ (by rw [List.length_map]; exact hz) k
  rw [hk, List.map_map]
  rfl
end
end VM

end

section
namespace VM
open PySem PySem.Spec L2
open PyProof.Rows hiding St

/-! ### enumerate(list) -/
def wkE (K : PySem.W.Frag) (a : Addr) (xs : List V) : LWk := ⟨xs.length, fun L => IsL K L a xs, fun i L x L' => ∃ p v, p ∉ keys L ∧ x = .ref p ∧ L' = [(p, .tup [.int (i : Int), v])] :: L ∧ xs[i]? = some v⟩
theorem sim_e {K : PySem.W.Frag} {a : Addr} {xs : List V} : Sim (Ite K a) (wkE K a xs) := walk_enum.mono (fun H ⟨L, l, h1⟩ => h1 H l) fun i H x H' hi g y L l _ => by
  obtain ⟨p, u, v, e1, hp, e2, h1, h2⟩ := y
  subst e1; subst e2
  cases Option.some.inj h1
  exact ⟨_, l.new hp, p, v, l.fresh hp, rfl, rfl, h2⟩
def EnumK (K : PySem.W.Frag) (R : LWk → Lg → Prop) : List V → Lg → Prop := fun vs L1 => ∃ a xs, vs = [.ref a] ∧ IsL K L1 a xs ∧ R (wkE K a xs) L1
def kEnum (K : PySem.W.Frag) (ta : LTA) : LTI := fun σ L R => ta σ L (EnumK K R)
theorem li_enum {X : Cx} {e : Expr} {ta : LTA} {p pos tpos : Pos} {elts : List Expr} {kk : Nat} (hg : Gl X "enumerate") (hm : X.mg "enumerate" = none) (ha : LA X [e] ta)
    (hs : starEach [e] X.env = [(false, eval e X.env)] := by rfl) : LI X (.Tuple elts kk tpos) (.Call (.Name "enumerate" p) [e] [] pos) (kEnum X.K ta) := by
  refine PI.imp (pi_enum hg hm ha hs) fun σ H R h => ?_
  obtain ⟨L, RL, hL, h, k⟩ := h
  exact ⟨L, _, hL, h, fun vs L1 H1 ⟨a, xs, e, h1, h3⟩ l => ⟨a, xs, e, h1 H1 l, k _ _ _ _ h3 l sim_e⟩⟩
theorem ki_enum {X : Cx} (K : PySem.W.Frag) {e : Expr} {ta : LTA} {p pos tpos : Pos} {elts : List Expr} {kk : Nat} (hg : Gl X "enumerate") (hm : X.mg "enumerate" = none) (ha : LA X [e] ta)
    (hs : starEach [e] X.env = [(false, eval e X.env)] := by rfl) (h : X.K = K := by rfl) : LI X (.Tuple elts kk tpos) (.Call (.Name "enumerate" p) [e] [] pos) (kEnum K ta) := by subst h; exact li_enum hg hm ha hs
section
variable {K : PySem.W.Frag} {σ σw : St} {L : Lg} {R : LWk → Lg → Prop} {tr : LTA} {a : Addr} {xs : List V} {gg : LTG} {tt : LTT} {te : LTE} {vw : List Nat} {Dl : Addr} {Q : LVK} {tb : LTS} {n0 : St → Lg → Prop} {r0 : LVK} {b0 c0 : St → Lg → Prop}
instance j_enum : S1 (kEnum K tr σ L R) (tr σ L (EnumK K R)) := ⟨id⟩
theorem s_enumv (h1 : IsL K L a xs) (k : R (wkE K a xs) L) : EnumK K R [.ref a] L := ⟨a, xs, rfl, h1, k⟩
theorem c_enum (Pv : Nat → List V → Lg → Prop) {σw : St} (hw : wipe σ vw = σw) (h0 : Wk (Pv 0 []) L) (hG : ∀ i acc L, Pv i acc L → IsL K ([(Dl, .lst acc)] :: L) a xs) (hs : ∀ (i : Nat) acc v p L, xs[i]? = some v → Pv i acc L → gg (.ref p) σw ([(p, .tup [.int (i : Int), v])] :: [(Dl, .lst acc)] :: L) (LcT tt te Dl acc (Pv (i + 1)) σw vw)) (hd : ∀ acc L, Pv xs.length acc L → Wk (Q (.ref Dl)) ([(Dl, .lst acc)] :: L)) : LcR (wkE K a xs) gg tt te vw σ Dl L Q := by
  refine ⟨Pv, h0, fun i acc L _ h => hG i acc L h, fun i acc x L L' hi p _ y => ?_, fun acc L p _ => hd acc L p⟩
  obtain ⟨q, v, hq, rfl, rfl, hx⟩ := y
  subst hw
  exact hs i acc v q _ hx p
theorem a_intsE (g : Nat → Int) {ns : List Int} (hx : IsL K L a xs) (hv : IntsV xs ns) (hw : wipe σ vw = σw) (hz : ns.length ≤ 1000000)
    (hs : ∀ (i : Nat) (x : Int) (acc : List V) (Dl p : Addr), ns[i]? = some x → acc.length < 1000000 → gg (.ref p) σw ([(p, .tup [.int (i : Int), .int x])] :: [(Dl, .lst acc)] :: L) (LcT tt te Dl acc (AccI acc (.int (g i)) L) σw vw))
    (hd : ∀ Dl, Wk (Q (.ref Dl)) ([(Dl, .lst (((List.range ns.length).map g).map V.int))] :: L)) : ∀ Dl, Dl ∉ keys L → LcR (wkE K a xs) gg tt te vw σ Dl L Q := fun Dl _ => by
  have hv := hv.eq
  subst hv
  refine c_enum (fun i acc L' => acc = ((List.range i).map g).map V.int ∧ i ≤ ns.length ∧ L' = L) hw (Wk.go ⟨rfl, Nat.zero_le _, rfl⟩) (fun i acc L' h => ?_) ?_ ?_
  · rw [h.2.2]; exact IsL.tl hx
  · rintro i acc v p L' hi ⟨rfl, hl, rfl⟩
    rw [List.getElem?_map] at hi
    obtain ⟨y, hy, rfl⟩ := Option.map_eq_some_iff.mp hi
    have hlt : i < ns.length := (List.getElem?_eq_some_iff.mp hy).1
    have := hs i y (((List.range i).map g).map V.int) Dl p hy (by simp; omega)
    have e : AccI (((List.range i).map g).map V.int) (.int (g i)) L' = fun acc' L'' => acc' = ((List.range (i + 1)).map g).map V.int ∧ i + 1 ≤ ns.length ∧ L'' = L' := by
      funext a b
      unfold AccI
      rw [map_snoc]
      have : i + 1 ≤ ns.length := hlt
      simp [this]
    rw [e] at this
    exact this
  · rintro acc L' ⟨rfl, _, rfl⟩
    rw [List.length_map]
    exact hd Dl
end
/-! ### comprehensions of which only a law of each item is told -/
section
variable {K : PySem.W.Frag} {σ σw : St} {L L4 : Lg} {a p Dl : Addr} {xs ys : List V} {gg : LTG} {tt : LTT} {te : LTE} {vw : List Nat} {Q : LVK} {as : List Addr} {rows : List (List Int)} {ns ms r : List Int} {n i : Nat} {lo x : Int}
def RowsX (P : List Int → Prop) (i : Nat) (L : Lg) : List V → Lg → Prop := fun acc L' => ∃ (as : List Addr) (rows : List (List Int)), acc = as.map V.ref ∧ as.length = i ∧ rows.length = i ∧ (∀ r ∈ rows, P r) ∧ L' = cellsL as rows :: L
theorem s_lcyX {P : List Int → Prop} (h : At L4 a (.lst ys)) (v : IntsV ys r) (hp : P r) (hl : as.length = i) (hl2 : rows.length = i) (hr : ∀ r ∈ rows, P r) (hz : i < 1000000)
    (l : LicS L4 ([(a, .lst ys)] :: [(Dl, .lst (as.map V.ref))] :: cellsL as rows :: L)) : LcY Dl (as.map V.ref) (RowsX P (i + 1) L) (.ref a) L4 := by
  have e' := v.eq
  subst e'
  refine s_lcy (by simp; omega) (Lic.trans l.lic (lic_turn (by omega))) ⟨as ++ [a], rows ++ [r], by simp, by simp [hl], by simp [hl2], fun r' h' => ?_, rfl⟩
  rcases List.mem_append.mp h' with h' | h'
  · exact hr r' h'
  · rw [List.mem_singleton.mp h']; exact hp
theorem a_rowsX (P : List Int → Prop) (hw : wipe σ vw = σw)
    (hs : ∀ (i : Nat) (as : List Addr) (rows : List (List Int)) (Dl : Addr), i < n → as.length = i → rows.length = i → (∀ r ∈ rows, P r) → gg (.int (i : Int)) σw ([(Dl, .lst (as.map V.ref))] :: cellsL as rows :: L) (LcT tt te Dl (as.map V.ref) (RowsX P (i + 1) L) σw vw))
    (hd : ∀ (Dl : Addr) (as : List Addr) (rows : List (List Int)), as.length = n → rows.length = n → (∀ r ∈ rows, P r) → Wk (Q (.ref Dl)) (volC Dl as rows :: L)) : ∀ Dl, Dl ∉ keys L → LcR (wkR 0 n) gg tt te vw σ Dl L Q := fun Dl _ => by
  refine c_range0 (fun i acc L' => RowsX P i L acc L') hw (Wk.by_ lic_cells_nil ⟨[], [], rfl, rfl, rfl, by simp, rfl⟩) ?_ ?_
  · rintro i acc L' hi ⟨as, rows, rfl, ha, hb, hc, rfl⟩
    exact hs i as rows Dl hi ha hb hc
  · rintro acc L' ⟨as, rows, rfl, ha, hb, hc, rfl⟩
    obtain ⟨L5, l, q⟩ := hd Dl as rows ha hb hc
    exact ⟨L5, Lic.trans lic_vol l, q⟩
def IntsX (P : Int → Prop) (i : Nat) (L : Lg) : List V → Lg → Prop := fun acc L' => ∃ ms : List Int, acc = ms.map V.int ∧ ms.length = i ∧ (∀ m ∈ ms, P m) ∧ L' = L
theorem s_lcyIX {P : Int → Prop} (hc : P x) (h : ms.length = i) (hm : ∀ m ∈ ms, P m) (hz : i < 1000000) (l : Lic L4 ([(Dl, .lst (ms.map V.int))] :: L)) : LcY Dl (ms.map V.int) (IntsX P (i + 1) L) (.int x) L4 := s_lcy (by rw [List.length_map]; omega) l ⟨ms ++ [x], by simp, by simp [h], fun m h' => by
  rcases List.mem_append.mp h' with h' | h'
  · exact hm m h'
  · rw [List.mem_singleton.mp h']; exact hc, rfl⟩
theorem a_intX (P : Int → Prop) (hx : IsL K L p xs) (hv : IntsV xs ns) (hw : wipe σ vw = σw)
    (hs : ∀ (i : Nat) (x : Int) (ms : List Int) (Dl : Addr), ns[i]? = some x → ms.length = i → (∀ m ∈ ms, P m) → gg (.int x) σw ([(Dl, .lst (ms.map V.int))] :: L) (LcT tt te Dl (ms.map V.int) (IntsX P (i + 1) L) σw vw))
    (hd : ∀ (Dl : Addr) (ms : List Int), ms.length = ns.length → (∀ m ∈ ms, P m) → Wk (Q (.ref Dl)) ([(Dl, .lst (ms.map V.int))] :: L)) : ∀ Dl, Dl ∉ keys L → LcR (wkL K p xs) gg tt te vw σ Dl L Q := fun Dl _ => by
  have hv := hv.eq
  subst hv
  refine c_list (fun i acc L' => IntsX P i L acc L') hw (Wk.go ⟨[], rfl, rfl, by simp, rfl⟩) (fun i acc L' h => ?_) ?_ ?_
  · obtain ⟨_, _, _, _, rfl⟩ := h; exact IsL.tl hx
  · rintro i acc x L' hi ⟨ms, rfl, h1, h2, rfl⟩
    rw [List.getElem?_map] at hi
    obtain ⟨y, hy, rfl⟩ := Option.map_eq_some_iff.mp hi
    exact hs i y ms Dl hy h1 h2
  · rintro acc L' ⟨ms, rfl, h1, h2, rfl⟩
    rw [List.length_map] at h1
    exact hd Dl ms h1 h2
theorem a_intXR (P : Int → Prop) (hw : wipe σ vw = σw)
    (hs : ∀ (i : Nat) (ms : List Int) (Dl : Addr), i < n → ms.length = i → (∀ m ∈ ms, P m) → gg (.int (lo + (i : Int))) σw ([(Dl, .lst (ms.map V.int))] :: L) (LcT tt te Dl (ms.map V.int) (IntsX P (i + 1) L) σw vw))
    (hd : ∀ (Dl : Addr) (ms : List Int), ms.length = n → (∀ m ∈ ms, P m) → Wk (Q (.ref Dl)) ([(Dl, .lst (ms.map V.int))] :: L)) : ∀ Dl, Dl ∉ keys L → LcR (wkR lo n) gg tt te vw σ Dl L Q := fun Dl _ => by
  refine c_range (fun i acc L' => IntsX P i L acc L') hw (Wk.go ⟨[], rfl, rfl, by simp, rfl⟩) ?_ ?_
  · rintro i acc L' hi ⟨ms, rfl, h1, h2, rfl⟩
    exact hs i ms Dl hi h1 h2
  · rintro acc L' ⟨ms, rfl, h1, h2, rfl⟩
    exact hd Dl ms h1 h2
end
end VM

end

section
namespace VM
open PySem PySem.Spec L2
open PyProof.Rows hiding St

/-! ### list(range(a, b)) -/
section
variable {X : Cx}
def gRange2 : LRC := fun xs L Q => ∃ i j, xs = [.int i, .int j] ∧ ∀ p, p ∉ keys L → Q (.ref p) ([(p, .rng i j)] :: L)
theorem lk_range2 : CallL X (.type "range") gRange2 := CallR.imp cr_range2 fun xs H Q ⟨L, QL, hL, ⟨i, j, e, h2⟩, k⟩ => ⟨i, j, e, fun l hl => k _ _ _ (h2 l (hL.fresh hl)) (hL.new hl)⟩
theorem cr_listR (hc : X.calm = true) : CallR X (.type "list") (fun vs H Q => ∃ (a : Addr) (lo : Int) (n : Nat), vs = [.ref a] ∧ H a = some (.rng lo (lo + n)) ∧ (-1000 ≤ lo ∧ lo ≤ 1000 ∧ n ≤ 1000) ∧ ∀ p, H p = none → Q (.ref p) (upd H p (.lst ((rngL lo n).map V.int)))) := by
  intro pins s σ H vs us Q I r h
  obtain ⟨a, lo, n, rfl, ha, hb, q⟩ := h
  obtain rfl := Vals.ref1 r
  obtain ⟨t1, t2, t3, ho⟩ := I.hok a _ ha
  have hsz : Builtin.Range.rangeSize lo (lo + n) 1 = (n : Int) := by
    unfold Builtin.Range.rangeSize
    simp only [show (1 : Int) > 0 by decide, if_true, Int.ediv_one]
    split <;> omega
  refine call_list_range (n := n) (I.ok.hd hc) ho ?_ hsz (by omega) fun h' tk acc' c' kp e it => ?_
  · have hs2 : Builtin.Range.rangeSize lo (lo + n) 1 = (n : Int) := hsz
    unfold Builtin.Range.small
    simp only [hs2]
    unfold Builtin.Range.rangeFitsLong
    simp
    omega
  · refine ⟨.ref s.heap.objs.size, upd H s.heap.objs.size (.lst ((rngL lo n).map V.int)), I.laid (t' := tk) kp (Nat.le_refl _) (show ObjOk X.prog X.w _ h' _ (.lst ((rngL lo n).map V.int)) from ⟨?_, acc'.toList, c', ?_, ?_⟩), rfl, q _ (I.hok.fresh (Nat.le_refl _))⟩
    · rw [List.length_map, rngL, List.length_map, List.length_range]
      unfold sizeLine
      omega
    · refine vals_of_at ?_ fun j x u hx hu => ?_
      · rw [List.length_map, rngL, List.length_map, List.length_range, Array.length_toList, it.1]
      · rw [Array.getElem?_toList] at hu
        obtain ⟨t, rfl⟩ := it.2 j u hu
        rw [List.getElem?_map, rngL, List.getElem?_map] at hx
        by_cases hj : j < n
        · rw [List.getElem?_range hj] at hx
          cases hx
          exact ⟨t, by rw [Int.mul_one]⟩
        · rw [List.getElem?_eq_none (by rw [List.length_range]; omega)] at hx
          cases hx
    · rw [Array.toArray_toList]
      exact e
def gListR : LRC := fun xs L Q => ∃ (a : Addr) (lo : Int) (n : Nat), xs = [.ref a] ∧ At L a (.rng lo (lo + n)) ∧ (-1000 ≤ lo ∧ lo ≤ 1000 ∧ n ≤ 1000) ∧ ∀ p, p ∉ keys L → Q (.ref p) ([(p, .lst ((rngL lo n).map V.int))] :: L)
theorem lk_listR (hc : X.calm = true := by rfl) : CallL X (.type "list") gListR := CallR.imp (cr_listR hc) fun xs H Q ⟨L, QL, hL, ⟨a, lo, n, e, h1, h2, h3⟩, k⟩ => ⟨a, lo, n, e, h1 H hL, h2, fun l hl => k _ _ _ (h3 l (hL.fresh hl)) (hL.new hl)⟩
variable {L : Lg} {Q : LVK} {a : Addr} {lo hi i j : Int}
theorem s_range2 (k : ∀ p, Q (.ref p) ([(p, .rng i j)] :: L)) : gRange2 [.int i, .int j] L Q := ⟨i, j, rfl, fun p _ => k p⟩
theorem s_listR (h : At L a (.rng lo hi)) (hb : -1000 ≤ lo ∧ lo ≤ hi ∧ hi ≤ 1000 ∧ hi - lo ≤ 1000) (k : ∀ p, Q (.ref p) ([(p, .lst ((rngL lo (hi - lo).toNat).map V.int))] :: L)) : gListR [.ref a] L Q := ⟨a, lo, (hi - lo).toNat, rfl, by
  have e : lo + ((hi - lo).toNat : Int) = hi := by omega
  rw [e]; exact h, by omega, fun p _ => k p⟩
end
/-! ### loops over enumerate -/
section
variable {K : PySem.W.Frag} {σ : St} {L : Lg} {a : Addr} {xs : List V} {gg : LTG} {tb : LTS} {n0 : St → Lg → Prop} {r0 : LVK} {b0 c0 : St → Lg → Prop}
theorem f_enum (Pv : Nat → St → Lg → Prop) (h0 : Wk (Pv 0 σ) L) (hG : ∀ i σ L, Pv i σ L → IsL K L a xs) (hs : ∀ (i : Nat) v p σ L, xs[i]? = some v → Pv i σ L → gg (.ref p) σ ([(p, .tup [.int (i : Int), v])] :: L) fun σ2 L2 => tb ⟨Pv (i + 1), r0, n0, Pv (i + 1)⟩ σ2 L2) (hd : ∀ σ L, Pv xs.length σ L → n0 σ L) : ForR (wkE K a xs) gg tb ⟨n0, r0, b0, c0⟩ σ L :=
  ⟨Pv, h0, fun i σ L _ h => hG i σ L h, fun i x σ L L' hi p y => by
    obtain ⟨q, v, hq, rfl, rfl, hx⟩ := y
    exact hs i v q σ _ hx p, hd⟩
end
/-! ### a filter over enumerate, of which only a law of each item is told -/
section
variable {K : PySem.W.Frag} {σ σw : St} {L L4 : Lg} {a Dl : Addr} {xs : List V} {gg : LTG} {tt : LTT} {te : LTE} {vw : List Nat} {Q : LVK} {ns fs : List Int} {i : Nat} {x : Int} {P : Int → Prop}
def FltX (P : Int → Prop) (i : Nat) (L : Lg) : List V → Lg → Prop := fun acc L' => ∃ fs : List Int, acc = fs.map V.int ∧ fs.length ≤ i ∧ (∀ y ∈ fs, P y) ∧ L' = L
theorem s_lcyFE (hx : P x) (h1 : fs.length ≤ i) (h2 : ∀ y ∈ fs, P y) (hz : i < 1000000) (l : Lic L4 ([(Dl, .lst (fs.map V.int))] :: L)) : LcY Dl (fs.map V.int) (FltX P (i + 1) L) (.int x) L4 := s_lcy (by rw [List.length_map]; omega) l ⟨fs ++ [x], by simp, by rw [List.length_append]; simp; omega, fun m h' => by
  rcases List.mem_append.mp h' with h' | h'
  · exact h2 m h'
  · rw [List.mem_singleton.mp h']; exact hx, rfl⟩
theorem s_lcnFE (h1 : fs.length ≤ i) (h2 : ∀ y ∈ fs, P y) (l : Lic L4 ([(Dl, .lst (fs.map V.int))] :: L)) : LcN Dl (fs.map V.int) (FltX P (i + 1) L) L4 := s_lcn l ⟨fs, rfl, by omega, h2, rfl⟩
theorem a_filtE (P : Int → Prop) (hx : IsL K L a xs) (hv : IntsV xs ns) (hw : wipe σ vw = σw) (hp : ∀ y ∈ ns, P y)
    (hs : ∀ (i : Nat) (x : Int) (fs : List Int) (Dl p : Addr), ns[i]? = some x → P x → fs.length ≤ i → (∀ y ∈ fs, P y) → gg (.ref p) σw ([(p, .tup [.int (i : Int), .int x])] :: [(Dl, .lst (fs.map V.int))] :: L) (LcT tt te Dl (fs.map V.int) (FltX P (i + 1) L) σw vw))
    (hd : ∀ (Dl : Addr) (fs : List Int), fs.length ≤ ns.length → (∀ y ∈ fs, P y) → Wk (Q (.ref Dl)) ([(Dl, .lst (fs.map V.int))] :: L)) : ∀ Dl, Dl ∉ keys L → LcR (wkE K a xs) gg tt te vw σ Dl L Q := fun Dl _ => by
  have hv := hv.eq
  subst hv
  refine c_enum (fun i acc L' => FltX P i L acc L') hw (Wk.go ⟨[], rfl, Nat.zero_le _, by simp, rfl⟩) (fun i acc L' h => ?_) ?_ ?_
  · obtain ⟨_, _, _, _, rfl⟩ := h; exact IsL.tl hx
  · rintro i acc v p L' hi ⟨fs, rfl, h1, h2, rfl⟩
    rw [List.getElem?_map] at hi
    obtain ⟨y, hy, rfl⟩ := Option.map_eq_some_iff.mp hi
    exact hs i y fs Dl p hy (hp y (List.mem_of_getElem? hy)) h1 h2
  · rintro acc L' ⟨fs, rfl, h1, h2, rfl⟩
    rw [List.length_map] at h1
    exact hd Dl fs h1 h2
end
/-! ### d.setdefault(k, x) -/
section
variable {X : Cx} {o e f : Expr} {apos cpos pos : Pos} {ta tb tc : LTE} {σ : St} {L : Lg} {Q : LVK}
def SdZ (a : Addr) (k : Int) (Q : LVK) : LVK := fun z L3 => ∃ kvs L', kvs.length < sizeLine ∧ At L3 a (.dK kvs) ∧ (∀ v, valV kvs (.inl k) = some v → Q v L3) ∧ (valV kvs (.inl k) = none → Wr a (.dK kvs) (.dK (putK kvs (.inl k) z)) L3 L' ∧ Q z L')
def SdY (a : Addr) (tc : LTE) (σ : St) (Q : LVK) : LVK := fun y L2 => ∃ k, y = .int k ∧ tc σ L2 (SdZ a k Q)
def SdK (tb tc : LTE) (σ : St) (Q : LVK) : LVK := fun x L1 => ∃ a kvs, x = .ref a ∧ At L1 a (.dK kvs) ∧ tb σ L1 (SdY a tc σ Q)
def lDSetd (ta tb tc : LTE) : LTE := fun σ L Q => ta σ L (SdK tb tc σ Q)
theorem ldsetd (ho : LE X o ta) (he : LE X e tb) (hf : LE X f tc) (m : M2 X o "setdefault" apos e f cpos := by exact ⟨rfl, rfl, rfl, rfl⟩) : LE X (.Call (.Attribute o "setdefault" apos) [e, f] [] cpos) (lDSetd ta tb tc) := by
  refine PE.imp (pe_dsetd ho he hf m) fun σ H Q h => ?_
  obtain ⟨L, QL, hL, h, k⟩ := h
  refine ⟨L, _, hL, h, fun x L1 H1 ⟨a, kvs, e1, h1, h2⟩ hL1 => ⟨a, e1, .inl ⟨kvs, .inl (h1 H1 hL1)⟩, L1, _, hL1, h2, fun y L2 H2 ⟨i, e2, h3⟩ hL2 => ⟨L2, _, hL2, h3, fun z L3 H3 ⟨kv3, L', hz, h4, q1, q2⟩ hL3 => ⟨kv3, .inl i, h4 H3 hL3, e2, hz, fun v hv => k _ _ _ (q1 v hv) hL3, fun hn => ?_⟩⟩⟩⟩
  obtain ⟨w, q⟩ := q2 hn
  exact k _ _ _ q (w.led hL3)
variable {a : Addr} {kvs : List (Key × V)} {i : Int} {z : V} {L' : Lg}
instance j_dsetd : S1 (lDSetd ta tb tc σ L Q) (ta σ L (SdK tb tc σ Q)) := ⟨id⟩
theorem s_sdk (h : At L a (.dK kvs)) (k : tb σ L (SdY a tc σ Q)) : SdK tb tc σ Q (.ref a) L := ⟨a, kvs, rfl, h, k⟩
instance j_sdy : S1 (SdY a tc σ Q (.int i) L) (tc σ L (SdZ a i Q)) := ⟨fun h => ⟨i, rfl, h⟩⟩
theorem s_sdz (hz : kvs.length < 1000000) (h : At L a (.dK kvs)) (w : Wr a (.dK kvs) (.dK (putK kvs (.inl i) z)) L L') (k1 : ∀ v, valV kvs (.inl i) = some v → Q v L) (k2 : valV kvs (.inl i) = none → Q z L') : SdZ a i Q z L := ⟨kvs, L', Nat.lt_of_lt_of_le hz (by decide), h, k1, fun e => ⟨w, k2 e⟩⟩
end
end VM

end

section
namespace VM
open PySem PySem.Spec L2
open PyProof.Rows hiding St

/-! ### xs.index(x, k), xs a list of ints -/
def rIndex2 (K : PySem.W.Frag) : V → List V → Hp → VK → Prop := fun x xs H Q => ∃ (a : Addr) (ns : List Int) (y : Int) (lo j : Nat), x = V.ref a ∧ xs = [.int y, .int (lo : Int)] ∧ SqL K H a (ns.map V.int) ∧ ns[j]? = some y ∧ lo ≤ j ∧ (∀ m, lo ≤ m → m < j → ns[m]? ≠ some y) ∧ Q (.int (j : Nat)) H
theorem mt_index2 {X : Cx} : MtR X "list.index" (rIndex2 X.K) := by
  intro pins s σ H x xs v us Q I rx rxs h
  obtain ⟨a, ns, y, lo, j, rfl, rfl, hs, hz, hlo, hno, q⟩ := h
  cases rx
  obtain ⟨u1, u2, rfl, ry, rl⟩ := vals2 rxs
  obtain ⟨t1, rfl⟩ := ry
  obtain ⟨t2, rfl⟩ := rl
  obtain ⟨its, rv, ⟨⟨cls, dd, data, sl⟩, n, ho, hc, hdn, hd⟩, hlen⟩ := I.list hs
  simp only at hc hd
  subst hc hd
  have hi := rv.ints
  have he := SeqAt.ItemsEq.ints (A := X.A.in1) (s := s) (k := y) (t := t1) hi
  have hil : its.length = ns.length := hi.length
  have hjl := (List.getElem?_eq_some_iff.mp hz).1
  have hsl := sizeLine_eq
  rw [List.length_map] at hlen
  refine call_meets PySem.F.slot_list_index ⟨_, ho, rfl⟩ PySem.F.entry_list_index (PySem.F.args_list_index_3 _ _ _)
    (SeqAt.list_index3_found a its.toArray n dd sl (.int y t1) (fun m => decide (ns[m]? = some y)) (lo : Int) t2 j (by simpa [hil] using hjl) (by rw [SeqAt.searchFrom_nat]; exact hlo) (by omega) (decide_eq_true hz) ?_) ⟨ho, fun m hm => ?_, ?_⟩
  · intro m hm h1 h2
    rw [SeqAt.searchFrom_nat] at h1
    exact decide_eq_false (hno m h1 h2)
  · have h1 : m < its.length := by simpa using hm
    have h2 : m < ns.length := by omega
    have h := he.2 m h1 h2
    simpa [List.getElem?_eq_getElem h2] using h
  · exact ⟨.int (j : Nat), H, I.tok _, ⟨_, rfl⟩, q⟩
def gIndex2 (K : PySem.W.Frag) : V → LRC := fun x vs L Q => ∃ (a : Addr) (ns : List Int) (y : Int) (lo j : Nat), x = .ref a ∧ vs = [.int y, .int (lo : Int)] ∧ IsL K L a (ns.map V.int) ∧ ns[j]? = some y ∧ lo ≤ j ∧ (∀ m, lo ≤ m → m < j → ns[m]? ≠ some y) ∧ Q (.int (j : Nat)) L
theorem lm_index2 {X : Cx} : MtL X "list.index" (gIndex2 X.K) := MtR.imp mt_index2 fun x xs H Q ⟨L, QL, hL, ⟨a, ns, y, lo, j, e1, e2, h1, h2, h3, h4, h5⟩, k⟩ => ⟨a, ns, y, lo, j, e1, e2, h1 H hL, h2, h3, h4, k _ _ _ h5 hL⟩
theorem km_index2 {X : Cx} (K : PySem.W.Frag) (h : X.K = K := by rfl) : MtL X "list.index" (gIndex2 K) := by subst h; exact lm_index2
theorem s_index2 {K : PySem.W.Frag} {L : Lg} {Q : LVK} {a : Addr} {ns : List Int} {y : Int} {lo j : Nat} (h1 : IsL K L a (ns.map V.int)) (h2 : ns[j]? = some y) (h3 : lo ≤ j) (h4 : ∀ m, lo ≤ m → m < j → ns[m]? ≠ some y) (k : Q (.int (j : Nat)) L) : gIndex2 K (.ref a) [.int y, .int (lo : Int)] L Q := ⟨a, ns, y, lo, j, rfl, rfl, h1, h2, h3, h4, k⟩
end VM

end

section
namespace VM
open PySem PySem.Spec L2
open PyProof.Rows hiding St

/-! ### xs.reverse() -/
section
variable {X : Cx}
theorem vals_rev : ∀ {xs : List V} {us : List Value}, Vals xs us → Vals xs.reverse us.reverse
  | _, _, .nil => .nil
  | _, _, .cons h t => by
    rw [List.reverse_cons, List.reverse_cons]
    exact (vals_rev t).append (.cons h .nil)
def rRev : V → List V → Hp → VK → Prop := fun x vs H Q => ∃ l xs, x = .ref l ∧ vs = [] ∧ H l = some (.lst xs) ∧ Q .non (upd H l (.lst xs.reverse))
theorem mt_rev : MtM X "list.reverse" rRev := by
  intro pins s σ H x vs v us Q I rx rv h
  obtain ⟨l, xs, rfl, rfl, hH, q⟩ := h
  cases rx
  have hus := rv.zero
  subst hus
  obtain ⟨z, its, n, r, hl, e⟩ := I.lstM hH
  refine call_meets PySem.F.slot_list_reverse ⟨_, e, rfl⟩ PySem.F.entry_list_reverse (PySem.F.args_list_reverse_1 _) (AutoSeq1.list_reverse_list_0 l its.toArray n (by rw [List.size_toArray]; omega)) ⟨e, ?_⟩
  exact ⟨.non, _, I.lset (its' := its.reverse) (ys := xs.reverse) hH e (by simp) (vals_rev r) (by rw [List.length_reverse]; omega), rfl, q⟩
def gRev : V → LRC := fun x vs L Q => ∃ l xs L', x = .ref l ∧ vs = [] ∧ Wr l (.lst xs) (.lst xs.reverse) L L' ∧ Q .non L'
theorem lm_rev : MtL X "list.reverse" gRev := MtR.imp (mt_rev : MtM X "list.reverse" rRev) fun x xs H Q ⟨L, QL, hL, ⟨l, ys, L', e1, e2, h2, h3⟩, k⟩ => ⟨l, ys, e1, e2, h2.at_ H hL, k _ _ _ h3 (h2.led hL)⟩
/-! ### d.clear() -/
def rDClear : V → List V → Hp → VK → Prop := fun x vs H Q => ∃ a kvs, x = .ref a ∧ vs = [] ∧ H a = some (.dK kvs) ∧ Q .non (upd H a (.dK []))
theorem mt_dclear : MtM X "dict.clear" rDClear := by
  intro pins s σ H x vs v us Q I rx rv h
  obtain ⟨a, kvs, rfl, rfl, hH, q⟩ := h
  cases rx
  have hus := rv.zero
  subst hus
  exact d_clear I hH fun s' I' => ⟨.non, _, I', rfl, q⟩
def gDClear : V → LRC := fun x vs L Q => ∃ a kvs L', x = .ref a ∧ vs = [] ∧ Wr a (.dK kvs) (.dK []) L L' ∧ Q .non L'
theorem lm_dclear : MtL X "dict.clear" gDClear := MtR.imp (mt_dclear : MtM X "dict.clear" rDClear) fun x xs H Q ⟨L, QL, hL, ⟨a, kvs, L', e1, e2, h2, h3⟩, k⟩ => ⟨a, kvs, e1, e2, h2.at_ H hL, k _ _ _ h3 (h2.led hL)⟩
/-! ### dicts compared that are equal -/
def SameD (ks ls : List (Key × V)) : Prop := ks.length = ls.length ∧ ∀ p ∈ ks, valV ls p.1 = some p.2 ∧ flatB p.2 = true
def gEqDA : LR2 := fun x y L Q => ∃ a b ks ls, x = .ref a ∧ y = .ref b ∧ At L a (.dK ks) ∧ At L b (.dK ls) ∧ SameD ks ls ∧ Q (.bl true) L
def gNeDA : LR2 := fun x y L Q => ∃ a b ks ls, x = .ref a ∧ y = .ref b ∧ At L a (.dK ks) ∧ At L b (.dK ls) ∧ SameD ks ls ∧ Q (.bl false) L
theorem lo_eqD (hu : X.A.units + 64 < cLine) : OpL X (compareOp .Eq) gEqDA := OpR.imp (op_eq_dictA (Nat.lt_of_le_of_lt (Nat.le_add_right _ _) hu)) fun x y H Q ⟨L, QL, hL, ⟨a, b, ks, ls, e1, e2, h1, h2, h3, h4⟩, k⟩ => ⟨a, b, ks, ls, e1, e2, h1 H hL, h2 H hL, h3.1, h3.2, k _ _ _ h4 hL⟩
theorem lo_neD (hu : X.A.units + 64 < cLine) : OpL X (compareOp .NotEq) gNeDA := OpR.imp (op_ne_dictA (Nat.lt_of_le_of_lt (Nat.le_add_right _ _) hu)) fun x y H Q ⟨L, QL, hL, ⟨a, b, ks, ls, e1, e2, h1, h2, h3, h4⟩, k⟩ => ⟨a, b, ks, ls, e1, e2, h1 H hL, h2 H hL, h3.1, h3.2, k _ _ _ h4 hL⟩
end
section
variable {L L1 : Lg} {Q : LVK} {p q : Addr} {xs : List V} {ns : List Int} {ks ls : List (Key × V)}
theorem s_rev (hw : Wr p (.lst xs) (.lst xs.reverse) L L1) (k : Q .non L1) : gRev (.ref p) [] L Q := ⟨p, xs, L1, rfl, rfl, hw, k⟩
theorem s_rev_i (v : IntsV xs ns) (hw : Wr p (.lst xs) (.lst (ns.reverse.map V.int)) L L1) (k : Q .non L1) : gRev (.ref p) [] L Q := by
  have e := v.eq
  subst e
  exact s_rev (xs := ns.map V.int) (by rw [← List.map_reverse]; exact hw) k
theorem s_dclear (hw : Wr p (.dK ks) (.dK []) L L1) (k : Q .non L1) : gDClear (.ref p) [] L Q := ⟨p, ks, L1, rfl, rfl, hw, k⟩
theorem s_eqD (h1 : At L p (.dK ks)) (h2 : At L q (.dK ls)) (h : SameD ks ls) (k : Q (.bl true) L) : gEqDA (.ref p) (.ref q) L Q := ⟨p, q, ks, ls, rfl, rfl, h1, h2, h, k⟩
theorem s_neD (h1 : At L p (.dK ks)) (h2 : At L q (.dK ls)) (h : SameD ks ls) (k : Q (.bl false) L) : gNeDA (.ref p) (.ref q) L Q := ⟨p, q, ks, ls, rfl, rfl, h1, h2, h, k⟩
/-! ### dicts of ints, entry by entry -/
/-- every entry is found at its key -/
def KvOk (ks : List (Key × V)) : Prop := ∀ p ∈ ks, valV ks p.1 = some p.2 ∧ ∃ n : Int, p.2 = .int n
theorem KvOk.nil : KvOk [] := fun p h => by cases h
theorem KvOk.same (h : KvOk ks) : SameD ks ks := ⟨rfl, fun p hp => ⟨(h p hp).1, by obtain ⟨n, e⟩ := (h p hp).2; rw [e]; rfl⟩⟩
theorem mem_putK {k : Key} {v : V} {p : Key × V} (h : p ∈ putK ks k v) : p = (k, v) ∨ p ∈ ks ∧ p.1 ≠ k := by
  unfold L2.putK at h
  split at h
  · obtain ⟨kv, hk, e⟩ := List.mem_map.mp h
    by_cases z : kv.1 = k
    · rw [if_pos z] at e
      exact .inl (by rw [← e, z])
    · rw [if_neg z] at e
      subst e
      exact .inr ⟨hk, z⟩
  · rename_i ha
    rcases List.mem_append.mp h with h | h
    · refine .inr ⟨h, fun z => ha ?_⟩
      exact List.any_eq_true.mpr ⟨p, h, by simpa using z⟩
    · exact .inl (List.mem_singleton.mp h)
theorem KvOk.put {k : Key} {n : Int} (h : KvOk ks) : KvOk (putK ks k (.int n)) := fun p hp => by
  rw [L2.valV_put]
  rcases mem_putK hp with e | ⟨hm, hn⟩
  · subst e
    exact ⟨if_pos rfl, n, rfl⟩
  · rw [if_neg hn]
    exact h p hm
/-- the dict that pairs make, one by one -/
def kvF (us : List (Int × Int)) : List (Key × V) := us.foldl (fun ks u => putK ks (.inl u.1) (.int u.2)) []
theorem kvF_snoc (us : List (Int × Int)) (u : Int × Int) : kvF (us ++ [u]) = putK (kvF us) (.inl u.1) (.int u.2) := by
  unfold kvF
  rw [List.foldl_append]
  rfl
theorem snoc_ind {α : Type} {P : List α → Prop} (h0 : P []) (h1 : ∀ us u, P us → P (us ++ [u])) : ∀ us, P us := fun us => by
  have : ∀ vs : List α, P vs.reverse := fun vs => by
    induction vs with
    | nil => exact h0
    | cons v vs ih => rw [List.reverse_cons]; exact h1 _ _ ih
  have h := this us.reverse
  rwa [List.reverse_reverse] at h
theorem kvF_ok : ∀ us, KvOk (kvF us) := snoc_ind KvOk.nil fun us u h => by rw [kvF_snoc]; exact h.put
theorem kvF_len : ∀ us, (kvF us).length ≤ us.length := snoc_ind (Nat.le_refl _) fun us u h => by
  rw [kvF_snoc, List.length_append]
  exact Nat.le_trans (L2.length_putK _ _ _) (by simpa using h)
theorem kvF_mem : ∀ us, ∀ p ∈ kvF us, ∃ u ∈ us, p = (.inl u.1, .int u.2) := snoc_ind (fun p h => by cases h) fun us u h p hp => by
  rw [kvF_snoc] at hp
  rcases mem_putK hp with e | ⟨hm, _⟩
  · exact ⟨u, by simp, e⟩
  · obtain ⟨w, hw, e⟩ := h p hm
    exact ⟨w, List.mem_append_left _ hw, e⟩
/-! ### a list of tuples made longer by another -/
theorem s_ext_ldT {P : Lg → Prop} {L2 : Lg} {c c' : Chunk} {ts us : List (List Int)} (h1 : LdT c p ts) (h2 : LdT c' q us) (p1 : Pull c L L1) (p2 : Pull c' L1 L2) (hz : ts.length + us.length ≤ 1000000) (k : ∀ d, LdT d p (ts ++ us) → Wk P (d :: L2)) : gExtend (.ref p) [.ref q] L (fun _ => Wk P) := by
  obtain ⟨C, xs, rfl, t1⟩ := h1
  obtain ⟨C', ys, rfl, t2⟩ := h2
  have l1 : xs.length = ts.length := by rw [t1.len, List.length_map]
  have l2 : ys.length = us.length := by rw [t2.len, List.length_map]
  obtain ⟨L4, w4, p4⟩ := Pull.wr (A := []) (B := C) (o := .lst xs) (o' := .lst (xs ++ ys)) p1
  refine s_extend (ys := ys) ?_ w4 (Nat.le_trans (by omega : xs.length + ys.length ≤ 1000000) (by decide)) ?_
  · obtain ⟨L3, g1, g2⟩ := p1.sw p2
    exact At.mem g1.mem List.mem_cons_self
  · obtain ⟨L5, l, z⟩ := k ((p, .lst (xs ++ ys)) :: (C ++ C')) ⟨C ++ C', xs ++ ys, rfl, by
      rw [List.map_append]
      have ap : ∀ {C : Chunk} {xs ys : List V} {ds es : List PyData}, TelAll C xs ds → TelAll C ys es → TelAll C (xs ++ ys) (ds ++ es) := by
        intro C xs ys ds es h k
        induction xs generalizing ds with
        | nil => cases h; exact k
        | cons x xs ih => cases h with | cons h1 h2 => exact .cons h1 (ih h2)
      exact ap (t1.mono fun x hx => List.mem_append_left _ hx) (t2.mono fun x hx => List.mem_append_right _ hx)⟩
    refine ⟨L5, Lic.trans (LicS.lic (LicS.trans (LicS.pull p4 (LicS.pull p2 LicS.refl)) ?_)) l, z⟩
    exact LicS.src (LicS.split (LicS.cons (LicS.splitA (LicS.cons (LicS.src (LicS.skip LicS.refl))))))
end
/-! ### loops over the keys of a dict of ints -/
section
variable {K : PySem.W.Frag} {σ σw : St} {L L1 : Lg} {a p : Addr} {od : Obj} {kvs : List (Key × V)} {ns : List Int} {gg : LTG} {tb : LTS} {n0 : St → Lg → Prop} {r0 : LVK} {b0 c0 : St → Lg → Prop} {R : LWk → Lg → Prop}
theorem f_keys (Pv : Nat → St → Lg → Prop) (hk : kvs.map (·.1) = ns.map (fun n => (.inl n : Key))) (h0 : Wk (Pv 0 σ) L) (hG : ∀ i σ L, Pv i σ L → At L a (.frz od (.dK kvs))) (hs : ∀ (i : Nat) (x : Int) σ L, ns[i]? = some x → Pv i σ L → gg (.int x) σ L fun σ2 L2 => tb ⟨Pv (i + 1), r0, n0, Pv (i + 1)⟩ σ2 L2) (hd : ∀ σ L, Pv ns.length σ L → n0 σ L) : ForR (wkK a od kvs) gg tb ⟨n0, r0, b0, c0⟩ σ L := by
  have hl : kvs.length = ns.length := by have := congrArg List.length hk; rwa [List.length_map, List.length_map] at this
  refine ⟨Pv, h0, fun i σ L _ h => hG i σ L h, fun i x σ L L' hi p y => ?_, fun σ L h => hd σ L (by rw [← hl]; exact h)⟩
  obtain ⟨rfl, k, v, hkv, rfl⟩ := y
  have hlt : i < ns.length := by have := (List.getElem?_eq_some_iff.mp hkv).1; omega
  have e1 : (kvs.map (·.1))[i]? = some k := by rw [List.getElem?_map, hkv]; rfl
  have e2 : (ns.map (fun n => (.inl n : Key)))[i]? = some (.inl ns[i]) := by rw [List.getElem?_map, List.getElem?_eq_getElem hlt]; rfl
  rw [hk, e2] at e1
  have e3 : k = .inl ns[i] := (Option.some.inj e1).symm
  subst e3
  exact hs i ns[i] σ _ (List.getElem?_eq_getElem hlt) p
theorem fk_1 {k0 : Nat} (P : Nat → Lg → Prop) (hk : kvs.map (·.1) = ns.map (fun n => (.inl n : Key))) (h0 : Wk (P 0) L) (hG : ∀ i L, P i L → At L a (.frz od (.dK kvs))) (hs : ∀ (i : Nat) (x : Int) a0 L, ns[i]? = some x → P i L → gg (.int x) ((wipe σ [k0]).set k0 a0) L (fun σ2 L2 => tb ⟨SlW σ [k0] P (i + 1), r0, n0, SlW σ [k0] P (i + 1)⟩ σ2 L2)) (hd : ∀ a0 L, P ns.length L → n0 ((wipe σ [k0]).set k0 a0) L) : ForR (wkK a od kvs) gg tb ⟨n0, r0, b0, c0⟩ σ L := by
  obtain ⟨L0, l0, q0⟩ := h0
  refine f_keys (SlW σ [k0] P) hk ⟨L0, l0, rfl, q0⟩ (fun i σ1 L h => hG i L h.2) ?_ ?_
  · rintro i x σ1 L hi ⟨hσ, hP⟩
    obtain ⟨a0, rfl⟩ := unw1 hσ
    exact hs i x a0 L hi hP
  · rintro σ1 L ⟨hσ, hP⟩
    obtain ⟨a0, rfl⟩ := unw1 hσ
    exact hd a0 L hP
theorem fk_2 {k0 k1 : Nat} (P : Nat → Lg → Prop) (hk : kvs.map (·.1) = ns.map (fun n => (.inl n : Key))) (h0 : Wk (P 0) L) (hG : ∀ i L, P i L → At L a (.frz od (.dK kvs))) (hs : ∀ (i : Nat) (x : Int) a0 a1 L, ns[i]? = some x → P i L → gg (.int x) (((wipe σ [k0, k1]).set k0 a0).set k1 a1) L (fun σ2 L2 => tb ⟨SlW σ [k0, k1] P (i + 1), r0, n0, SlW σ [k0, k1] P (i + 1)⟩ σ2 L2)) (hd : ∀ a0 a1 L, P ns.length L → n0 (((wipe σ [k0, k1]).set k0 a0).set k1 a1) L) : ForR (wkK a od kvs) gg tb ⟨n0, r0, b0, c0⟩ σ L := by
  obtain ⟨L0, l0, q0⟩ := h0
  refine f_keys (SlW σ [k0, k1] P) hk ⟨L0, l0, rfl, q0⟩ (fun i σ1 L h => hG i L h.2) ?_ ?_
  · rintro i x σ1 L hi ⟨hσ, hP⟩
    obtain ⟨a0, a1, rfl⟩ := unw2 hσ
    exact hs i x a0 a1 L hi hP
  · rintro σ1 L ⟨hσ, hP⟩
    obtain ⟨a0, a1, rfl⟩ := unw2 hσ
    exact hd a0 a1 L hP
theorem fk_3 {k0 k1 k2 : Nat} (P : Nat → Lg → Prop) (hk : kvs.map (·.1) = ns.map (fun n => (.inl n : Key))) (h0 : Wk (P 0) L) (hG : ∀ i L, P i L → At L a (.frz od (.dK kvs))) (hs : ∀ (i : Nat) (x : Int) a0 a1 a2 L, ns[i]? = some x → P i L → gg (.int x) ((((wipe σ [k0, k1, k2]).set k0 a0).set k1 a1).set k2 a2) L (fun σ2 L2 => tb ⟨SlW σ [k0, k1, k2] P (i + 1), r0, n0, SlW σ [k0, k1, k2] P (i + 1)⟩ σ2 L2)) (hd : ∀ a0 a1 a2 L, P ns.length L → n0 ((((wipe σ [k0, k1, k2]).set k0 a0).set k1 a1).set k2 a2) L) : ForR (wkK a od kvs) gg tb ⟨n0, r0, b0, c0⟩ σ L := by
  obtain ⟨L0, l0, q0⟩ := h0
  refine f_keys (SlW σ [k0, k1, k2] P) hk ⟨L0, l0, rfl, q0⟩ (fun i σ1 L h => hG i L h.2) ?_ ?_
  · rintro i x σ1 L hi ⟨hσ, hP⟩
    obtain ⟨a0, a1, a2, rfl⟩ := unw3 hσ
    exact hs i x a0 a1 a2 L hi hP
  · rintro σ1 L ⟨hσ, hP⟩
    obtain ⟨a0, a1, a2, rfl⟩ := unw3 hσ
    exact hd a0 a1 a2 L hP
/-- a dict of ints stands still from here on -/
theorem s_keysV (hp : Pull [(p, .dK kvs)] L L1) (k : ∀ od L4, LicS L4 ([(p, .frz od (.dK kvs))] :: L1) → R (wkK p od kvs) L4) : KeyK R (.ref p) L := by
  refine ⟨p, kvs, rfl, .inl ?_⟩
  have := fun od : Obj => Pull.wr (A := []) (B := []) (o := .dK kvs) (o' := .frz od (.dK kvs)) hp
  obtain ⟨L2, h2⟩ := Classical.skolem.mp this
  exact ⟨L2, fun od => ⟨(h2 od).1, k od _ (LicS.pull (h2 od).2 LicS.refl)⟩⟩
theorem kvF_keys (us : List (Int × Int)) : ∃ ns : List Int, (kvF us).map (·.1) = ns.map (fun n => (.inl n : Key)) ∧ ∀ n ∈ ns, ∃ u ∈ us, u.1 = n := by
  have : ∀ ks : List (Key × V), (∀ p ∈ ks, ∃ u ∈ us, p = (.inl u.1, .int u.2)) → ∃ ns : List Int, ks.map (·.1) = ns.map (fun n => (.inl n : Key)) ∧ ∀ n ∈ ns, ∃ u ∈ us, u.1 = n := by
    intro ks
    induction ks with
    | nil => intro _; exact ⟨[], rfl, by simp⟩
    | cons p ks ih =>
      intro h
      obtain ⟨u, hu, e⟩ := h p List.mem_cons_self
      obtain ⟨ns, e1, e2⟩ := ih fun q hq => h q (List.mem_cons_of_mem _ hq)
      refine ⟨u.1 :: ns, by rw [List.map_cons, List.map_cons, e1, e], fun n hn => ?_⟩
      rcases List.mem_cons.mp hn with h | h
      · exact ⟨u, hu, h.symm⟩
      · exact e2 n h
  exact this _ (kvF_mem us)
/-! ### xs.pop() of a list of ints -/
theorem s_pop_i {Q : LVK} {xs : List V} {L' : Lg} (v : IntsV xs ns) (hne : ns ≠ []) (hw : Wr p (.lst xs) (.lst (ns.dropLast.map V.int)) L L') (k : ∀ y, ns.getLast? = some y → Q (.int y) L') : gPop (.ref p) [] L Q := by
  have e := v.eq
  subst e
  have hl : 0 < ns.length := by cases ns with | nil => exact absurd rfl hne | cons _ _ => simp
  refine s_pop (v := .int (ns.getLast hne)) (L' := L') (by rw [← List.map_dropLast]; exact hw) ?_ (k _ (List.getLast?_eq_some_getLast hne))
  rw [List.length_map, List.getElem?_map, ← List.getLast?_eq_getElem?, List.getLast?_eq_some_getLast hne]
  rfl
theorem adrAt_set {as : List Addr} {j k : Int} {q : Addr} (hj : 0 ≤ j) (hk : 0 ≤ k) (hl : j < as.length) : adrAt (as.set j.toNat q) k = if k = j then q else adrAt as k := by
  unfold adrAt
  simp only [List.getD_eq_getElem?_getD, List.getElem?_set]
  by_cases e : k = j
  · subst e
    rw [if_pos rfl, if_pos rfl, if_pos (by omega)]
    rfl
  · rw [if_neg e, if_neg (fun z => e (by omega))]
end
end VM

end

section
namespace VM
open PySem PySem.Spec L2
open PyProof.Rows hiding St

/-! ### sorted(xs), xs a list of pairs of ints -/
def lexLe (r s : List Int) : Prop := r.getD 0 0 < s.getD 0 0 ∨ r.getD 0 0 = s.getD 0 0 ∧ r.getD 1 0 ≤ s.getD 1 0
theorem perm_sorted {α : Type} {le : α → α → Prop} {P : α → Prop} (anti : ∀ a b, P a → P b → le a b → le b a → a = b) : ∀ {xs ys : List α}, (∀ a ∈ xs, P a) → xs.Perm ys → xs.Pairwise le → ys.Pairwise le → xs = ys
  | [], ys, _, hp, _, _ => (List.nil_perm.mp hp).symm
  | a :: xs, [], _, hp, _, _ => absurd hp.length_eq (by simp)
  | a :: xs, b :: ys, hP, hp, h1, h2 => by
    have e : a = b := by
      by_cases e : a = b
      · exact e
      · have ha : a ∈ b :: ys := hp.mem_iff.mp List.mem_cons_self
        have hb : b ∈ a :: xs := hp.mem_iff.mpr List.mem_cons_self
        have ha2 : a ∈ ys := (List.mem_cons.mp ha).resolve_left e
        have hb2 : b ∈ xs := (List.mem_cons.mp hb).resolve_left fun z => e z.symm
        exact anti a b (hP a (by simp)) (hP b (by simp [hb2])) ((List.pairwise_cons.mp h1).1 b hb2) ((List.pairwise_cons.mp h2).1 a ha2)
    subst e
    rw [perm_sorted anti (fun c hc => hP c (List.mem_cons_of_mem _ hc)) (List.Perm.cons_inv hp) (List.pairwise_cons.mp h1).2 (List.pairwise_cons.mp h2).2]
theorem lex_anti (a b : List Int) (ha : a.length = 2) (hb : b.length = 2) (h1 : lexLe a b) (h2 : lexLe b a) : a = b := by
  match a, b, ha, hb with
  | [a0, a1], [b0, b1], _, _ =>
    unfold lexLe at h1 h2
    have g0 : ([a0, a1] : List Int).getD 0 0 = a0 := rfl
    have g1 : ([a0, a1] : List Int).getD 1 0 = a1 := rfl
    have g2 : ([b0, b1] : List Int).getD 0 0 = b0 := rfl
    have g3 : ([b0, b1] : List Int).getD 1 0 = b1 := rfl
    rw [g0, g1, g2, g3] at h1 h2
    have e0 : a0 = b0 := by omega
    have e1 : a1 = b1 := by omega
    rw [e0, e1]
def kH (H : Hp) (y : V) : Int × Int := match y with
  | .ref t => match H t with
    | some (.tup [.int i, .int j]) => (i, j)
    | _ => (0, 0)
  | _ => (0, 0)
theorem kH_eq {H : Hp} {t : Addr} {i j : Int} (h : H t = some (.tup [.int i, .int j])) : kH H (.ref t) = (i, j) := by
  unfold kH
  simp only [h]
theorem telAll_of {C : Chunk} {g : V → PyData} : ∀ {ys : List V}, (∀ y ∈ ys, Tel C y (g y)) → TelAll C ys (ys.map g)
  | [], _ => .nil
  | y :: ys, h => .cons (h y List.mem_cons_self) (telAll_of fun z hz => h z (List.mem_cons_of_mem _ hz))
theorem list2 {l : List Int} (h : l.length = 2) : ∃ a b, l = [a, b] := by
  match l, h with
  | [a, b], _ => exact ⟨a, b, rfl⟩
section
variable {X : Cx}
def gSortedP : LRC := fun vs L Q => ∃ (p : Addr) (c : Chunk) (ts : List (List Int)) (L1 : Lg), vs = [.ref p] ∧ LdT c p ts ∧ (∀ r ∈ ts, r.length = 2) ∧ Pull c L L1 ∧ ∀ q d (us : List (List Int)), us.Perm ts → us.Pairwise lexLe → LdT d q us → Q (.ref q) (d :: L1)
theorem lk_sortedP : CallL X (.builtin "sorted") gSortedP := CallR.imp cr_sortedPO fun xs H Q ⟨L, QL, hL, ⟨p, c, ts, L1, e, hc, h2, hp, h⟩, k⟩ => by
  obtain ⟨C, vs, rfl, ht⟩ := hc
  have hin : ∀ y ∈ vs, ∃ t, y = V.ref t ∧ H t = some (.tup [.int (kH H y).1, .int (kH H y).2]) ∧ (t, HO.tup [.int (kH H y).1, .int (kH H y).2]) ∈ C := fun y hy => by
    obtain ⟨i, hi⟩ := List.getElem?_of_mem hy
    obtain ⟨r, t, h3, h4, h5⟩ := TelAll.tup ht hi
    obtain ⟨a, b, rfl⟩ := list2 (h2 r (List.mem_of_getElem? h3))
    have h6 := hL.get _ hp.mem (t, HO.tup (([a, b] : List Int).map V.int)) (List.mem_cons_of_mem _ h5)
    have h7 : H t = some (.tup [.int a, .int b]) := h6
    subst h4
    rw [kH_eq h7]
    exact ⟨t, rfl, h7, h5⟩
  have hts : vs.map (fun y => [(kH H y).1, (kH H y).2]) = ts := by
    apply List.ext_getElem?
    intro i
    rw [List.getElem?_map]
    cases hi : vs[i]? with
    | none =>
      have h1 := List.getElem?_eq_none_iff.mp hi
      have h3 := ht.len
      rw [List.length_map] at h3
      rw [List.getElem?_eq_none (by omega)]
      rfl
    | some y =>
      obtain ⟨r, t, h3, h4, h5⟩ := TelAll.tup ht hi
      obtain ⟨a, b, rfl⟩ := list2 (h2 r (List.mem_of_getElem? h3))
      have h7 : H t = some (.tup [.int a, .int b]) := hL.get _ hp.mem (t, HO.tup (([a, b] : List Int).map V.int)) (List.mem_cons_of_mem _ h5)
      subst h4
      rw [h3]
      show some [(kH H (.ref t)).1, (kH H (.ref t)).2] = _
      rw [kH_eq h7]
  refine ⟨p, vs, kH H, e, IsL.at_ (At.mem hp.mem List.mem_cons_self) H hL, fun y hy => let ⟨t, a, b, _⟩ := hin y hy; ⟨t, a, b⟩, fun ys q s1 s2 hq => ?_⟩
  have hys : ∀ y ∈ ys, y ∈ vs := fun y hy => s2.perm.mem_iff.mp hy
  refine k _ _ _ (h q ((q, .lst ys) :: C) (ys.map fun y => [(kH H y).1, (kH H y).2]) (by rw [← hts]; exact s2.perm.map _) ?_ ⟨C, ys, rfl, ?_⟩) ?_
  · rw [List.pairwise_map]
    refine List.Pairwise.imp ?_ s1
    intro a b hab
    have := SrtO.lexB_no.mp hab
    unfold lexLe
    show (kH H a).1 < (kH H b).1 ∨ (kH H a).1 = (kH H b).1 ∧ (kH H a).2 ≤ (kH H b).2
    omega
  · rw [List.map_map]
    refine telAll_of fun y hy => ?_
    obtain ⟨t, e1, _, e3⟩ := hin y (hys y hy)
    subst e1
    exact Tel.tints e3
  · refine LicS.lic ?_ _ (hL.new hq)
    refine LicS.split (LicS.cons ?_)
    exact LicS.trans (LicS.pull hp LicS.refl) (LicS.src (LicS.skip LicS.refl))
theorem s_sortedP {L L1 : Lg} {Q : LVK} {p : Addr} {c : Chunk} {ts : List (List Int)} (h : LdT c p ts) (h2 : ∀ r ∈ ts, r.length = 2) (hp : Pull c L L1) (k : ∀ q d (us : List (List Int)), us.Perm ts → us.Pairwise lexLe → LdT d q us → Q (.ref q) (d :: L1)) : gSortedP [.ref p] L Q := ⟨p, c, ts, L1, rfl, h, h2, hp, k⟩
end
/-! ### dicts with tuples of ints for keys -/
def keyT (r : List Int) : List Key := r.map fun n => (.inl n : Key)
theorem keyT_map (r : List Int) : (keyT r).map kV = r.map V.int := by unfold keyT; rw [List.map_map]; rfl
theorem keyT_inj {r s : List Int} (h : keyT r = keyT s) : r = s := by
  unfold keyT at h
  induction r generalizing s with
  | nil => cases s with | nil => rfl | cons _ _ => cases h
  | cons a r ih => cases s with
    | nil => cases h
    | cons b s =>
      simp only [List.map_cons, List.cons.injEq] at h
      rw [Sum.inl.inj h.1, ih h.2]
section
variable {X : Cx} {o e f : Expr} {apos cpos pos : Pos} {ta tb tc tl : LTE} {σ : St} {L L1 : Lg} {Q : LVK} {R : LWk → Lg → Prop}
def lDictT : LTE := fun _ L Q => ∀ p, p ∉ keys L → Q (.ref p) ([(p, .dT [])] :: L)
theorem ldictT : LE X (.Dict [] [] pos) lDictT := by
  refine PE.imp pe_dnewT fun σ H Q h => ?_
  obtain ⟨L, QL, hL, h, k⟩ := h
  exact fun p hp => k _ _ _ (h p (hL.fresh hp)) (hL.new hp)
theorem s_dictT (k : ∀ p, Q (.ref p) ([(p, .dT [])] :: L)) : lDictT σ L Q := fun p _ => k p
def gSetT : LTSet := fun o i v L Q => ∃ p kvs b r L', o = .ref p ∧ i = .ref b ∧ At L b (.tup (r.map V.int)) ∧ kvs.length < sizeLine ∧ Wr p (.dT kvs) (.dT (putK kvs (keyT r) v)) L L' ∧ Q L'
theorem lsetT_ok (hu : X.A.units + 64 < cLine) : SetL X gSetT := PSet.imp (set_dict (by omega)) fun o i v H Q ⟨L, QL, hL, ⟨p, kvs, b, r, L', e1, e2, h0, h1, h2, h3⟩, k⟩ => ⟨p, _, e1, .inr ⟨kvs, keyT r, b, h2.at_ H hL, e2, by rw [keyT_map]; exact h0 H hL, h1, rfl⟩, k _ _ h3 (h2.led hL)⟩
theorem s_setT {Q : Lg → Prop} {p b : Addr} {kvs : List (List Key × V)} {r : List Int} {v : V} {xs : List V} (hv : IntsV xs r) (hz : kvs.length < 1000000) (hw : Wr p (.dT kvs) (.dT (putK kvs (keyT r) v)) L L1) (h0' : At L b (.tup xs)) (k : Q L1) : gSetT (.ref p) (.ref b) v L Q := by
  have e := hv.eq
  subst e
  exact ⟨p, kvs, b, r, L1, rfl, rfl, h0', Nat.lt_of_lt_of_le hz (by decide), hw, k⟩
/-- read, whether it stands still or not -/
def RdT (L : Lg) (a : Addr) (kvs : List (List Key × V)) : Prop := ∀ H, Led H L → Rd H a (.dT kvs)
theorem RdT.at_ {a : Addr} {kvs : List (List Key × V)} (h : At L a (.dT kvs)) : RdT L a kvs := fun H l => .inl (h H l)
theorem RdT.frz {a : Addr} {od : Obj} {kvs : List (List Key × V)} (h : At L a (.frz od (.dT kvs))) : RdT L a kvs := fun H l => .inr ⟨od, h H l⟩
def DtY (a : Addr) (Q : LVK) : LVK := fun y L2 => ∃ b r kvs, y = .ref b ∧ At L2 b (.tup (r.map V.int)) ∧ RdT L2 a kvs ∧ Q ((valV kvs (keyT r)).getD .non) L2
def DtK (tb : LTE) (σ : St) (Q : LVK) : LVK := fun x L1 => ∃ a kvs, x = .ref a ∧ RdT L1 a kvs ∧ tb σ L1 (DtY a Q)
def lDGet1T (ta tb : LTE) : LTE := fun σ L Q => ta σ L (DtK tb σ Q)
theorem ldget1T (hu : X.A.units + 64 < cLine) (ho : LE X o ta) (he : LE X e tb) (m : M1 X o "get" apos e cpos := by exact ⟨rfl, rfl, rfl, rfl⟩) : LE X (.Call (.Attribute o "get" apos) [e] [] cpos) (lDGet1T ta tb) := by
  refine PE.imp (pe_dget1 (Nat.lt_of_le_of_lt (Nat.add_le_add_left (by decide) _) hu) ho he m) fun σ H Q h => ?_
  obtain ⟨L, QL, hL, h, k⟩ := h
  refine ⟨L, _, hL, h, fun x L1 H1 ⟨a, kvs, e1, h1, h2⟩ hL1 => ⟨a, e1, .inr ⟨kvs, h1 H1 hL1⟩, L1, _, hL1, h2, fun y L2 H2 ⟨b, r, kv2, e2, h3, h4, q⟩ hL2 => ⟨_, .inr ⟨kv2, keyT r, b, h4 H2 hL2, e2, by rw [keyT_map]; exact h3 H2 hL2, rfl⟩, k _ _ _ q hL2⟩⟩⟩
instance j_dget1T : S1 (lDGet1T ta tb σ L Q) (ta σ L (DtK tb σ Q)) := ⟨id⟩
theorem s_dtk {a : Addr} {kvs : List (List Key × V)} (h : RdT L a kvs) (k : tb σ L (DtY a Q)) : DtK tb σ Q (.ref a) L := ⟨a, kvs, rfl, h, k⟩
theorem s_dty {a b : Addr} {kvs : List (List Key × V)} {xs : List V} {r : List Int} (h0 : At L b (.tup xs)) (hv : IntsV xs r) (h : RdT L a kvs) (k : Q ((valV kvs (keyT r)).getD .non) L) : DtY a Q (.ref b) L := by
  have e := hv.eq
  subst e
  exact ⟨b, r, kvs, rfl, h0, h, k⟩
/-! for .. in list(d) -/
def wkT2 (a : Addr) (od : Obj) (kvs : List (List Key × V)) : LWk := ⟨kvs.length, fun L => At L a (.frz od (.dT kvs)), fun i L x L' => ∃ k v q C9, kvs[i]? = some (k, v) ∧ x = .ref q ∧ At L' q (.tup (k.map kV)) ∧ L' = C9 :: L⟩
def ListTK (R : LWk → Lg → Prop) : V → Lg → Prop := fun x L1 => ∃ (a : Addr) (kvs : List (List Key × V)), x = .ref a ∧ ∃ L2 : Obj → Lg, ∀ od, Wr a (.dT kvs) (.frz od (.dT kvs)) L1 (L2 od) ∧ R (wkT2 a od kvs) (L2 od)
def kListT (tl : LTE) : LTI := fun σ L R => tl σ L (ListTK R)
theorem ki_listT {tg : Expr} {x : Str} {p : Pos} (hc : X.calm = true) (hg : Gl X x) (hm : X.mg x = none) (hv : bootBuiltins x = some (.type "list")) (hl : LE X e tl) (hn : x ≠ "__name__" := by decide +kernel) (hdb : (x == ("__debug__" : Str)) = false := by decide +kernel)
    (hst : starEach [e] X.env = (false, eval e X.env) :: starEach [] X.env := by rfl) : LI X tg (.Call (.Name x p) [e] [] pos) (kListT tl) := by
  have hx : PE X e (fun σ H Q => Up (tl σ) H fun x H1 => ∃ (a : Addr) (kvs : List (List Key × V)), x = .ref a ∧ (H1 a = some (.dT kvs) ∧ ∀ od, Q x (upd H1 a (.frz od (.dT kvs))))) := by
    refine ⟨fun pins s σ H Q I h => ?_⟩
    refine wpAny_mono (hl.run pins s σ H _ I h) (fun u s1 z => ?_) fun _ _ z => z
    obtain ⟨x, H1, I1, rx, a, kvs, e1, hd, q⟩ := z
    obtain ⟨od, J⟩ := I1.lock hd True.intro
    exact ⟨x, _, J, rx, q od⟩
  refine PI.imp (pi_listT hc hx hg hm hv hn hdb hst) fun σ H R h => ?_
  obtain ⟨L, RL, hL, h, k⟩ := h
  refine ⟨L, _, hL, h, fun x L1 H1 h1 hL1 => ?_⟩
  obtain ⟨a, kvs, rfl, L2, hw⟩ := h1
  have sim : ∀ od : Obj, Sim (Itkt a od kvs) (wkT2 a od kvs) := fun od => walk_keysT.mono (fun H ⟨L, l, g⟩ => g H l) fun i H x H' hi g y L l _ => by
    obtain ⟨rfl, k, v, q, e1, e2, e3⟩ := y
    by_cases hq : q ∈ keys L
    · obtain ⟨c, hc, z, hz, e4⟩ := mem_keys.mp hq
      have e5 := l.get c hc z hz
      rw [e4, e3] at e5
      refine ⟨[] :: L, (LicS.lic (LicS.empty LicS.refl)) _ l, k, v, q, [], e1, e2, fun H2 l2 => ?_, rfl⟩
      have e6 := l2.get c (List.mem_cons_of_mem _ hc) z hz
      rw [e4] at e6
      rw [e6, ← e5]
    · refine ⟨[(q, .tup (k.map kV))] :: L, ?_, k, v, q, _, e1, e2, At.hd1, rfl⟩
      have e7 : upd H' q (.tup (k.map kV)) = H' := by
        funext b
        by_cases hb : b = q
        · subst hb; rw [upd_same, e3]
        · rw [upd_ne hb]
      rw [← e7]
      exact l.none_new hq
  refine ⟨a, kvs, rfl, (hw default).1.at_ H1 hL1, fun od => ?_⟩
  obtain ⟨w, q⟩ := hw od
  exact ⟨a, od, kvs, rfl, upd_same, k _ _ _ _ q (w.led hL1) (sim od)⟩
instance j_listT : S1 (kListT tl σ L R) (tl σ L (ListTK R)) := ⟨id⟩
theorem s_listT {p : Addr} {kvs : List (List Key × V)} (hp : Pull [(p, .dT kvs)] L L1) (k : ∀ od L4, LicS L4 ([(p, .frz od (.dT kvs))] :: L1) → R (wkT2 p od kvs) L4) : ListTK R (.ref p) L := by
  refine ⟨p, kvs, rfl, ?_⟩
  have := fun od : Obj => Pull.wr (A := []) (B := []) (o := .dT kvs) (o' := .frz od (.dT kvs)) hp
  obtain ⟨L2, h2⟩ := Classical.skolem.mp this
  exact ⟨L2, fun od => ⟨(h2 od).1, k od _ (LicS.pull (h2 od).2 LicS.refl)⟩⟩
end
section
variable {σ : St} {L : Lg} {a : Addr} {od : Obj} {kvs : List (List Key × V)} {gg : LTG} {tb : LTS} {n0 : St → Lg → Prop} {r0 : LVK} {b0 c0 : St → Lg → Prop}
theorem f_listT (Pv : Nat → St → Lg → Prop) (h0 : Wk (Pv 0 σ) L) (hG : ∀ i σ L, Pv i σ L → At L a (.frz od (.dT kvs))) (hs : ∀ (i : Nat) k v q σ L C9, kvs[i]? = some (k, v) → Pv i σ L → At (C9 :: L) q (.tup (k.map kV)) → gg (.ref q) σ (C9 :: L) fun σ2 L2 => tb ⟨Pv (i + 1), r0, n0, Pv (i + 1)⟩ σ2 L2) (hd : ∀ σ L, Pv kvs.length σ L → n0 σ L) : ForR (wkT2 a od kvs) gg tb ⟨n0, r0, b0, c0⟩ σ L :=
  ⟨Pv, h0, fun i σ L _ h => hG i σ L h, fun i x σ L L' hi p y => by
    obtain ⟨k, v, q, C9, e1, rfl, e3, rfl⟩ := y
    exact hs i k v q σ L C9 e1 p e3, hd⟩
end
/-! sorted(d), d standing still or not -/
def gSortedR : LRC := fun xs L Q => ∃ (a : Addr) (kvs : List (Key × V)) (ks : List Int), xs = [.ref a] ∧ (∀ H, Led H L → Rd H a (.dK kvs)) ∧ kvs.map (·.1) = ks.map Sum.inl ∧ ks.length < 64 ∧ ∀ (ys : List Int) (p : Addr), ys.Perm ks → ys.Pairwise (· ≤ ·) → p ∉ keys L → Q (.ref p) ([(p, .lst (ys.map V.int))] :: L)
theorem lk_sortedR {X : Cx} (hc : X.calm = true := by rfl) : CallL X (.builtin "sorted") gSortedR := CallR.imp (call_sortedDI hc) fun xs H Q ⟨L, QL, hL, ⟨a, kvs, ks, e, h1, h2, h3, h4⟩, k⟩ => ⟨a, kvs, ks, e, h1 H hL, h2, h3, fun ys p p1 p2 hp => k _ _ _ (h4 ys p p1 p2 (hL.fresh hp)) (hL.new hp)⟩
theorem s_sortedR {L : Lg} {Q : LVK} {c : Chunk} {p : Addr} {es : List (Int × PyData)} (h : DicF c p es) (hm : c ∈ L) (hz : es.length < 64) (k : ∀ (ys : List Int) (q : Addr), ys.Perm (es.map (·.1)) → ys.Pairwise (· ≤ ·) → Q (.ref q) ([(q, .lst (ys.map V.int))] :: L)) : gSortedR [.ref p] L Q := by
  obtain ⟨kvs, h1, h2, h3⟩ := h.get hm
  exact ⟨p, kvs, es.map (·.1), rfl, h1, by rw [h2, List.map_map]; rfl, by rw [List.length_map]; exact hz, fun ys q p1 p2 _ => k ys q p1 p2⟩
end VM

end

section
namespace PySem.W
open PySem PySem.Spec PySem.Calls PyProof.Rows
section
variable {prog : Program} {w : World} {A : Around} {E : Value → Shared → Prop} {s : Shared} {K : Frag} {x D : Addr} {ox od : Obj}
/-- e.__class__, e with fields of its own -/
theorem vm_classD {Q : Option Value → Shared → Prop} (C : L2.ExcC K D) (X : K.In s.heap) (I : InstAt s.heap x ox D (some od)) (h : Q (some (.ref D)) { s with toks := s.toks + 1 }) : wpAny (model prog w) A (getAttr? (.ref x) "__class__") Q E s := by
  have fo : findObj K D (some od) "__class__" = some (.bind (.builtin "getset_descriptor.__get__") (.builtin "object.__class__")) := findObj_data (by obtain ⟨cd, hc, _⟩ := any_some C.hd; rw [hc]; rfl) C.ha C.hn C.ht
  obtain ⟨hp, gs, dr, tk, os⟩ := s
  have ty0 := I.type (M := model prog w)
  have ty1 := looks_findIn (M := model prog w) X C.hg
  have ty2 := looks_findIn (M := model prog w) X C.hk
  have ty3 := looks_find (M := model prog w) X I fo
  have isx : Looks (model prog w) hp (isInstance (.ref x) (.type "BaseException")) true := ty0.andThen (looks_subIn X C.hs)
  have q2 : (Value.builtin "BaseException.__getattribute__" == Value.builtin "object.__getattribute__") = false := by decide +kernel
  have q1 : (onTheHeap (Value.ref D) && Value.builtin "BaseException.__getattribute__" == Value.builtin "object.__getattribute__") = false := by rw [q2]; rfl
  have q0 : (false && onTheHeap (Value.builtin "BaseException.__getattribute__")) = false := rfl
  unfold getAttr? getAttrBy?; unfold getAttrBy
  refine wpAny_bind (wpAny_mkText (wpAny_bind (wpAny_attempt (wpAny_holding (wpAny_bind (ty0.at (wpAny_bind (ty1.at ?_))))))))
  show wpAny _ _ (if (onTheHeap (Value.ref D) && Value.builtin "BaseException.__getattribute__" == Value.builtin "object.__getattribute__") = true then _ else _) _ _ ⟨hp, gs, dr, tk + 1, os⟩
  rw [q1]; rw [if_neg Bool.false_ne_true]
  unfold getAttrByItsOwn; unfold hookBefore
  refine wpAny_bind ?_; rw [if_pos (show onTheHeap (Value.ref D) = true from rfl)]
  refine ty2.at (wpAny_bind (wpAny_attempt (wpAny_holding ?_)))
  unfold callGetattribute; rw [q0, if_neg Bool.false_ne_true]
  unfold boundAndCalled; rw [PySem.F.excAttr_ValueError.ga.bind (.ref x)]
  refine wpAny_bind (wpAny_pure ?_)
  show wpAny _ _ (call (.builtin "BaseException.__getattribute__") [.ref x, .str "__class__" tk]) _ _ ⟨hp, gs, dr, tk + 1, os⟩
  refine wpAny_call (codeAny_call_builtin PySem.F.excAttr_ValueError.ga.plain PySem.F.entry_bexc_ga (@check_slot (model prog w) _ _ ⟨hp, gs, dr, tk + 1, os⟩ "BaseException.__getattribute__" "BaseException" "__getattribute__" (.ref x) [.str "__class__" tk] [] _ (by decide +kernel) (by decide +kernel) isx (PySem.F.args_bexc_ga (.ref x) (.str "__class__" tk)) ?_))
  unfold Builtin.«object.__getattribute__»; refine wpAny_bind (wpAny_of_eq (a := ((Value.ref x : Value), [Value.str "__class__" tk])) (by first | rfl | (simp only [slotArgs]; rfl)) ?_)
  refine wpAny_bind (wpAny_pure (wpAny_bind (ty0.at (wpAny_bind (ty3.at ?_)))))
  show wpAny _ _ (holding [Value.builtin "object.__class__"] (call (.builtin "getset_descriptor.__get__") [.builtin "object.__class__", .ref x, .ref D]) >>= ret) _ _ ⟨hp, gs, dr, tk + 1, os⟩
  refine wpAny_bind (wpAny_holding (wpAny_call (class_get (s := ⟨hp, gs, dr, tk + 1, os⟩) (ox := ox) (od := some od) X I C.hm ?_)))
  refine wpAny_pure ?_; show wpAny _ _ (handedOut (.ref D)) _ _ _; rw [handedOut_of (v := .ref D) rfl]
  first | exact wpAny_pure (wpAny_pure h) | exact wpAny_pure h | exact wpAny_pure (wpAny_bind (wpAny_pure (wpAny_pure h)))
theorem vm_kitxD (C : L2.ExcC K D) : KitX K (.ref x) (.ref D) (fun h => ∃ od, InstAt h x ox D (some od)) where
  ty := fun _ _ _ ⟨_, I⟩ => I.type
  it := fun _ _ X _ => by
    obtain ⟨cdz, hcz, _⟩ := any_some C.hd
    unfold clsIn at hcz
    split at hcz
    · rename_i c' d' cd' sl' hoz
      intro A' Q' E' s' kz qz
      unfold isType; unfold loadHead
      exact wpAny_bind (wpAny_loadPart (kz _ _ (X _ _ hoz)) (wpAny_pure qz))
    · cases hcz
  ne := fun h tp dd its n sl X htp => by
    obtain ⟨cdz, hcz, _⟩ := any_some C.hd
    refine Bool.eq_false_iff.mpr fun qz => ?_
    have ez : D = tp := Value.ref.inj (beq_iff_eq.mp qz)
    subst ez
    unfold clsIn at hcz
    split at hcz
    · rename_i c' d' cd' sl' hoz
      have zz := (X _ _ hoz).symm.trans htp
      cases zz
    · cases hcz
  ca := fun X ⟨_, I⟩ k => vm_classD C X I k
end
end PySem.W
namespace VM
open PySem PySem.Spec L2
open PyProof.Rows hiding St

/-! ### B.__init__(self, ..), B an own exception class that inherits it -/
structure ViC (K : PySem.W.Frag) (B : Addr) : Prop where
  ga : PySem.W.specialIn K (.ref B) "__getattribute__" = some (some (.builtin "type.__getattribute__"))
  rd : PySem.W.readsIn K B (.type "type") = true
  at_ : PySem.W.findCls K (.ref B) (.type "type") "__init__" = some (.val (.builtin "ValueError.__init__"))
  kp : PySem.W.keepIn K (.ref B) = true
def viB (K : PySem.W.Frag) (B : Addr) : Bool := decide (PySem.W.specialIn K (.ref B) "__getattribute__" = some (some (.builtin "type.__getattribute__"))) && (PySem.W.readsIn K B (.type "type") && ((match PySem.W.findCls K (.ref B) (.type "type") "__init__" with | some (.val v) => decide (v = .builtin "ValueError.__init__") | _ => false) && PySem.W.keepIn K (.ref B)))
theorem viB_ok {K : PySem.W.Frag} {B : Addr} (h : viB K B = true) : ViC K B := by
  unfold viB at h
  simp only [Bool.and_eq_true, decide_eq_true_eq] at h
  refine ⟨h.1, h.2.1, ?_, h.2.2.2⟩
  have h3 := h.2.2.1
  split at h3
  · rename_i v e
    rw [e, of_decide_eq_true h3]
  · cases h3
section
variable {X : Cx} {x : Str} {B : Addr} {e : Expr} {es : List Expr} {ta : TA} {p1 p2 pos : Pos}
theorem pe_vi {pl : Sem Bool} (V : ViC X.K B) (hg : Gl X x) (hm : X.mg x = some (.ref B)) (ha : PA X (e :: es) ta) (hdb : (x == ("__debug__" : Str)) = false := by decide)
    (hc : eval (.Call (.Attribute (.Name x p1) "__init__" p2) (e :: es) [] pos) X.env = (do let ov ← eval (.Name x p1) X.env; standAt p2.atName; let (f, first) ← holding [ov] (getMethod ov "__init__" pl); callWith pos f first (backTo pos (starEach (e :: es) X.env)) (backToKw pos (keywordEach [] X.env))) := by rfl)
    (h1 : starEach (e :: es) X.env = (false, eval e X.env) :: starEach es X.env := by rfl) (h2 : (backTo pos (starEach es X.env)).any (·.1) = false := by rfl) : PE X (.Call (.Attribute (.Name x p1) "__init__" p2) (e :: es) [] pos) (tVeI X.K ta) := by
  refine ⟨fun pn st τ G Q J w => PySem.W.methodCall_KW (ld_glob J hg hm (PySem.W.method_cls J.kIn V.ga (PySem.W.cls_value J.kIn V.rd V.at_ (by decide +kernel) ?_)) hdb) hc⟩
  refine PyProof.Rows.callWith_method1 (thn (ha.run pos pn _ τ G _ (J.tok _) w) fun vals st1 got => ?_) h1 h2
  obtain ⟨ws, G1, J1, rel, a, C, rest, e1, small, T, at1, q⟩ := got
  subst e1
  cases rel with
  | @cons _ hd _ tl rh rt =>
    obtain rfl : hd = Value.ref a := rh
    have hlen : tl.length ≤ sizeLine := by rw [← Paired.length rt, sizeLine_eq]; omega
    exact oinit_ok T J1 at1 hlen fun st2 J2 => ⟨.non, G1, J2, rfl, q⟩
end
/-! ### an exception's own __init__(self, f) that stores f -/
def spInit (K : PySem.W.Frag) (f : Str) : Sp := fun vs H Q _ => ∃ (a C : Addr) (n : V), vs = [.ref a, n] ∧ OexC K C ∧ PySem.W.findIn K (.ref C) f = some none ∧ H a = some (exo a C none) ∧ ∀ dx, H dx = none → dx ≠ a → Q .non (upd (upd H dx (exd dx [(f, n)])) a (exo a C (some dx)))
theorem spInit_len {K : PySem.W.Frag} {f : Str} {n : Nat} (h : n = 2) : ∀ vs H Q E, spInit K f vs H Q E → vs.length = n := fun _ _ _ _ ⟨_, _, _, e, _⟩ => by rw [e, h]; rfl
theorem init_run {K : PySem.W.Frag} {f m : Str} {vs : List V} {H : Hp} {Q : VK} {E : XK} {N : List Str} (h : spInit K f vs H Q E) (hN : N.length = 2) : tSeq (tDrop (tVeI K (tCons (tVar 0) (tCons (tC (.str m)) tNil)))) (tSeq (tOst K f (tVar 0) (tVar 1)) tNext) { nx := fun _ H' => Q .non H', rt := Q } (start N vs) H := by
  obtain ⟨a, C, n, rfl, T, hno, ha, k⟩ := h
  have es : start N [.ref a, n] = [some (.ref a), some n] := by
    match N, hN with
    | [_, _], _ => rfl
  rw [es]
  exact ⟨.ref a, rfl, a, C, [.str m], rfl, by show 1 ≤ 1000; decide, T, ha, n, rfl, .ref a, rfl, a, C, rfl, T, hno, .inl ⟨ha, fun dx hn hne => k dx hn hne⟩⟩
/-! ### raise C(n), C with such an __init__ -/
def InitX (P : Program) (w : World) (K : PySem.W.Frag) (mg : Str → Option Value) (base : Heap) (k : Nat) (f : Addr) (ps : List Str) (fl : Str) : Prop := ∃ fd, FnOk P w K mg base CX0 k f fd ps (spInit K fl) ∧ Binds K fd ps [] ∧ PySem.W.keepIn K (.ref f) = true
structure OxC (K : PySem.W.Frag) (C fI : Addr) (fl : Str) : Prop where
  ox : OexC K C
  ini : PySem.W.findIn K (.ref C) "__init__" = some (some (.ref fI))
  ty : PySem.W.typeIn K (.ref fI) = some (.type "function")
  no : PySem.W.findIn K (.ref C) fl = some none
def RsK (W : WX) (C : Addr) (fl : Str) (σ : St) : List V → Lg → Prop := fun vs L1 => ∃ n, vs = [n] ∧ ∀ d, d ∉ keys L1 → WL W σ (.ref C) (some d) ([(d, .xd [(fl, n)])] :: L1)
def lRaiseI (W : WX) (C : Addr) (fl : Str) (t : LTA) : LTS := fun _ σ L => t σ L (RsK W C fl σ)
instance j_raiseI {W : WX} {C : Addr} {fl : Str} {t : LTA} {D : LEnds} {σ : St} {L : Lg} : S1 (lRaiseI W C fl t D σ L) (t σ L (RsK W C fl σ)) := ⟨id⟩
theorem s_rsk {W : WX} {C : Addr} {fl : Str} {σ : St} {L : Lg} {n : V} (k : ∀ d, WL W σ (.ref C) (some d) ([(d, .xd [(fl, n)])] :: L)) : RsK W C fl σ [n] L := ⟨n, rfl, fun d _ => k d⟩
section
variable {X : Cx} {W : WX} {C fI : Addr} {x fl : Str} {k : Nat} {ps : List Str} {p pos pos' : Pos} {e : Expr} {es : List Expr} {t : LTA}
theorem ls_raiseI (tk : Takes X W) (O : OxC X.K C fI fl) (G : InitX X.prog X.w X.K X.mg X.base k fI ps fl) (hr : Room (k + 1) X.A) (hg : Gl X x) (hm : X.mg x = some (.ref C)) (ha : LA X (e :: es) t) (hc : X.calm = true := by rfl) (hdb : (x == ("__debug__" : Str)) = false := by decide)
    (h1 : starEach (e :: es) X.env = (false, eval e X.env) :: starEach es X.env := by rfl) (h2 : (backTo pos (starEach es X.env)).any (·.1) = false := by rfl) : LS X (.Raise (some (.Call (.Name x p) (e :: es) [] pos)) none pos') (lRaiseI W C fl t) := by
  obtain ⟨fd, F, hb, kp⟩ := G
  refine PS.imp (ps_raise hc tk (pmk_oex O.ox O.ini O.ty F hr hb .nil (fun _ _ _ _ _ _ _ h => h.elim) hg hm ha hdb h1 h2)) fun D σ H ⟨L, DL, hL, h, k⟩ => ?_
  refine ⟨L, _, hL, h, fun vs L1 H1 ⟨n, ev, q⟩ hL1 => ?_⟩
  subst ev
  refine ⟨by show 1 ≤ 1000; decide, fun a ha1 => ⟨a, C, n, rfl, O.ox, O.no, upd_same, fun dx hd hne => ⟨rfl, dx, [(fl, n)], upd_same, ?_, ?_, ?_⟩⟩⟩
  · rw [upd_ne hne, upd_same]
  · rwa [upd_ne hne] at hd
  · have hd1 : H1 dx = none := by rwa [upd_ne hne] at hd
    have e9 : upd (del (upd (upd (upd H1 a (exo a C none)) dx (exd dx [(fl, n)])) a (exo a C (some dx))) a) dx (.xd [(fl, n)]) = upd H1 dx (.xd [(fl, n)]) := by
      funext b
      by_cases hb : b = dx
      · subst hb; rw [upd_same, upd_same]
      · rw [upd_ne hb, upd_ne hb]
        by_cases hba : b = a
        · subst hba; rw [del_same, ha1]
        · rw [del_ne hba, upd_ne hba, upd_ne hb, upd_ne hba]
    rw [e9]
    exact q dx (hL1.fresh hd1) _ (hL1.new hd1)
end
/-! ### e.f of what was caught -/
section
variable {X : Cx} {a C : Addr} {oe : Obj} {cls : Value} {d : Option Addr} {pn : List (Addr × Obj)} {e : Expr} {te : LTE} {pos : Pos} {n : Str}
def XfK (a : Addr) (cls : Value) (d : Option Addr) (n : Str) (Q : LVK) : LVK := fun x L1 => ∃ (C dd : Addr) (fs : List (Str × V)) (v : V), x = .ref a ∧ cls = .ref C ∧ d = some dd ∧ At L1 dd (.xd fs) ∧ fs.lookup n = some v ∧ Q v L1
def XfOk (K : PySem.W.Frag) (n : Str) (cls : Value) : Prop := ∀ C, cls = .ref C → XfC K C ∧ PySem.W.findIn K (.ref C) n = some none
def lXf (a : Addr) (cls : Value) (d : Option Addr) (C : Addr) (n : Str) (te : LTE) : LTE := fun σ L Q => te σ L fun x L1 => x = .ref a ∧ cls = .ref C ∧ ∃ (dd : Addr) (fs : List (Str × V)) (v : V), d = some dd ∧ At L1 dd (.xd fs) ∧ fs.lookup n = some v ∧ Q v L1
theorem lxf (T : XfC X.K C) (hno : PySem.W.findIn X.K (.ref C) n = some none) (hz : Zc cls d oe) (hf : ∃ vs, oe.data = .fields vs) (he : LE (X.suite a ((a, oe) :: pn)) e te) (hb : attributeBase e n X.env (eval e X.env) = eval e X.env := by rfl) : LE (X.suite a ((a, oe) :: pn)) (.Attribute e n pos) (lXf a cls d C n te) := by
  refine PE.imp (pe_xf T hno hz hf he hb) fun σ H Q ⟨L, QL, hL, h, k⟩ => ?_
  exact ⟨L, _, hL, h, fun x L1 H1 ⟨e1, e2, dd, fs, v, e3, h1, e4, q⟩ hL1 => ⟨e1, e2, dd, fs, v, e3, h1 H1 hL1, e4, k _ _ _ q hL1⟩⟩
instance j_xf {σ : St} {L : Lg} {Q : LVK} : S1 (lXf a cls d C n te σ L Q) (te σ L fun x L1 => x = .ref a ∧ cls = .ref C ∧ ∃ (dd : Addr) (fs : List (Str × V)) (v : V), d = some dd ∧ At L1 dd (.xd fs) ∧ fs.lookup n = some v ∧ Q v L1) := ⟨id⟩
end
/-! ### what is looked up of such classes -/
def oxB (K : PySem.W.Frag) (C : Addr) : Bool := match K.lookup C with
  | some ⟨.type "type", _, .cls cd, sl⟩ => (match cd.mro, sl.toList with
    | .ref C' :: bm, [_, _, _, _, some (.builtin n), _] => C' == C && (n == "ValueError.__new__" && (!cd.hasDel && (cd.hasDict && PySem.HandSPX.refsVE bm)))
    | _, _ => false)
  | _ => false
def oxCB (K : PySem.W.Frag) (C fI : Addr) (fl : Str) : Bool := oxB K C && (decide (PySem.W.findIn K (.ref C) "__setattr__" = some (some (.builtin "object.__setattr__"))) && (decide (PySem.W.subIn K (.ref C) (.type "BaseException") = some true) && (decide (PySem.W.typeIn K (.ref C) = some (.type "type")) && (PySem.W.keepIn K (.ref C) && (decide (PySem.W.findIn K (.ref C) "__init__" = some (some (.ref fI))) && (decide (PySem.W.typeIn K (.ref fI) = some (.type "function")) && decide (PySem.W.findIn K (.ref C) fl = some none)))))))
theorem oxB_ok {K : PySem.W.Frag} {C : Addr} (q : oxB K C = true) : ∃ nm q N bs bm sn sub ab col dd k0 k1 k2 k3 k5, K.lookup C = some (PySem.excClassObj nm q C N bs bm true sn sub ab col dd k0 k1 k2 k3 k5 "ValueError.__new__") ∧ PySem.HandSPX.refsVE bm = true := by
  unfold oxB at q
  split at q
  · rename_i ddz cdz slz hoz
    split at q
    · rename_i C' bmz k0 k1 k2 k3 nz k5 hmz hsz
      simp only [Bool.and_eq_true, beq_iff_eq, Bool.not_eq_true'] at q
      obtain ⟨rfl, rfl, hde, hdi, hre⟩ := q
      obtain ⟨nm, bs, mro, nsz, qn, hd, sn, sub, ab, col, del⟩ := cdz
      dsimp only at hmz hde hdi
      subst hmz hde hdi
      have e1 : slz = #[k0, k1, k2, k3, some (.builtin "ValueError.__new__"), k5] := by
        obtain ⟨l⟩ := slz
        simp only at hsz
        rw [hsz]
      subst e1
      exact ⟨nm, qn, nsz, bs, bmz, sn, sub, ab, col, ddz, k0, k1, k2, k3, k5, hoz, hre⟩
    · cases q
  · cases q
theorem oxCB_ok {K : PySem.W.Frag} {C fI : Addr} {fl : Str} (h : oxCB K C fI fl = true) : OxC K C fI fl := by
  unfold oxCB at h
  simp only [Bool.and_eq_true, decide_eq_true_eq] at h
  obtain ⟨h1, h2, h3, h4, h5, h6, h7, h8⟩ := h
  exact ⟨⟨oxB_ok h1, h2, h3, h4, h5⟩, h6, h7, h8⟩
def xf1B (K : PySem.W.Frag) (C : Addr) (n : Str) : Bool := xfB K C && decide (PySem.W.findIn K (.ref C) n = some none)
theorem xf1B_ok {K : PySem.W.Frag} {C : Addr} {n : Str} (h : xf1B K C n = true) : XfC K C ∧ PySem.W.findIn K (.ref C) n = some none := by
  unfold xf1B at h
  simp only [Bool.and_eq_true, decide_eq_true_eq] at h
  exact ⟨xfB_ok h.1, h.2⟩
/-! ### isinstance of what was caught, with fields -/
def gIsD1 (K : PySem.W.Frag) (a : Addr) (cls : Value) (d : Option Addr) : LRC := fun xs L Q => ∃ (D dd : Addr) (fs : List (Str × V)) (c : V) (cv : Value) (b : Bool), cls = .ref D ∧ d = some dd ∧ At L dd (.xd fs) ∧ ExcCB K D = true ∧ xs = [.ref a, c] ∧ ClsV c cv ∧ PySem.W.kitOne K (.ref D) cv = some b ∧ Q (.bl b) L
def gIsDT (K : PySem.W.Frag) (a : Addr) (cls : Value) (d : Option Addr) : LRC := fun xs L Q => ∃ (D dd t : Addr) (fs : List (Str × V)) (cs : List V) (us : List Value) (b : Bool), cls = .ref D ∧ d = some dd ∧ At L dd (.xd fs) ∧ ExcCB K D = true ∧ xs = [.ref a, .ref t] ∧ At L t (.tup cs) ∧ Paired ClsV cs us ∧ PySem.W.kitAny K (.ref D) us = some b ∧ Q (.bl b) L
def gIsD (K : PySem.W.Frag) (a : Addr) (cls : Value) (d : Option Addr) : LRC := fun xs L Q => gIsE K a cls d xs L Q ∨ gIsD1 K a cls d xs L Q ∨ gIsDT K a cls d xs L Q
section
variable {X : Cx} {a : Addr} {oe : Obj} {cls : Value} {d : Option Addr} {pn : List (Addr × Obj)}
theorem inst_xd {D dd : Addr} {fs : List (Str × V)} {pins : List (Addr × Obj)} {σ : St} {H : Hp} {s : Shared} (hz : Zc (.ref D) (some dd) oe) (hf : ∃ vs, oe.data = .fields vs) (I : Inv (X.suite a ((a, oe) :: pn)) pins σ H s) (hA : H dd = some (.xd fs)) : ∃ od, PySem.W.InstAt s.heap a oe D (some od) := by
  obtain ⟨ha, _⟩ := I.pin (a, oe) (List.mem_append_left _ List.mem_cons_self)
  obtain ⟨vs, hd⟩ := hf
  have hx : ObjOk X.prog X.w H s.heap dd (.xd fs) := I.hok dd _ hA
  obtain ⟨mA, hns, hr⟩ := hx
  obtain ⟨od, ho, hl⟩ := lookIn_ns hns
  exact ⟨od, ha, hz.1, by unfold PySem.W.notCls; rw [hd] <;> rfl, by rw [hz.2]; exact ho⟩
theorem lk_isD1 (hz : Zc cls d oe) (hf : ∃ vs, oe.data = .fields vs) : CallL (X.suite a ((a, oe) :: pn)) (.builtin "isinstance") (gIsD1 X.K a cls d) := by
  intro pins s σ H xs us Q I r h
  obtain ⟨L, QL, hL, ⟨D, dd, fs, c, cv, b, rfl, rfl, hA, hB, rfl, hv, hk, q⟩, k⟩ := h
  obtain ⟨od, J⟩ := inst_xd hz hf I (hA H hL)
  obtain ⟨u1, u2, rfl, r1, r2⟩ := vals2 r
  have e1 : u1 = Value.ref a := r1
  have e2 := hv.eq r2
  subst e1 e2
  exact PySem.W.kia_one (PySem.W.vm_kitxD (ExcCB.ok hB)) I.kIn ⟨od, J⟩ hk (fun z => nomatch z) fun tk => ⟨.bl b, H, I.tok tk, rfl, k _ _ _ q hL⟩
theorem lk_isDT (hz : Zc cls d oe) (hf : ∃ vs, oe.data = .fields vs) : CallL (X.suite a ((a, oe) :: pn)) (.builtin "isinstance") (gIsDT X.K a cls d) := by
  intro pins s σ H xs us Q I r h
  obtain ⟨L, QL, hL, ⟨D, dd, t, fs, cs, ws, b, rfl, rfl, hA, hB, rfl, hT, hp, hk, q⟩, k⟩ := h
  obtain ⟨od, J⟩ := inst_xd hz hf I (hA H hL)
  obtain ⟨u1, u2, rfl, r1, r2⟩ := vals2 r
  have e1 : u1 = Value.ref a := r1
  have e2 : u2 = Value.ref t := r2
  subst e1 e2
  have tok : ObjOk X.prog X.w H s.heap t (.tup cs) := I.hok t _ (hT H hL)
  obtain ⟨_, its, rv, ob, g1, g2, n, g3⟩ := tok
  have e3 := ClsV.all hp rv
  subst e3
  obtain ⟨qc, qd, qt, qs⟩ := ob
  simp only at g2 g3
  subst g2 g3
  exact PySem.W.kia_tup (PySem.W.vm_kitxD (ExcCB.ok hB)) I.kIn ⟨od, J⟩ g1 hk (fun z => nomatch z) fun tk => ⟨.bl b, H, I.tok tk, rfl, k _ _ _ q hL⟩
theorem kk_isD (K : PySem.W.Frag) (hz : Zc cls d oe) (hf : ∃ vs, oe.data = .fields vs) (h : X.K = K := by rfl) : CallL (X.suite a ((a, oe) :: pn)) (.builtin "isinstance") (gIsD K a cls d) := by
  subst h
  exact CallL.or (kk_isE X.K hz hf) (CallL.or (lk_isD1 hz hf) (lk_isDT hz hf))
variable {K : PySem.W.Frag} {D C t dd : Addr} {L : Lg} {Q : LVK} {b : Bool} {fs : List (Str × V)}
theorem s_isD (hA : At L dd (.xd fs)) (hB : ExcCB K D = true) (hk : PySem.W.kitOne K (.ref D) (.ref C) = some b) (k : Q (.bl b) L) : gIsD K a (.ref D) (some dd) [.ref a, .ref C] L Q := .inr (.inl ⟨D, dd, fs, _, _, b, rfl, rfl, hA, hB, rfl, .own C, hk, k⟩)
theorem s_isDT {cs : List V} {us : List Value} (hA : At L dd (.xd fs)) (hB : ExcCB K D = true) (ht : At L t (.tup cs)) (hp : Paired ClsV cs us) (hk : PySem.W.kitAny K (.ref D) us = some b) (k : Q (.bl b) L) : gIsD K a (.ref D) (some dd) [.ref a, .ref t] L Q := .inr (.inr ⟨D, dd, t, fs, cs, us, b, rfl, rfl, hA, hB, rfl, ht, hp, hk, k⟩)
theorem s_isDi {d : Option Addr} {cls : Value} {xs : List V} (k : lIsi K xs L Q) : gIsD K a cls d xs L Q := .inl (.inr (.inr k))
end
/-! ### xs.pop(i) -/
def gPopAt : V → LRC := fun x vs L Q => ∃ l xs i k y L', x = .ref l ∧ vs = [.int i] ∧ -(2 ^ 63) ≤ i ∧ i < 2 ^ 63 ∧ seqIndex? i xs.length = some k ∧ xs[k]? = some y ∧ Wr l (.lst xs) (.lst (xs.eraseIdx k)) L L' ∧ Q y L'
theorem lm_popAt {X : Cx} : MtL X "list.pop" gPopAt := MtR.imp (mt_popAt : MtM X "list.pop" rPopAt) fun x xs H Q ⟨L, QL, hL, ⟨l, ys, i, k, y, L', e1, e2, h1, h2, h3, h4, h5, h6⟩, kq⟩ => ⟨l, ys, i, k, y, e1, e2, h5.at_ H hL, h1, h2, h3, h4, kq _ _ _ h6 (h5.led hL)⟩
/-! ### a chunk of which every cell is told -/
def AtA (L : Lg) (C : Chunk) : Prop := ∀ x ∈ C, At L x.1 x.2
theorem AtA.mem {L : Lg} {C : Chunk} (h : C ∈ L) : AtA L C := fun _ hx => At.mem h hx
theorem AtA.tl {c : Chunk} {L : Lg} {C : Chunk} (h : AtA L C) : AtA (c :: L) C := fun x hx => At.tl (h x hx)
theorem AtA.cons {L : Lg} {C : Chunk} {a : Addr} {o : HO} (h : At L a o) (k : AtA L C) : AtA L ((a, o) :: C) := fun x hx => by
  rcases List.mem_cons.mp hx with rfl | hx
  · exact h
  · exact k x hx
theorem AtA.nil {L : Lg} : AtA L [] := fun _ hx => nomatch hx
theorem AtA.app {L : Lg} {C D : Chunk} (h : AtA L C) (k : AtA L D) : AtA L (C ++ D) := fun x hx => (List.mem_append.mp hx).elim (h x) (k x)
theorem AtA.get {L : Lg} {C : Chunk} {a : Addr} {o : HO} (h : AtA L C) (hx : (a, o) ∈ C) : At L a o := h (a, o) hx
mutual
theorem Tel.dpA {K : PySem.W.Frag} {c : Chunk} {H : Hp} (l : ∀ x ∈ c, H x.1 = some x.2) {v : V} {d : PyData} : Tel c v d → Dp K H v d
  | .non => .non
  | .bl b => .bl b
  | .int i => .int i
  | .str i => .str i
  | .lst h k => .lst (.inl (.inl (l _ h))) (TelAll.dpA l k)
  | .tup h k => .tup (.inl (.inl (l _ h))) (TelAll.dpA l k)
theorem TelAll.dpA {K : PySem.W.Frag} {c : Chunk} {H : Hp} (l : ∀ x ∈ c, H x.1 = some x.2) {v : List V} {d : List PyData} : TelAll c v d → DpAll K H v d
  | .nil => .nil
  | .cons h k => .cons (Tel.dpA l h) (TelAll.dpA l k)
end
theorem DpL.telA {K : PySem.W.Frag} {L : Lg} {c : Chunk} {v : V} {d : PyData} (h : Tel c v d) (hm : AtA L c) : DpL K L v d := fun H l => h.dpA fun x hx => hm x hx H l
/-! ### shape of data, truths and texts too -/
def okD (n : Nat) (d : PyData) : Prop := d.canLay0 = true ∧ d.depth ≤ n
theorem okD.sh {n : Nat} {d : PyData} (h : okD n d) (hn : n ≤ 64 := by decide) : SeqAt.shaped d = true := by
  unfold SeqAt.shaped
  rw [h.1, decide_eq_true (Nat.le_trans h.2 hn)]
  rfl
theorem okD.all {n : Nat} : ∀ {xs : List PyData}, (∀ d ∈ xs, okD n d) → PyData.canLayAll0 xs = true ∧ PyData.depthAll xs ≤ n
  | [], _ => ⟨by simp [PyData.canLayAll0], by simp [PyData.depthAll]⟩
  | x :: xs, h => by
    obtain ⟨h1, h2⟩ := okD.all fun d hd => h d (List.mem_cons_of_mem _ hd)
    obtain ⟨h3, h4⟩ := h x List.mem_cons_self
    refine ⟨by simp [PyData.canLayAll0, h1, h3], ?_⟩
    simp only [PyData.depthAll]
    omega
theorem okD.lst {n : Nat} {xs : List PyData} (h : ∀ d ∈ xs, okD n d) : okD (n + 1) (.list xs) := by
  obtain ⟨h1, h2⟩ := okD.all h
  refine ⟨by simp [PyData.canLay0, h1], ?_⟩
  simp only [PyData.depth]
  omega
theorem okD.tup {n : Nat} {xs : List PyData} (h : ∀ d ∈ xs, okD n d) : okD (n + 1) (.tuple xs) := by
  obtain ⟨h1, h2⟩ := okD.all h
  refine ⟨by simp [PyData.canLay0, h1], ?_⟩
  simp only [PyData.depth]
  omega
theorem okD.int {n : Nat} {i : Int} : okD n (.int i) := ⟨by simp [PyData.canLay0], by simp [PyData.depth]⟩
theorem okD.bl {n : Nat} {i : Bool} : okD n (.bool i) := ⟨by simp [PyData.canLay0], by simp [PyData.depth]⟩
theorem okD.non {n : Nat} : okD n .none := ⟨by simp [PyData.canLay0], by simp [PyData.depth]⟩
theorem okD.str {n : Nat} {s : Str} (h : PyData.strOk s = true) : okD n (.str s) := ⟨by simp [PyData.canLay0, h], by simp [PyData.depth]⟩
theorem okD.le {n m : Nat} {d : PyData} (h : okD n d) (k : n ≤ m) : okD m d := ⟨h.1, Nat.le_trans h.2 k⟩
theorem okD.dI {n : Nat} {ns : List Int} : okD (n + 1) (dI ns) := okD.lst fun d hd => by
  obtain ⟨i, _, rfl⟩ := List.mem_map.mp hd
  exact okD.int
/-- a thing compared with one of the same data -/
theorem s_eqSame {K : PySem.W.Frag} {L : Lg} {Q : LVK} {x y : V} {d : PyData} (h1 : DpL K L x d) (h2 : DpL K L y d) (h3 : SeqAt.shaped d = true) (k : Q (.bl true) L) : gEq K x y L Q := s_eq_d h1 h2 h3 h3 (by rw [SeqAt.eqv_refl d (SeqAt.canLay_of_shaped h3)]; exact k)
theorem s_neSame {K : PySem.W.Frag} {L : Lg} {Q : LVK} {x y : V} {d : PyData} (h1 : DpL K L x d) (h2 : DpL K L y d) (h3 : SeqAt.shaped d = true) (k : Q (.bl false) L) : gNe K x y L Q := s_ne_d h1 h2 h3 h3 (by rw [SeqAt.eqv_refl d (SeqAt.canLay_of_shaped h3)]; exact k)
/-! ### the Hook, with the table of the interpreter's own statics (reading a class's function looks there) -/
def asS (g : Addr → Option Obj) (n : Nat) : List Addr := He.asD g n ++ [cStatics]
def obsXS (n : Nat) (fa : List He.Fa) (fn : List He.DefD) (ex : PySem.W.Frag → Bool) (g : Addr → Option Obj) : He.AlX := (He.obsT fa fn [] (He.frT g (asS g n)), ex (He.frT g (asS g n)) && true)
theorem saysXS_of {n : Nat} {fa : List He.Fa} {fn : List He.DefD} {ex : PySem.W.Frag → Bool} {w : World} {h : Heap} (e : obsXS n fa fn ex h.get? = He.valX fn [] w) : He.SaysX fa fn [] [] ex w h (He.frT h.get? (asS h.get? n)) := by
  have e1 : He.obsT fa fn [] (He.frT h.get? (asS h.get? n)) = He.valT fn [] w := congrArg (fun z : He.AlX => z.1) e
  have e2 : (ex (He.frT h.get? (asS h.get? n)) && true) = true := congrArg (fun z : He.AlX => z.2) e
  rw [Bool.and_true] at e2
  exact ⟨e1, e2, fun p hp => (nomatch hp), fun p hp => (nomatch hp), fun p hp => (nomatch hp)⟩
def hookXS (n : Nat) (fa : List He.Fa) (fn : List He.DefD) (ex : PySem.W.Frag → Bool) : PySem.W.Hook where
  α := He.AlX
  obs := fun s => obsXS n fa fn ex s.heap.get?
  val := fun w => He.valX fn [] w
  says := fun w h => ∃ K : PySem.W.Frag, K.In h ∧ He.SaysX fa fn [] [] ex w h K
  of := fun _ _ e => ⟨_, He.frT_in, saysXS_of e⟩
  keeps := fun _ _ _ ⟨K, hK, c⟩ k => ⟨K, PySem.W.Frag.In.keeps hK k, ⟨c.t, c.more, c.hd, c.out, fun p hp => k _ _ (c.empty p hp)⟩⟩
theorem obsXS_eq {n : Nat} {fa : List He.Fa} {fn : List He.DefD} {ex : PySem.W.Frag → Bool} {g : Addr → Option Obj} {s : Shared} (h : ∀ a, g a = s.heap.get? a) : obsXS n fa fn ex g = (hookXS n fa fn ex).obs s := by
  have e : g = s.heap.get? := funext h
  rw [e] <;> rfl
end VM

end

section
namespace VM
open PySem PySem.Spec L2
open PyProof.Rows hiding St
/-! ### sorted(xs, key=f): ints by int keys, a fact of the whole state kept -/
def IntV (v : Value) (n : Int) : Prop := ∃ t, v = .int n t
theorem each_intV : ∀ {vs : List Value} {ns : List Int}, IntsAre vs ns → PySem.W.EachIs IntV vs ns
  | _, _, .nil => .nil
  | _, _, .cons _ t r => .cons ⟨t, rfl⟩ (each_intV r)
theorem each_reads {h : Heap} {key : Int → Int} : ∀ {vs : List Value} {ns : List Int}, PySem.W.EachIs IntV vs (ns.map key) → PySem.W.EachIs (fun v k => ∃ as, Reads h v k as) vs (ns.map fun n => PyData.int (key n))
  | vs, [], r => by
    have r' : PySem.W.EachIs IntV vs [] := r
    cases r'
    exact .nil
  | vs, n :: ns, r => by
    have r' : PySem.W.EachIs IntV vs (key n :: ns.map key) := r
    cases r' with
    | cons h1 t =>
      obtain ⟨k, rfl⟩ := h1
      exact .cons ⟨[], .int _ _⟩ (each_reads t)
/-- the order of a sort by a key -/
def sortK (key : Int → Int) (ns : List Int) : List Int := ns.mergeSort (PySem.W.dataLe false fun n => PyData.int (key n))
theorem sortK_perm (key : Int → Int) (ns : List Int) : (sortK key ns).Perm ns := List.mergeSort_perm _ _
section
open PySem.W PySem.Calls
variable {prog : Program} {w : World} {A : Around} {E : Value → Shared → Prop}
theorem keyJ_rest {J : Shared → Prop} {a kS : Addr} {f : Value} {vs : List Value} {ns : List Int} {key : Int → Int} {e1 : Nat} {P : PySem.Fin → Shared → Prop} {s : Shared}
    (hv : EachIs IntV vs ns) (hJ : J s) (nk : s.heap.get? kS = some (seqObj "list" #[] 0)) (na : s.heap.get? a = some (seqObj "list" #[] e1)) (hka : kS ≠ a) (hZ : vs.length ≤ sizeLine) (hu : A.units < cLine)
    (wr : ∀ s' h' tk, J s' → (∀ b o, b ≠ kS → b ≠ a → s'.heap.get? b = some o → h'.get? b = some o) → J { s' with heap := h', toks := tk })
    (turn : ∀ (v : Value) (n : Int), n ∈ ns → IntV v n → ∀ s', J s' → (∃ o, s'.heap.get? kS = some o) → (∃ o, s'.heap.get? a = some o) → wpAny (model prog w) A (call f [v]) (fun u s'' => IntV u (key n) ∧ J s'' ∧ ∀ b, b = kS ∨ b = a → ∀ o, s'.heap.get? b = some o → s''.heap.get? b = some o) (fun _ _ => False) s')
    (h : ∀ s' out c, J s' → s'.heap.get? a = some (seqObj "list" (List.toArray out) c) → EachIs IntV out (sortK key ns) → P (.done (.ret .none)) s') :
    wpAny (model prog w) A (ksk_rest a f false vs.toArray e1 (.ref kS)) P E s := by
  unfold ksk_rest
  refine wpAny_bind (wpAny_rule ?_)
  first
    | rw [List.forIn_toArray]
    | (rw [← Array.forIn_toList]; simp only [List.toList_toArray])
    | rw [← Array.forIn_toList]
  refine wpAny_bind (ksk_fold (fun i s' => J s' ∧ ∃ kA e, s'.heap.get? kS = some (seqObj "list" kA e) ∧ s'.heap.get? a = some (seqObj "list" #[] e1) ∧ EachIs IntV kA.toList ((ns.map key).take i)) vs 0 s
    ⟨hJ, #[], 0, nk, na, by rw [List.take_zero]; exact EachIs.nil⟩ ?step ?done)
  case step =>
    rintro j x s' hx ⟨j', kA, e, nk', na', hk⟩
    simp only [Nat.zero_add] at hk ⊢
    have hj : j < vs.length := (List.getElem?_eq_some_iff.mp hx).1
    have hln : vs.length = ns.length := hv.length
    obtain ⟨n, hn⟩ : ∃ n, ns[j]? = some n := ⟨_, List.getElem?_eq_getElem (by omega)⟩
    have hxn : IntV x n := hv.zip (x, n) (List.mem_of_getElem? (i := j) (by rw [List.getElem?_zip_eq_some]; exact ⟨hx, hn⟩))
    have hz : kA.size ≤ vs.length := by
      have h1 := hk.length
      rw [Array.length_toList, List.length_take, List.length_map] at h1
      omega
    refine wpAny_bind (wpAny_attempt (wpAny_mono (turn x n (List.mem_of_getElem? hn) hxn s' j' ⟨_, nk'⟩ ⟨_, na'⟩) (fun v s'' he => ?_) fun _ _ hF => hF.elim))
    obtain ⟨hv2, j2, kp2⟩ := he
    try dsimp only
    have nk2 := kp2 kS (.inl rfl) _ nk'
    have na2 := kp2 a (.inr rfl) _ na'
    have s1 := Heap.SameBut.update s''.heap kS (Obj.mapSeq (·.push v))
    obtain ⟨c2, hc2⟩ : ∃ c2, (s''.heap.update kS (Obj.mapSeq (·.push v))).get? kS = some (seqObj "list" (kA.push v) c2) := ⟨_, get?_update_seq nk2 (·.push v)⟩
    have ek : (ns.map key).take (j + 1) = (ns.map key).take j ++ [key n] := by rw [List.take_add_one, List.getElem?_map, hn]; simp
    have ea : (kA.push v).toList = kA.toList ++ [v] := by simp
    refine wpAny_bind (listUpdate_at nk2 rfl ?_ (Nat.le_trans hz hZ) (Nat.le_trans (Nat.le_of_eq (Array.size_push ..)) (Nat.succ_le_succ (Nat.le_trans hz hZ))))
    refine wpAny_pure ⟨rfl, wr s'' _ s''.toks j2 (fun b o h1 _ q => (s1.2 b h1).trans q), kA.push v, c2, hc2, (s1.2 a hka.symm).trans na2, ?_⟩
    rw [ea, ek]
    exact each_snoc (R := IntV) hv2 hk
  case done =>
    rintro s' ⟨j', kA, e, nk', na', hk⟩
    have e3 : (ns.map key).take (0 + vs.length) = ns.map key := List.take_of_length_le (by rw [List.length_map, ← hv.length]; omega)
    rw [e3] at hk
    have hk' : EachIs (fun v k => ∃ as, Reads s'.heap v k as) kA.toList (ns.map fun n => PyData.int (key n)) := each_reads hk
    have hsz : kA.size = vs.length := by
      have h1 := hk.length
      rw [Array.length_toList, List.length_map] at h1
      rw [h1, hv.length]
    have hal : AllAlike (ns.map fun n => PyData.int (key n)) := AllAlike.of fun _ _ => by simp [alike]
    have hsk : Sortable (ns.map fun n => PyData.int (key n)) := Sortable.others fun _ => ⟨fun z => (nomatch z), fun _ z => (nomatch z)⟩
    have hd : ∀ d, d ∈ ns.map (fun n => PyData.int (key n)) → A.units + d.depth < cLine := fun d hd => by
      obtain ⟨n, _, rfl⟩ := List.mem_map.mp hd
      simpa [PyData.depth] using hu
    try dsimp only
    refine wpAny_bind (listItems_at nk' rfl ?_)
    obtain ⟨G, g1, g2⟩ := restrict s'.heap fun b => decide (b ≠ kS)
    have gk : ∀ b o, b ≠ kS → s'.heap.get? b = some o → G.get? b = some o := fun b o hb e => by
      rw [g1 b (decide_eq_true hb)]
      exact e
    have kp : KeepsBut a G s'.heap := fun b o hb e => by
      by_cases hbk : b = kS
      · rw [hbk, g2 kS (decide_eq_false fun z => z rfl)] at e
        cases e
      · rw [← g1 b (decide_eq_true hbk)]
        exact e
    exact keyH_end (s := s') (κ := dataKind s'.heap (ns.map fun n => PyData.int (key n))) (h₁ := G) kp (g2 kS (decide_eq_false fun z => z rfl)) nk' na' hka
      (SortsAt.data (s := s') hk' hal hsk hd) hsz hZ fun h3 tk3 c k3 n3 => h _ _ c (wr s' h3 tk3 j' fun b o h1 h2 q => k3 b o h2 (gk b o h1 q)) n3
        (keyedOut_each (R := IntV) (bs := ns) (fun n => PyData.int (key n)) ⟨s'.heap, kA.toList, hal, rfl, hk'⟩ hv)
theorem sortedJ {J : Addr → Shared → Prop} {l f : Addr} {vs : List Value} {ns : List Int} {key : Int → Int} {Q : Value → Shared → Prop} {s : Shared}
    (hl : s.heap.IsList l vs.toArray) (hv : EachIs IntV vs ns) (hZ : vs.length ≤ sizeLine) (hu : A.units + 2 < cLine)
    (h0 : ∀ kS h', s.heap.objs.size ≤ kS → (∀ b o, s.heap.get? b = some o → h'.get? b = some o) → J kS { s with heap := h' })
    (wr : ∀ kS s' h' tk, s.heap.objs.size ≤ kS → J kS s' → (∀ b o, b ≠ kS → b ≠ s.heap.objs.size + 1 → s'.heap.get? b = some o → h'.get? b = some o) → J kS { s' with heap := h', toks := tk })
    (turn : ∀ kS (v : Value) (n : Int), n ∈ ns → IntV v n → ∀ s', s.heap.objs.size ≤ kS → J kS s' → (∃ o, s'.heap.get? kS = some o) → (∃ o, s'.heap.get? (s.heap.objs.size + 1) = some o) → wpAny (model prog w) A.in1.in1 (call (.ref f) [v]) (fun u s'' => IntV u (key n) ∧ J kS s'' ∧ ∀ b, b = kS ∨ b = s.heap.objs.size + 1 → ∀ o, s'.heap.get? b = some o → s''.heap.get? b = some o) (fun _ _ => False) s')
    (h : ∀ kS s' out c, J kS s' → s'.heap.get? (s.heap.objs.size + 1) = some (seqObj "list" (List.toArray out) c) → EachIs IntV out (sortK key ns) → Q (.ref (s.heap.objs.size + 1)) s') :
    wpAny (model prog w) A (call (.builtin "sorted") [.ref l] [(Str.ofString "key", .ref f)]) Q E s := by
  refine sorted_of_sort hl hZ (ksk_s1 _ _) (fun _ => ksk_l1 _ _) fun E' => ?_
  rw [ksk_t1]
  have ho := copyHeap_at s.heap vs
  generalize hg : copyHeap s.heap vs = g at ho
  have hgk : ∀ b o, s.heap.get? b = some o → g.get? b = some o := fun b o q => by
    rw [← hg]
    exact copyHeap_old q
  have ha : s.heap.objs.size + 1 < g.objs.size := Heap.lt_size ho
  obtain ⟨e1, ho1⟩ : ∃ e1, (g.update (s.heap.objs.size + 1) (Obj.mapSeq fun _ => (#[] : Array Value))).get? (s.heap.objs.size + 1) = some (seqObj "list" #[] e1) := ⟨_, get?_update_seq ho fun _ => #[]⟩
  have hkS : ((g.update (s.heap.objs.size + 1) (Obj.mapSeq fun _ => (#[] : Array Value))).push (seqObj "tuple" vs.toArray 0)).objs.size = g.objs.size + 1 := by rw [size_push', Heap.size_update]
  unfold ksk_tree
  refine wpAny_bind (listItems_at ho rfl ?_)
  refine wpAny_bind (listUpdate_at ho rfl ?_ (by rw [List.size_toArray]; exact hZ) (Nat.zero_le _))
  refine wpAny_bind (seqEpoch_at ho1 rfl ?_)
  refine wpAny_bind (wpAny_newTuple ?_ (by show vs.length ≤ _; exact hZ))
  refine wpAny_bind (wpAny_newList ?_ (Nat.zero_le _))
  refine wpAny_holding ?_
  have hk2 : s.heap.objs.size ≤ ((g.update (s.heap.objs.size + 1) (Obj.mapSeq fun _ => (#[] : Array Value))).push (seqObj "tuple" vs.toArray 0)).objs.size := by
    rw [hkS]
    omega
  refine keyJ_rest (J := J (((g.update (s.heap.objs.size + 1) (Obj.mapSeq fun _ => (#[] : Array Value))).push (seqObj "tuple" vs.toArray 0)).objs.size)) (ns := ns) (key := key)
    (s := { s with heap := ((g.update (s.heap.objs.size + 1) (Obj.mapSeq fun _ => (#[] : Array Value))).push (seqObj "tuple" vs.toArray 0)).push (seqObj "list" #[] 0) })
    (kS := ((g.update (s.heap.objs.size + 1) (Obj.mapSeq fun _ => (#[] : Array Value))).push (seqObj "tuple" vs.toArray 0)).objs.size) hv ?_ (Heap.get?_push_size _ rfl) (Heap.get?_push_of_some _ (Heap.get?_push_of_some _ ho1))
    (by rw [hkS]; exact Nat.ne_of_gt (Nat.lt_succ_of_lt ha)) hZ hu (fun s' h' tk j k => wr _ s' h' tk hk2 j k) (fun v n h1 h2 s' j x1 x2 => turn _ v n h1 h2 s' hk2 j x1 x2) fun s' out c j h1 h2 => ⟨rfl, h _ s' out c j h1 h2⟩
  refine h0 _ _ hk2 fun b o q => Heap.get?_push_of_some _ (Heap.get?_push_of_some _ ?_)
  rw [Heap.get?_update_ne _ _ _ _ (Nat.ne_of_lt (Nat.lt_succ_of_lt (Heap.lt_size q)))]
  exact hgk b o q
end
end VM
namespace VM
open PySem PySem.Spec L2
open PyProof.Rows hiding St
/-! ### a lambda of one parameter that captures names of the def that makes it -/
structure LamS1 (sc scope : Scope) (a : Str) : Prop where
  kind : scope.kind = .function
  co : scope.isCoroutine = false
  gen : scope.isGenerator = false
  own : ∀ y ∈ scope.names, y.2 ≠ .cell
  par : scope.names.lookup a = some .local
  free : ∀ y ∈ scope.names, y.2 = .free → sc.names.lookup y.1 = some .cell ∨ sc.names.lookup y.1 = some .free
def lamS1B (sc scope : Scope) (a : Str) : Bool :=
  decide (scope.kind = .function) && !scope.isCoroutine && !scope.isGenerator && decide (scope.names.lookup a = some .local) && scope.names.all fun y => !decide (y.2 = .cell) && (!decide (y.2 = .free) || decide (sc.names.lookup y.1 = some .cell) || decide (sc.names.lookup y.1 = some .free))
theorem lamS1_by {sc scope : Scope} {a : Str} (h : lamS1B sc scope a = true) : LamS1 sc scope a := by
  unfold lamS1B at h
  simp only [Bool.and_eq_true, Bool.or_eq_true, Bool.not_eq_true', decide_eq_true_eq, decide_eq_false_iff_not, List.all_eq_true] at h
  obtain ⟨⟨⟨⟨h1, h2⟩, h3⟩, h5⟩, h4⟩ := h
  refine ⟨h1, h2, h3, fun y hy => (h4 y hy).1, h5, fun y hy e => ?_⟩
  rcases (h4 y hy).2 with (z | z) | z
  · exact absurd e z
  · exact .inl z
  · exact .inr z
def lamCx1 (X : Cx) (A : Around) (outer : List Env) (s : Shared) (H : Hp) (E : XK) (scope : Scope) (f c' : Addr) (N : List Str) : Cx := { LamX.lamCx X A outer s H E scope f c' with N := N }
section
variable {X : Cx} {pins : List (Addr × Obj)} {σ : L2.St} {H HZ : Hp} {s s1 : Shared}
theorem LamS1.has {scope : Scope} {a : Str} (L : LamS1 X.env.scope scope a) (ok : X.Ok) : ∀ y ∈ scope.names, y.2 = .free → ∃ c, X.env.cells.lookup y.1 = some c := fun y hy e => by
  rcases L.free y hy e with k | k
  · exact ok.has _ (.inl k)
  · exact ok.has _ (.inr k)
theorem lam_start3 {A : Around} {outer : List Env} {E : XK} {scope : Scope} {f c' : Addr} {h₁ : Heap} {tk : Nat} {a : Str} {u : Value} {v : V} {caps : List (Str × Nat)} (I : Inv X pins σ H s) (L : LamS1 X.env.scope scope a) (e0 : Env0 X.prog X.w X.K X.mg X.base A outer s H) (hd : A.handled = none)
    (hns : h₁.Ns s.heap.objs.size fun y => [(a, u)].reverse.lookup y) (kp : ∀ b o, s.heap.get? b = some o → h₁.get? b = some o) (ru : RelV v u)
    (hcap : ∀ p ∈ caps, X.N[p.2]? = some p.1 ∧ scope.names.lookup p.1 = some .free) :
    Inv (lamCx1 X A outer s H E scope f c' (a :: caps.map (·.1))) [] (some v :: caps.map fun p => (σ[p.2]?).join) H { s with heap := h₁, toks := tk } := by
  have hfree := L.has I.ok
  have cm : ∀ {y c}, (cloFrom X.env.cells scope.names []).lookup y = some c → X.env.cells.lookup y = some c := fun {y c} e => by
    rcases cloFrom_mem (PySem.mem_of_lookup e) with hm | ⟨h1, h2⟩
    · cases hm
    · obtain ⟨c1, hc⟩ := hfree _ h1 rfl
      have hc : X.env.cells.lookup y = some c1 := hc
      have e2 : c = c1 := by
        rw [h2, hc] <;> rfl
      rw [e2]
      exact hc
  have look : ∀ {y}, scope.names.lookup y = some .free → ∃ c, (cloFrom X.env.cells scope.names []).lookup y = some c := fun {y} hl => by
    have hy : (y, NameKind.free) ∈ scope.names := PySem.mem_of_lookup hl
    exact mem_lookup (cloFrom_has (cells := X.env.cells) (acc := []) hy)
  have cellK : ∀ {c : Addr} {v : Option Value}, s.heap.IsCell c v → h₁.IsCell c v := fun {c v} ⟨o, ho, hd⟩ => ⟨o, kp _ _ ho, hd⟩
  have noA : ∀ b : Addr, b ∉ (lamCx1 X A outer s H E scope f c' (a :: caps.map (·.1))).ex := fun b z => absurd (show b ∈ ([] : List Addr) from z) (by simp)
  refine ⟨⟨e0.mod, L.kind, rfl, rfl, Nat.le_refl _, fun y z c e1 e2 => I.ok.inj y z c (cm e1) (cm e2), fun y hy => ?_, fun y c z _ => ?_, fun _ => hd, Around.frames_deeper e0.frames, .inr ⟨rfl, rfl⟩, fun b z => absurd z (noA b), e0.bs, e0.bsz, fun b _ _ => noA b,
      fun b z => absurd z (noA b), e0.funs, e0.frf⟩,
    rfl, e0.bare, Un.kept kp, ⟨_, hns, fun i y z e1 e2 e3 => ?_⟩, fun y c e => ?_, e0.hok.fresh (Nat.le_refl _), fun y c e => ?_, fun q hq => absurd (show q ∈ ([] : List (Addr × Obj)) ++ [] from hq) (by simp), e0.hok.kept kp, ?_⟩
  · have hy : scope.names.lookup y = some .cell ∨ scope.names.lookup y = some .free := hy
    rcases hy with hy | hy
    · exact absurd rfl (L.own _ (PySem.mem_of_lookup hy))
    · exact look hy
  · have z : false = true := z
    cases z
  · cases i with
    | zero =>
      have e1 : some a = some y := e1
      have e2 : some (some v) = some (some z) := e2
      cases e1
      cases e2
      refine ⟨u, ru, .inl ⟨L.par, ?_⟩⟩
      show ([(a, u)] : List (Str × Value)).lookup a = some u
      simp [List.lookup]
    | succ i =>
      have e1 : (caps.map (·.1))[i]? = some y := e1
      have e2 : (caps.map fun p => (σ[p.2]?).join)[i]? = some (some z) := e2
      rw [List.getElem?_map] at e1 e2
      cases q : caps[i]? with
      | none =>
        rw [q] at e1
        cases e1
      | some p =>
        rw [q] at e1 e2
        have e1 : some p.1 = some y := e1
        have e2 : some ((σ[p.2]?).join) = some (some z) := e2
        cases e1
        obtain ⟨hN, k⟩ := hcap p (List.mem_of_getElem? q)
        have e4 : (σ[p.2]?).join = some z := Option.some.inj e2
        have e5 : σ[p.2]? = some (some z) := by
          cases q2 : σ[p.2]? with
          | none =>
            rw [q2] at e4
            cases e4
          | some r =>
            rw [q2] at e4
            have e4 : r = some z := e4
            rw [e4]
        obtain ⟨m, hn, hl⟩ := I.loc
        have hvis : Vis X.env.scope p.1 := (L.free _ (PySem.mem_of_lookup k) rfl).elim (fun k => .inr (.inl k)) (fun k => .inr (.inr k))
        obtain ⟨w', r, qq⟩ := hl p.2 p.1 z hN e5 hvis
        obtain ⟨c2, h2⟩ := look k
        refine ⟨w', r, .inr ⟨.inr k, c2, h2, ?_⟩⟩
        have c1 := cm h2
        rcases qq with ⟨k', _⟩ | ⟨_, c3, e', zz⟩
        · have k' : X.env.scope.names.lookup p.1 = some .local := k'
          rcases L.free _ (PySem.mem_of_lookup k) rfl with k2 | k2 <;> rw [show X.env.scope.names.lookup p.1 = _ from k2] at k' <;> cases k'
        · rw [c1] at e'
          cases e'
          exact cellK zz
  · obtain ⟨w', z⟩ := I.cell y c (cm e)
    exact ⟨w', cellK z⟩
  · exact I.freeC y c (cm e)
  · show (some v :: caps.map fun p => (σ[p.2]?).join).length = (a :: caps.map (·.1)).length
    simp
end
/-! ### the code object's table as a chunk -/
/-- the table stands at P, with the code objects of lambdas named q -/
def TabP (P : Addr) (q : Str) (C : Chunk) : Prop := ∃ (ps : Array Value) (cs : Chunk), C = (P, .tbl ps) :: cs ∧ TriplesOk ps.toList ∧ ∀ (pos : Pos) (cv : Value), codeAmong pos ps.toList = some cv → ∃ c, cv = .ref c ∧ (c, LamX.CodeO c q) ∈ cs
theorem TabP.nil {P : Addr} {q : Str} : TabP P q [(P, .tbl #[])] := ⟨#[], [], rfl, True.intro, fun pos cv hc => by
  have z : codeAmong pos [] = some cv := hc
  simp [codeAmong] at z⟩
section
variable {X : Cx} {pins : List (Addr × Obj)} {σ : L2.St} {H : Hp} {s : Shared}
open LamX
theorem lam_make3 {c P : Addr} {params : Arguments} {body : Expr} {scope : Scope} {pos : Pos} {E : Value → Shared → Prop} {Q : Value → Shared → Prop} {C : Chunk} {R : Lg} (I : Inv X pins σ H s) (TB : TabB X.base X.mg c P) (hcode : X.env.code = .ref c)
    (hL : Led H (C :: R)) (hT : TabP P (X.env.qual ++ "<lambda>") C) (hdef : defaultsOf params X.env = ([], [])) (hfree : ∀ y ∈ scope.names, y.2 = .free → ∃ c, X.env.cells.lookup y.1 = some c)
    (h : ∀ (f c' : Addr) (pm ctv : Value) (H1 : Hp) (s' : Shared) (C' : Chunk), Inv X pins σ H1 s' → Led H1 (C' :: R) → TabP P (X.env.qual ++ "<lambda>") C' →
      s'.heap.get? f = some (PySem.W.kla_obj "<lambda>" (X.env.qual ++ "<lambda>") params body scope (cloFrom X.env.cells scope.names []) pm c' ctv) → H1 f = none → f ∉ frs X.stack → f < s'.heap.objs.size → (c', CodeO c' (X.env.qual ++ "<lambda>")) ∈ C' → Q (.ref f) s') :
    wpAny (model X.prog X.w) X.A (eval (.Lambda params body scope pos) X.env) Q E s := by
  obtain ⟨ps, cs, rfl, ht, ha⟩ := hT
  have hP : H P = some (.tbl ps) := hL.get _ List.mem_cons_self _ List.mem_cons_self
  refine PySem.W.kla_eval hdef ?_
  have bP : s.heap.BuiltinsAt X.mg P := TB.bm.keeps I.bk
  have hP' : s.heap.get? P = some { cls := .none, data := .fields ps } := I.hok P _ hP
  have nofr : ∀ f, s.heap.objs.size ≤ f → f ∉ frs X.stack := fun f hf z => by
    rcases List.mem_cons.mp (I.stkSub _ z) with e | e
    · have h1 := I.lt
      rw [← e] at h1
      exact Nat.lt_irrefl _ (Nat.lt_of_lt_of_le h1 hf)
    · exact I.nofs hf e
  cases hc : codeAmong pos ps.toList with
  | none =>
    refine PySem.W.kla_makeFunction (mg := X.mg) (c := c) (P := P) (ps := ps) (closure_ok hfree) I.ok.glob (I.mod.glob.keeps I.bk) hcode (TB.code.keeps I.bk) hP' ht hc TB.gP bP fun c' ctv h' tk hx hge hlt hrec htb => ?_
    obtain ⟨c2, oc, vs, t, e2, hoc, hd, hv⟩ := hrec
    cases e2
    have hsz : s.heap.objs.size ≤ h'.objs.size := Nat.le_trans hge (Nat.le_of_lt hlt)
    have nC : H c' = none := I.hok.fresh hge
    have I1 := inv_table (t' := tk) (more := #[rawInt pos.line, rawInt pos.col, .ref c']) (h' := h'.push (PySem.W.kla_obj "<lambda>" (X.env.qual ++ "<lambda>") params body scope (cloFrom X.env.cells scope.names []) ((X.mg "__name__").getD .none) c' ctv)) I hP
      (fun b o hb e => Heap.get?_push_of_some _ (hx b o hb e)) (Heap.get?_push_of_some _ htb) hge ⟨oc, vs, t, Heap.get?_push_of_some _ hoc, hd, hv⟩
    have eL : (ps ++ #[rawInt pos.line, rawInt pos.col, .ref c']).toList = ps.toList ++ [rawInt pos.line, rawInt pos.col, .ref c'] := by simp
    have l1 : Led (upd H P (.tbl (ps ++ #[rawInt pos.line, rawInt pos.col, .ref c']))) (((P, .tbl (ps ++ #[rawInt pos.line, rawInt pos.col, .ref c'])) :: cs) :: R) := Led.put (A := []) (B := cs) (i := 0) (o := .tbl ps) hL rfl
    have nPc : P ≠ c' := ne_of_none hP nC
    have l2 := l1.new (o := CodeO c' (X.env.qual ++ "<lambda>")) (show upd H P (.tbl (ps ++ #[rawInt pos.line, rawInt pos.col, .ref c'])) c' = none by rw [upd_ne (Ne.symm nPc)]; exact nC)
    have l3 : Led (upd (upd H P (.tbl (ps ++ #[rawInt pos.line, rawInt pos.col, .ref c']))) c' (CodeO c' (X.env.qual ++ "<lambda>"))) (((P, .tbl (ps ++ #[rawInt pos.line, rawInt pos.col, .ref c'])) :: (c', CodeO c' (X.env.qual ++ "<lambda>")) :: cs) :: R) := by
      refine Lic.permFlat ?_ _ l2
      simp only [List.flatten_cons, List.cons_append, List.nil_append]
      exact List.Perm.swap _ _ _
    refine h h'.objs.size c' ((X.mg "__name__").getD .none) ctv _ _ _ I1 l3 ⟨_, _, rfl, by rw [eL]; exact PySem.TriplesOk_snoc _ _ _ _ ht, fun p' cv hcv => ?_⟩ (Heap.get?_push_size _ rfl) ?_ (nofr _ hsz) ?_ (List.mem_cons_of_mem _ List.mem_cons_self)
    · rw [eL] at hcv
      rcases among_app _ ht hcv with z | z
      · obtain ⟨c0, e1, e2⟩ := ha p' cv z
        exact ⟨c0, e1, List.mem_cons_of_mem _ e2⟩
      · exact ⟨c', z, List.mem_cons_self⟩
    · have n1 : h'.objs.size ≠ c' := Nat.ne_of_gt hlt
      have n2 : h'.objs.size ≠ P := Nat.ne_of_gt (Nat.lt_of_lt_of_le (Heap.lt_size hP') hsz)
      rw [upd_ne n1, upd_ne n2]
      exact I.hok.fresh hsz
    · show h'.objs.size < (h'.push _).objs.size
      rw [size_push']
      exact Nat.lt_succ_self _
  | some cv =>
    obtain ⟨c', e, hco⟩ := ha pos cv hc
    subst e
    refine PySem.W.kla_makeFunctionHit (mg := X.mg) (c := c) (P := P) (ps := ps) (closure_ok hfree) I.ok.glob (I.mod.glob.keeps I.bk) hcode (TB.code.keeps I.bk) hP' ht hc bP fun ctv h' tk hx hsz => ?_
    have I1 : Inv X pins σ H { s with heap := h'.push (PySem.W.kla_obj "<lambda>" (X.env.qual ++ "<lambda>") params body scope (cloFrom X.env.cells scope.names []) ((X.mg "__name__").getD .none) c' ctv), toks := tk } := I.kept fun b o e => Heap.get?_push_of_some _ (hx b o e)
    refine h h'.objs.size c' ((X.mg "__name__").getD .none) ctv H _ _ I1 hL ⟨ps, cs, rfl, ht, ha⟩ (Heap.get?_push_size _ rfl) (I.hok.fresh hsz) (nofr _ hsz) ?_ (List.mem_cons_of_mem _ hco)
    show h'.objs.size < (h'.push _).objs.size
    rw [size_push']
    exact Nat.lt_succ_self _
end
def noE : XK := fun _ _ _ => False
/-- the key's reading over the items -/
def LamK (te : LTE) (σ : L2.St) (is : List Nat) (L : Lg) (key : Int → Int) (ns : List Int) : Prop := ∀ n ∈ ns, te (some (.int n) :: is.map fun i => (σ[i]?).join) L fun v L' => v = .int (key n) ∧ Lic L' L
def SortLamK (K : PySem.W.Frag) (te : LTE) (is : List Nat) (P : Addr) (q : Str) (σ : L2.St) (Q : LVK) : V → Lg → Prop := fun x L1 => ∃ (a : Addr) (ns : List Int) (key : Int → Int) (C : Chunk) (R : Lg), x = .ref a ∧ Lic L1 (C :: R) ∧ TabP P q C ∧ ∀ C', TabP P q C' →
  IsL K (C' :: R) a (ns.map .int) ∧ LamK te σ is (C' :: R) key ns ∧ ∀ p, Wk (Q (.ref p)) ([(p, .lst ((sortK key ns).map .int))] :: C' :: R)
def lSortLam (K : PySem.W.Frag) (tx te : LTE) (is : List Nat) (P : Addr) (q : Str) : LTE := fun σ L Q => tx σ L (SortLamK K te is P q σ Q)
theorem each_ints : ∀ {vs : List Value} {ns : List Int}, PySem.W.EachIs IntV vs ns → Vals (ns.map V.int) vs
  | _, _, .nil => .nil
  | _, _, .cons ⟨t, e⟩ r => .cons ⟨t, e⟩ (each_ints r)
section
open LamX
def lamQ (x : Str) : Str := x ++ ".<locals>." ++ "<lambda>"
theorem lsortLam {X : Cx} {x : Expr} {tx te : LTE} {p lpos pos kpos : Pos} {params : Arguments} {body : Expr} {scope : Scope} {a : Str} {caps : List (Str × Nat)} {c P : Addr} {k : Nat} (K : PySem.W.Frag) (q : Str) (is : List Nat)
    (TB : TabB X.base X.mg c P) (hcode : X.env.code = .ref c) (hr : Room (k + 3) X.A) (hg : Gl X "sorted") (hm : X.mg "sorted" = none) (L : LamS1 X.env.scope scope a) (hcap : ∀ p ∈ caps, X.N[p.2]? = some p.1 ∧ scope.names.lookup p.1 = some .free)
    (hdef : defaultsOf params X.env = ([], []))
    (hbind : ∀ (q : Str) (cl : List (Str × Addr)) (pm cv ctv u : Value), bindArgs (PySem.W.kla_fn "<lambda>" q params body scope cl pm cv ctv) ⟨[u], []⟩ = pure [(a, u)])
    (hx : LE X x tx)
    (hbody : ∀ (A : Around) (outer : List Env) (s : Shared) (H : Hp) (E : XK) (f c' : Addr), Room k (A.deeper (lamEnv X scope s.heap.objs.size f c')) → LE (lamCx1 X A outer s H E scope f c' (a :: caps.map (·.1))) body te)
    (his : caps.map (·.2) = is := by rfl) (hK : X.K = K := by rfl) (hq : X.env.qual ++ "<lambda>" = q := by rfl)
    (hs1 : starEach [x] X.env = (false, eval x X.env) :: starEach [] X.env := by rfl)
    (he : backTo pos (starEach [x] X.env) = (false, eval x X.env) :: backTo pos (starEach [] X.env) := by rfl) (hpl : (backTo pos (starEach [x] X.env)).any (·.1) = false := by rfl)
    (hall : (backToKw pos (keywordEach [⟨some (Str.ofString "key"), .Lambda params body scope lpos, kpos⟩] X.env)).all (·.1.isSome) = true := by rfl) (hnone : (backToKw pos (keywordEach [⟨some (Str.ofString "key"), .Lambda params body scope lpos, kpos⟩] X.env)).any (·.1.isNone) = false := by rfl)
    (hks : (backToKw pos (keywordEach [⟨some (Str.ofString "key"), .Lambda params body scope lpos, kpos⟩] X.env)).filterMap (·.1) = [Str.ofString "key"] := by rfl) :
    LE X (.Call (.Name "sorted" p) [x] [⟨some (Str.ofString "key"), .Lambda params body scope lpos, kpos⟩] pos) (lSortLam K tx te is P q) := by
  subst his hK hq
  refine ⟨fun pins s σ H Q I h => ?_⟩
  obtain ⟨Lg, QL, hL, h, kk⟩ := h
  refine wpAny_Call_Name_kw (ld_blt I hg hm (show bootBuiltins "sorted" = some (.builtin "sorted") by decide +kernel) ?_)
  refine PyProof.Rows.callWith_kw (thn ((la_cons hx la_nil hs1).run pos pins s σ H (fun vs H1 => ∃ L1, Led H1 L1 ∧ (match vs with | [x1] => SortLamK X.K te (caps.map (·.2)) P (X.env.qual ++ "<lambda>") σ QL x1 L1 | _ => False)) I ⟨Lg, fun vs L1 => (match vs with | [x1] => SortLamK X.K te (caps.map (·.2)) P (X.env.qual ++ "<lambda>") σ QL x1 L1 | _ => False), hL, h, fun vs L1 H1 h1 l1 => ⟨L1, l1, h1⟩⟩) fun us s1 ⟨vs, H1, I1, r1, q1⟩ => ?_) he hpl hall hnone
  obtain ⟨L1, l1, q1⟩ := q1
  cases vs with
  | nil => exact q1.elim
  | cons x1 vr =>
    cases vr with
    | cons x2 vr2 => exact q1.elim
    | nil =>
      have q1 : SortLamK X.K te (caps.map (·.2)) P (X.env.qual ++ "<lambda>") σ QL x1 L1 := q1
      obtain ⟨l, ns, key, C, R, rfl, hlic, hT, q1⟩ := q1
      obtain rfl := Vals.ref1 r1
      show wpAny _ _ (evalAll ((do let v ← eval (.Lambda params body scope lpos) X.env; standAt pos; pure v) :: (backToKw pos (keywordEach [] X.env)).map (·.2))) _ _ s1
      refine wpAny_evalAll_cons (wpAny_bind (lam_make3 I1 TB hcode (hlic _ l1) hT hdef (L.has I1.ok) fun f c' pm ctv H2 s2 C' I2 l2 hT2 hf hfn hfr hfs hco => wpAny_bind (wpAny_standAt (wpAny_pure (wpAny_evalAll_nil ?_)))))
      rw [hks]
      show wpAny _ _ (call (.builtin "sorted") [.ref l] [(Str.ofString "key", .ref f)]) _ _ s2
      obtain ⟨q2, q3, q4⟩ := q1 C' hT2
      obtain ⟨its, rv, hl, hz⟩ := I2.list (q2 _ l2)
      have hv := each_intV rv.ints
      have hcoH : ∀ H', Led H' (C' :: R) → H' c' = some (CodeO c' (X.env.qual ++ "<lambda>")) := fun H' l => l.get _ List.mem_cons_self _ hco
      have hcl : c' ∈ keys (C' :: R) := mem_keys.mpr ⟨C', List.mem_cons_self, _, hco, rfl⟩
      refine sortedJ (J := fun kS s' => ∃ H', Inv X pins σ H' s' ∧ Led H' (C' :: R) ∧ FpOk X pins H' kS ∧ FpOk X pins H' (s2.heap.objs.size + 1) ∧
          s'.heap.get? f = some (PySem.W.kla_obj "<lambda>" (X.env.qual ++ "<lambda>") params body scope (cloFrom X.env.cells scope.names []) pm c' ctv) ∧ H' f = none) (ns := ns) (key := key) hl.isList hv (by rw [← rv.length]; exact hz) (by have := hr.un; omega) ?h0 ?wr ?turn ?fin
      case h0 =>
        intro kS h' hk kp
        exact ⟨H2, I2.kept (t' := s2.toks) kp, l2, I2.fpOk hk (I2.hok.fresh hk), I2.fpOk (Nat.le_succ _) (I2.hok.fresh (Nat.le_succ _)), kp _ _ hf, hfn⟩
      case wr =>
        rintro kS s' h' tk hk ⟨H', I', l', f1, f2, hf', hfn'⟩ kp
        refine ⟨H', I'.turnedL (ch := [kS, s2.heap.objs.size + 1]) (fun b o hb e => kp b o (fun z => hb (by simp [z])) (fun z => hb (by simp [z])) e) (fun b hb => ?_), l', f1, f2, kp f _ (fun z => ?_) (fun z => ?_) hf', hfn'⟩
        · rcases List.mem_cons.mp hb with rfl | hb
          · exact f1
          · rw [List.mem_singleton.mp hb]
            exact f2
        · exact Nat.ne_of_lt (Nat.lt_of_lt_of_le hfs hk) z
        · exact Nat.ne_of_lt (Nat.lt_succ_of_lt hfs) z
      case turn =>
        rintro kS v n hn hvn s' hk ⟨H', I', l', f1, f2, hf', hfn'⟩ ⟨o1, x1⟩ ⟨o2, x2⟩
        have nfr : ∀ b, FpOk X pins H' b → b ∉ frs X.stack := fun b fb z => by
          rcases List.mem_cons.mp (I'.stkSub _ z) with e | e
          · exact fb.2.1 e
          · exact fb.2.2.1 e
        have hr1 : Room (k + 1) X.A.in1.in1 := (Room.in1 (k := k + 2) hr).in1
        obtain ⟨⟨oc, vs, t, hoc, hdc, hvc⟩, _, _⟩ := I'.hok c' _ (hcoH _ l')
        have e0 : Env0 X.prog X.w X.K X.mg X.base X.A.in1.in1 X.stack s' H' := I'.env0.in1.in1
        have rc : codeAny (model X.prog X.w) X.A.in1.in1 (.call (.ref f) ⟨[v], []⟩) (CR (L2.CX X.prog X.w) X.stack X.prog X.w H' s' (fun u H'' => u = .int (key n) ∧ Led H'' (C' :: R)) noE) s' := by
          refine PySem.W.kla_callFunE hr1.depth hf' rfl L.co L.gen rfl ⟨c', oc, vs, t, rfl, hoc, hdc, hvc⟩ ?_
          rw [hbind]
          refine wpAny_pure (wpAny_newFunctionEnv (fun y hy => L.own y hy) (fun y hy => by rw [List.mem_singleton.mp hy]; exact L.par) (fun h₁ hns hsb => ⟨I'.nolimit.fresh _ hsb, ?_⟩) L.kind)
          show codeAny _ _ (.expr body (lamEnv X scope s'.heap.objs.size f c')) _ _
          have kp : ∀ b o, s'.heap.get? b = some o → h₁.get? b = some o := fun b o e => hsb.extBut b o (Nat.ne_of_lt (Heap.lt_size e)) (Heap.get?_push_of_some _ e)
          have J3 : Inv (lamCx1 X X.A.in1.in1 X.stack s' H' noE scope f c' (a :: caps.map (·.1))) [] (some (.int n) :: caps.map fun p => (σ[p.2]?).join) H' { s' with heap := h₁, toks := s'.toks + ([(a, v)] : List (Str × Value)).length } :=
            lam_start3 I' L e0 hr1.hd hns kp hvn hcap
          have hq3 := q3 n hn
          rw [List.map_map] at hq3
          refine PySem.W.kla_codeExpr (wpAny_mono ((hbody X.A.in1.in1 X.stack s' H' noE f c' (hr1.deeper _)).run [] _ _ H' (fun u H'' => u = .int (key n) ∧ Led H'' (C' :: R)) J3 ⟨_, _, l', hq3, fun u L' H'' hu hl'' => ⟨hu.1, hu.2 _ hl''⟩⟩) (fun u s'' hq => ?_) fun e s'' hq => hq)
          obtain ⟨w', H'', J', rv', q⟩ := hq
          exact ⟨w', H'', J'.os, J'.bare, J'.base, J'.hok, rv', q⟩
        refine wpAny_call (codeAny_mono rc fun r s'' hq => ?_)
        cases r with
        | error e =>
          have hq : L2.CX X.prog X.w X.stack H' s' noE e s'' := hq
          obtain ⟨_, _, _, _, _, _, _, _, _, _, _, _, z⟩ := hq
          exact z.elim
        | ok fl =>
          cases fl with
          | next => exact False.elim hq
          | brk => exact False.elim hq
          | cont => exact False.elim hq
          | ret u =>
            obtain ⟨v', H'', os, bare, un, hok, rv', rfl, l''⟩ := hq
            have I'' : Inv X pins σ H'' s'' := I'.call' (ch := []) os un hok bare (fun b z => absurd z (by simp))
            have kp : ∀ b, FpOk X pins H' b → ∀ o, s'.heap.get? b = some o → s''.heap.get? b = some o := fun b fb o e => un.keep b o e fb.1 (nfr b fb) (by simp)
            refine ⟨rv', ⟨H'', I'', l'', ⟨?_, f1.2⟩, ⟨?_, f2.2⟩, un.keep f _ hf' hfn' hfr (by simp), un.free f _ hf' hfn' (by simp)⟩, fun b hb => ?_⟩
            · exact un.free _ _ x1 f1.1 (by simp)
            · exact un.free _ _ x2 f2.1 (by simp)
            · rcases hb with rfl | rfl
              · exact kp _ f1
              · exact kp _ f2
      case fin =>
        rintro kS s' out c2 ⟨H', I', l', f1, f2, hf', hfn'⟩ ho he'
        have hlen : ((sortK key ns).map V.int).length ≤ sizeLine := by
          rw [List.length_map, (sortK_perm key ns).length_eq]
          rw [List.length_map] at hz
          exact hz
        have l3 := l'.new (o := .lst ((sortK key ns).map V.int)) f2.1
        obtain ⟨L4, lc, q5⟩ := q4 (s2.heap.objs.size + 1)
        refine ⟨.ref (s2.heap.objs.size + 1), upd H' (s2.heap.objs.size + 1) (.lst ((sortK key ns).map V.int)), I'.take (h' := s'.heap) (t' := s'.toks) (fun _ _ _ e => e) f2 ⟨hlen, out, c2, each_ints he', ho⟩, rfl, kk _ _ _ q5 (lc _ l3)⟩
end
theorem s_sortLam {K : PySem.W.Frag} {tx te : LTE} {is : List Nat} {P : Addr} {q : Str} {σ : L2.St} {L : Lg} {Q : LVK} (h : tx σ L (SortLamK K te is P q σ Q)) : lSortLam K tx te is P q σ L Q := h
theorem s_sortK {K : PySem.W.Frag} {te : LTE} {is : List Nat} {P : Addr} {q : Str} {σ : L2.St} {L : Lg} {Q : LVK} {a : Addr} {ns : List Int} {C : Chunk} {R : Lg} (key : Int → Int) (hl : Pull C L R) (hT : TabP P q C) (hx : ∀ C', IsL K (C' :: R) a (ns.map .int))
    (hk : ∀ C' n, n ∈ ns → te (some (.int n) :: is.map fun i => (σ[i]?).join) (C' :: R) fun v L' => v = .int (key n) ∧ Lic L' (C' :: R))
    (hd : ∀ C' p, TabP P q C' → Wk (Q (.ref p)) ([(p, .lst ((sortK key ns).map .int))] :: C' :: R)) : SortLamK K te is P q σ Q (.ref a) L :=
  ⟨a, ns, key, C, R, rfl, (LicS.pull hl LicS.refl).lic, hT, fun C' hT' => ⟨hx C', fun n hn => hk C' n hn, fun p => hd C' p hT'⟩⟩
end VM
namespace VM
open PySem PySem.Spec L2
open PyProof.Rows hiding St
def capsOk (N : List Str) (scope : Scope) (caps : List (Str × Nat)) : Bool := caps.all fun p => decide (N[p.2]? = some p.1) && decide (scope.names.lookup p.1 = some .free)
theorem capsOk_by {N : List Str} {scope : Scope} {caps : List (Str × Nat)} (h : capsOk N scope caps = true) : ∀ p ∈ caps, N[p.2]? = some p.1 ∧ scope.names.lookup p.1 = some .free := fun p hp => by
  unfold capsOk at h
  have h1 := List.all_eq_true.mp h p hp
  simp only [Bool.and_eq_true, decide_eq_true_eq] at h1
  exact h1
/-- a def whose code object is known -/
theorem fn_okL {P : Program} {w : World} {K : PySem.W.Frag} {mg : Str → Option Value} {base : Heap} {y qual : Str} {params : Arguments} {body : List Stmt} {scope : Scope} {dvs : List V} {kws : List (Str × V)} {p : He.Defn} {fd : FuncData} {N qs : List Str} {j : Nat} {sp' : LSp}
    (F : FunD K y qual params body scope dvs kws (He.fAd K p) fd) (S : FnScope N qs scope) (len : ∀ vs L Q E, sp' vs L Q E → vs.length = qs.length)
    (hbody : ∀ (A : Around) (outer : List Env) (s : Shared) (H : Hp) (E : XK), Room j (A.deeper (envOfC qual scope s.heap.objs.size (He.fAd K p) (.ref (He.cT K p).1))) →
      ∃ t, LSs (cxOf CX0 P w K mg base N qual scope (He.fAd K p) (.ref (He.cT K p).1) A outer s H E).nox body t ∧ ∀ vs L Q EL σ, sp' vs L Q EL → start N vs = σ → t ⟨fun _ => Wk (Q .non), Q, fun _ _ => False, fun _ _ => False⟩ σ L) : FnOk P w K mg base CX0 (j + 1) (He.fAd K p) fd qs (UpP sp') := by
  obtain ⟨oc, od, dV, kV, doc, pm, an, cdv, ct, osl, rfl, lk, hcd, _, _⟩ := F.ex
  obtain ⟨c, rfl⟩ := He.codeIn_ref hcd
  have e : He.codeOf K p = c := He.codeOf_eq lk rfl
  have hb : ∀ (A : Around) (outer : List Env) (s : Shared) (H : Hp) (E : XK), Room j (A.deeper (envOfC qual scope s.heap.objs.size (He.fAd K p) (.ref c))) →
      ∃ t, LSs (cxOf CX0 P w K mg base N qual scope (He.fAd K p) (.ref c) A outer s H E).nox body t ∧ ∀ vs L Q EL σ, sp' vs L Q EL → start N vs = σ → t ⟨fun _ => Wk (Q .non), Q, fun _ _ => False, fun _ _ => False⟩ σ L := by
    intro A outer s H E hr
    have hbb := hbody A outer s H E
    rw [show (He.cT K p).1 = c from e] at hbb
    exact hbb hr
  refine fn_of lk hcd S (UpP.len len) fun A outer s H vs Q E hr h => ?_
  obtain ⟨t, ht, hq⟩ := hb A outer s H E hr
  obtain ⟨L, QL, EL, hL, hs, k1, k2⟩ := h
  exact ⟨_, PSs.nox ht, L, _, hL, hq vs L QL EL _ hs rfl, ⟨fun σ' L' H' ⟨L2, l2, q⟩ l => k1 _ _ _ q (l2 _ l), fun v L' H' q l => k1 _ _ _ q l, fun _ _ _ z => z.elim, fun _ _ _ z => z.elim⟩⟩
/-! ### the law's start with tables -/
def tabsL (ps : List Addr) : Lg := ps.map fun P => [(P, HO.tbl #[])]
def spTrueT (K : PySem.W.Frag) (n : Nat) (ps : List Addr) : LSp := sp1 fun a L Q => ∃ c p ns, a = .ref p ∧ Scr K c p ns ∧ L = c :: tabsL ps ∧ ns.length ≤ n ∧ ∀ L', Q (.bl true) L'
theorem all_map {α β : Type} {f : α → β} {P : β → Prop} {l : List α} (h : ∀ p ∈ l, P (f p)) : ∀ q ∈ l.map f, P q := fun q hq => by
  obtain ⟨p, hp, rfl⟩ := List.mem_map.mp hq
  exact h p hp
theorem tab_map {H : Hp} {K : PySem.W.Frag} {tf : List He.Defn} (hT : ∀ p ∈ tf.map (He.cT K), H p.2 = some (.tbl #[])) {P : Addr} (h : P ∈ tf.map fun p => (He.cT K p).2) : H P = some (.tbl #[]) := by
  obtain ⟨p, hp, rfl⟩ := List.mem_map.mp h
  exact hT _ (List.mem_map.mpr ⟨p, hp, rfl⟩)
theorem keys_tabs : ∀ ps : List Addr, keys (tabsL ps) = ps
  | [] => rfl
  | p :: ps => by
    show keys ([(p, HO.tbl #[])] :: tabsL ps) = p :: ps
    rw [keys_cons, keys_tabs ps]
    rfl
theorem law_saysT {K : PySem.W.Frag} {n : Nat} {H : Hp} {a : Addr} {ns : List Int} {ps : List Addr} (hl : ns.length ≤ n) (hnd : ps.Nodup) (hT : ∀ P ∈ ps, H P = some (.tbl #[])) (hS : SqL K H a (ns.map V.int)) : UpP (spTrueT K n ps) [.ref a] H (fun v _ => v = .bl true) fun _ _ _ => False := by
  have go : ∀ c : Chunk, Led H (c :: tabsL ps) → Scr K c a ns → UpP (spTrueT K n ps) [.ref a] H (fun v _ => v = .bl true) fun _ _ _ => False := fun c l s =>
    ⟨_, fun v _ => v = .bl true, noX, l, ⟨_, rfl, c, a, ns, rfl, s, rfl, hl, fun _ => rfl⟩, fun _ _ _ q _ => q, fun _ _ _ _ q _ => q⟩
  have tabs : Led H (tabsL ps) := ⟨fun c hc x hx => by
    obtain ⟨P, hP, rfl⟩ := List.mem_map.mp hc
    obtain rfl := List.mem_singleton.mp hx
    exact hT P hP, by rw [keys_tabs]; exact hnd⟩
  have one : ∀ o : HO, H a = some o → (∀ z, o ≠ .tbl z) → Led H ([(a, o)] :: tabsL ps) := fun o e ne => ⟨fun c hc x hx => by
    rcases List.mem_cons.mp hc with rfl | hc
    · obtain rfl := List.mem_singleton.mp hx
      exact e
    · exact tabs.get c hc x hx, by
    rw [keys_cons, keys_tabs]
    refine List.nodup_cons.mpr ⟨fun z => ?_, hnd⟩
    have q := hT a z
    rw [e] at q
    exact ne _ (Option.some.inj q)⟩
  rcases hS with (e | ⟨o, e⟩) | e
  · exact go _ (one _ e fun z q => nomatch q) fun H' l => .inl (.inl (l.get _ List.mem_cons_self _ List.mem_cons_self))
  · exact go _ (one _ e fun z q => nomatch q) fun H' l => .inl (.inr ⟨o, l.get _ List.mem_cons_self _ List.mem_cons_self⟩)
  · exact go [] ⟨fun c hc x hx => by
      rcases List.mem_cons.mp hc with rfl | hc
      · cases hx
      · exact tabs.get c hc x hx, by rw [keys_cons, keys_tabs]; exact hnd⟩ fun H' l => .inr e
end VM
namespace L2
open PySem PySem.Spec PyProof.Rows
section
variable {prog : Program} {w : World} {A : Around} {E : Value → Shared → Prop} {s : Shared}
theorem setItem_sliceG {l b sl : Addr} {items new : Array Value} {n n2 : Nat} {vl vu : Value} {a c : Nat} {hi : Option Int} {Q : Unit → Shared → Prop}
    (e : s.heap.get? l = some { cls := .type "list", data := .seq items n }) (e2 : s.heap.get? b = some { cls := .type "list", data := .seq new n2 }) (hne : l ≠ b)
    (hs : s.heap.IsSliceOf sl vl vu .none) (pl : IsPart vl (some (a : Int))) (pu : IsPart vu hi) (hb : sliceBounds (some (a : Int)) hi none items.size = ((a : Int), (c : Int), 1)) (hac : a ≤ c) (hc : c ≤ items.size)
    (hsz : items.size + new.size ≤ sizeLine) (h : Q () { s with heap := s.heap.update l (Obj.mapSeq fun xs => xs.extract 0 a ++ new ++ xs.extract c xs.size) }) :
    wpAny (model prog w) A (setItem (.ref l) (.ref sl) (.ref b)) Q E s := by
  have hl : s.heap.IsList l items := PySem.IsL.isList e
  have hb' : s.heap.IsList b new := PySem.IsL.isList e2
  obtain ⟨os, hos, hcs, hds⟩ := id hs
  have hTs : s.TypeIs (.ref sl) "slice" := ⟨os, hos, hcs⟩
  have hstep : ¬ ((rawPart none == rawInt 0) = true) := Bool.false_ne_true
  have hsame : Builtin.List.listSameRef (.ref l) (.ref b) = false := by
    unfold Builtin.List.listSameRef
    exact beq_eq_false_iff_ne.mpr hne
  have hmax : (max (a : Int) (c : Int)).toNat = c := by omega
  have hz' : ((fun xs : Array Value => xs.extract 0 a ++ new ++ xs.extract c xs.size) items).size ≤ sizeLine + 1 := by
    simp only [Array.size_append, Array.size_extract]
    omega
  unfold setItem
  try with_reducible refine wpAny_holding ?_
  first | refine wpAny_bind (wpAny_pure ?_) | skip
  refine wpAny_bind (wpAny_sequenceKey hl.typeIs (by decide) ?_)
  refine wpAny_bind (wpAny_callSpecial?_slot (name := Str.ofString "__setitem__") hl.typeIs slot_list_setitem
    (wpAny_call_entry slot_list_setitem hl.typeIs entry_list_setitem ?_ (args_list_setitem _ _ _)))
  show wpAny _ _ (Builtin.List.listSubscript? (.ref sl) >>= _) _ _ s
  refine wpAny_bind ?_
  unfold Builtin.List.listSubscript?
  refine wpAny_bind (wpAny_specialOf hTs slice_no_index ?_)
  simp only [Option.isNone_none, if_true]
  refine wpAny_pure ?_
  show wpAny _ _ (typeOf (.ref sl) >>= _) _ _ s
  refine wpAny_bind (wpAny_typeOf hTs ?_)
  first
    | rw [if_neg (by decide)]
    | refine PySem.W.KFB.if_not (by decide) ?_
  rw [listSliceParts_eq]
  refine wpAny_bind (wpAny_bind (wpAny_field hos hds (x := .none) rfl (wpAny_bind (wpAny_listPart .none ?_))))
  rw [if_neg hstep]
  refine wpAny_bind (wpAny_field hos hds (x := vl) rfl (wpAny_bind (wpAny_listPart pl ?_)))
  refine wpAny_bind (wpAny_field hos hds (x := vu) rfl (wpAny_bind (wpAny_listPart pu (wpAny_pure ?_))))
  first
    | simp only [hsame, Bool.false_eq_true, if_false]
    | refine PySem.W.KFB.if_not hsame ?_
    | (dsimp only
       rw [if_neg (by rw [hsame]; exact Bool.false_ne_true)])
  refine wpAny_bind (m := Builtin.List.listAllItems (.ref b) "must assign iterable to extended slice") ?_
  unfold Builtin.List.listAllItems
  refine wpAny_bind (wpAny_typeOf hb'.typeIs ?_)
  first
    | refine PySem.W.KFB.if_so (by decide) ?_
    | rw [if_pos (by decide)]
    | simp only [beq_self_eq_true, Bool.true_or, if_true]
  unfold Builtin.List.listItems
  refine wpAny_bind (wpAny_seqItems e2 rfl (wpAny_pure ?_))
  refine wpAny_bind (wpAny_bind (wpAny_seqItems e rfl (wpAny_pure ?_)))
  refine wpAny_bind (wpAny_of_eq ((sliceIndices_raw (some (a : Int)) hi none items.size (by simp)).trans (congrArg (pure : Int × Int × Int → Sem (Int × Int × Int)) hb)) ?_)
  show wpAny _ _ (if ((1 : Int) == 1) = true then _ else _) _ _ s
  rw [if_pos (by decide)]
  refine wpAny_bind (wpAny_rule ?_)
  first
    | simp only [notLongL hsz, Bool.false_eq_true, if_false]
    | refine PySem.W.KFB.if_not (notLongL hsz) ?_
  first | refine wpAny_bind (wpAny_pure ?_) | skip
  show wpAny _ _ (updateSeq l (fun xs => xs.extract 0 ((a : Int)).toNat ++ new ++ xs.extract (max (a : Int) (c : Int)).toNat xs.size) >>= _) _ _ s
  rw [hmax, Int.toNat_natCast]
  refine wpAny_bind (wpAny_updateSeq (hz := Nat.le_trans (Nat.le_add_right _ _) hsz) (_hz' := hz') e rfl ?_)
  refine wpAny_bind (wpAny_letGo ?_)
  first
    | exact wpAny_bind (wpAny_pure (wpAny_pure ⟨.none, rfl, wpAny_pure h⟩))
    | exact wpAny_pure ⟨.none, rfl, wpAny_pure h⟩
theorem bounds_open {a n : Nat} (h : a ≤ n) : sliceBounds (some (a : Int)) none none n = ((a : Int), (n : Int), 1) := by
  simp only [sliceBounds, Option.getD_none]
  have h1 : ¬ ((a : Int) < 0) := by omega
  simp only [h1, if_false, show (1 : Int) > 0 by decide, if_true]
  congr 1
  omega
end
section
variable {X : Cx}
theorem set_sliceG {pins : List (Addr × Obj)} {s : Shared} {σ : St} {H : Hp} {l b sl : Addr} {xs ys : List V} {a c : Nat} {hi : Option Int} {vl vu : Value} {Q : Unit → Shared → Prop} (I : Inv X pins σ H s)
    (hH : H l = some (.lst xs)) (hB : H b = some (.lst ys)) (hne : l ≠ b) (hs : s.heap.IsSliceOf sl vl vu .none) (pl : IsPart vl (some (a : Int))) (pu : IsPart vu hi) (hhi : hi = some (c : Int) ∨ hi = none ∧ c = xs.length) (hac : a ≤ c) (hc : c ≤ xs.length)
    (hz : xs.length + ys.length ≤ sizeLine) (h : ∀ s', Inv X pins σ (upd H l (.lst (xs.take a ++ ys ++ xs.drop c))) s' → Q () s') :
    wpAny (model X.prog X.w) X.A (setItem (.ref l) (.ref sl) (.ref b)) Q X.xe s := by
  obtain ⟨z, its, n, r, hl, e⟩ := I.lstM hH
  obtain ⟨z2, its2, n2, r2, hl2, e2⟩ := I.lstM hB
  have hbd : sliceBounds (some (a : Int)) hi none its.toArray.size = ((a : Int), (c : Int), 1) := by
    rw [List.size_toArray]
    rcases hhi with rfl | ⟨rfl, rfl⟩
    · exact bounds_run hac (by omega)
    · rw [hl]; exact bounds_open (by omega)
  refine setItem_sliceG (a := a) (c := c) e e2 hne hs pl pu hbd hac (by rw [List.size_toArray]; omega) (by rw [List.size_toArray, List.size_toArray]; omega) (h _ ?_)
  refine I.lset (its' := its.take a ++ its2 ++ its.drop c) (t' := s.toks) hH e ?_ (Vals.append (Vals.append (r.take _) r2) (r.drop _)) ?_
  · exact splice_eq its its2 a c
  · rw [List.length_append, List.length_append, List.length_take, List.length_drop]
    omega
end
end L2
namespace VM
open PySem PySem.Spec L2
open PyProof.Rows hiding St
/-! ### xs[a:c] = ys, ys a new list -/
def gSetSl : V → Option Int → Option Int → V → Lg → (Lg → Prop) → Prop := fun o lo hi v L P => ∃ (p q : Addr) (xs ys : List V) (a c : Nat) (R R' : Lg), o = .ref p ∧ v = .ref q ∧ Pull [(q, .lst ys)] L R ∧ Wr p (.lst xs) (.lst (xs.take a ++ ys ++ xs.drop c)) R R' ∧
  lo = some (a : Int) ∧ (hi = some (c : Int) ∨ hi = none ∧ c = xs.length) ∧ a ≤ c ∧ c ≤ xs.length ∧ xs.length + ys.length ≤ sizeLine ∧ P ([(q, .lst ys)] :: R')
def hSetSl (to : LTE) (tl th : LTO) : LTG := fun v σ L Q => to σ L fun o L1 => tl σ L1 fun l L2 => th σ L2 fun u L3 => gSetSl o l u v L3 fun L4 => Q σ L4
theorem Led.apart {H : Hp} {q p : Addr} {o : HO} {R : Lg} (h : Led H ([(q, o)] :: R)) (hp : p ∈ keys R) : p ≠ q := fun e => h.head_not (e ▸ hp)
theorem Wr.mem_keys {p : Addr} {o o' : HO} {L L' : Lg} (h : Wr p o o' L L') : p ∈ keys L := by
  induction h with
  | hd => exact VM.mem_keys.mpr ⟨_, List.mem_cons_self, (_, _), List.mem_append_right _ List.mem_cons_self, rfl⟩
  | tl _ ih =>
    rw [keys_cons]
    exact List.mem_append_right _ ih
section
variable {X : Cx} {o : Expr} {lo hi : Option Expr} {to : LTE} {tl th : LTO} {p2 pos : Pos}
theorem lg_setsl (ho : LE X o to) (hl : LO X lo tl) (hu : LO X hi th)
    (ha : ∀ v, assign (.Subscript o (.Slice lo hi none p2) pos) X.env v = (do
      let ov ← holding [v] (eval o X.env)
      let iv ← holding [v, ov] (eval (.Slice lo hi none p2) X.env)
      standAt pos
      holding [v, ov, iv] (setItem ov iv v)
      release [iv, v, ov] []) := by intro _; rfl) : LG X (.Subscript o (.Slice lo hi none p2) pos) (hSetSl to tl th) := by
  refine ⟨fun pins s σ H v u Q I r h => ?_⟩
  obtain ⟨L, QL, hL, h, k⟩ := h
  rw [ha]
  refine wpAny_bind (wpAny_holding (thn (ho.run pins s σ H (fun x H1 => ∃ L1, Led H1 L1 ∧ tl σ L1 fun l L2 => th σ L2 fun u L3 => gSetSl x l u v L3 fun L4 => QL σ L4) I ⟨L, _, hL, h, fun x L1 H1 h1 l1 => ⟨L1, l1, h1⟩⟩) fun ov s1 ⟨x, H1, I1, r1, q1⟩ => ?_))
  obtain ⟨L1, l1, q1⟩ := q1
  refine wpAny_bind (wpAny_holding (wpAny_Slice (thn (hl.run pins s1 σ H1 (fun x2 H2 => ∃ L2, Led H2 L2 ∧ th σ L2 fun u L3 => gSetSl x x2 u v L3 fun L4 => QL σ L4) I1 ⟨L1, _, l1, q1, fun x2 L2 H2 h2 l2 => ⟨L2, l2, h2⟩⟩) fun vl s2 ⟨x2, H2, I2, pl, q2⟩ => ?_)))
  obtain ⟨L2, l2, q2⟩ := q2
  refine thn (hu.run pins s2 σ H2 (fun x3 H3 => ∃ L3, Led H3 L3 ∧ gSetSl x x2 x3 v L3 fun L4 => QL σ L4) I2 ⟨L2, _, l2, q2, fun x3 L3 H3 h3 l3 => ⟨L3, l3, h3⟩⟩) fun vu s3 ⟨x3, H3, I3, pu, q3⟩ => ?_
  obtain ⟨L3, l3, q3⟩ := q3
  rw [evalPart_none]
  refine wpAny_pure ?_
  have I4 : Inv X pins σ H3 { s3 with heap := s3.heap.push { cls := .type "slice", data := .fields #[vl, vu, .none] } } := I3.kept (t' := s3.toks) fun b ob q => Heap.get?_push_of_some _ q
  obtain ⟨p, q, xs, ys, a, c, R, R', rfl, rfl, hp, hw, rfl, hhi, hac, hc, hz, hq⟩ := q3
  obtain rfl : ov = Value.ref p := r1
  obtain rfl : u = Value.ref q := r
  have l4 : Led H3 ([(q, .lst ys)] :: R) := (LicS.pull hp LicS.refl).lic _ l3
  have hw2 : Wr p (.lst xs) (.lst (xs.take a ++ ys ++ xs.drop c)) ([(q, .lst ys)] :: R) ([(q, .lst ys)] :: R') := .tl hw
  refine wpAny_bind (wpAny_standAt (wpAny_bind (wpAny_holding (set_sliceG I4 (hw2.at_ H3 l4) (l4.one List.mem_cons_self) (l4.apart hw.mem_keys) (Heap.IsSliceOf.new ..) pl pu hhi hac hc hz fun s5 I5 => ?_))))
  exact wpAny_release ⟨σ, _, I5, k _ _ _ hq (hw2.led l4)⟩
end
theorem s_hsetsl {to : LTE} {tl th : LTO} {v : V} {σ : L2.St} {L : Lg} {Q : L2.St → Lg → Prop} (k : to σ L fun o L1 => tl σ L1 fun l L2 => th σ L2 fun u L3 => gSetSl o l u v L3 fun L4 => Q σ L4) : hSetSl to tl th v σ L Q := k
instance j_hsetsl {to : LTE} {tl th : LTO} {v : V} {σ : L2.St} {L : Lg} {Q : L2.St → Lg → Prop} : S1 (hSetSl to tl th v σ L Q) (to σ L fun o L1 => tl σ L1 fun l L2 => th σ L2 fun u L3 => gSetSl o l u v L3 fun L4 => Q σ L4) := ⟨id⟩
/-- a row of a volume gets new numbers from a place on -/
theorem s_setsl_row {p q : Addr} {as : List Addr} {rows : List (List Int)} {ys : List V} {ms : List Int} {j : Int} {lo : Option Int} {hi : Option Int} {a c : Nat} {L R R' : Lg} {P : Lg → Prop} (h1 : Pull [(q, .lst ys)] L R) (v : IntsV ys ms)
    (h2 : Rp (volC p as rows) (volC p as (rows.set j.toNat ((rowAt rows j).take a ++ ms ++ (rowAt rows j).drop c))) R R') (hl : as.length = rows.length) (h0 : 0 ≤ j) (h3 : j < as.length) (elo : lo = some (a : Int)) (ehi : hi = some (c : Int) ∨ hi = none ∧ c = (rowAt rows j).length)
    (hac : a ≤ c) (hc : c ≤ (rowAt rows j).length) (hz : (rowAt rows j).length + ms.length ≤ 1000000) (k : P ([(q, .lst ys)] :: R')) : gSetSl (.ref (adrAt as j)) lo hi (.ref q) L P := by
  have e := v.eq
  subst e
  refine ⟨_, q, (rowAt rows j).map V.int, _, a, c, R, R', rfl, rfl, h1, h2.wr fun L => ?_, elo, ?_, hac, by rw [List.length_map]; exact hc, ?_, k⟩
  · obtain ⟨A, B, e1, e2⟩ := cells_split (get_adr h0 h3) (get_row (rows := rows) h0 (by omega))
    have e3 := e2 (((rowAt rows j).take a ++ ms ++ (rowAt rows j).drop c))
    unfold volC
    rw [e1, e3, List.map_append, List.map_append, List.map_take, List.map_drop]
    exact Wr.hd (A := (p, .lst (as.map V.ref)) :: A)
  · rcases ehi with e | ⟨e1, e2⟩
    · exact .inl e
    · exact .inr ⟨e1, by rw [List.length_map]; exact e2⟩
  · rw [List.length_map, List.length_map]
    exact Nat.le_trans hz (by decide)
end VM
namespace VM
open PySem PySem.Spec L2
open PyProof.Rows hiding St
theorem cr_range1 {X : Cx} : CallR X (.type "range") (fun vs H Q => ∃ j, vs = [V.int j] ∧ ∀ p, H p = none → Q (.ref p) (upd H p (.rng 0 j))) := by
  intro pins s σ H vs us Q I r h
  obtain ⟨j, rfl, q⟩ := h
  obtain ⟨u1, rfl, ri⟩ := vals1 r
  obtain ⟨t, rfl⟩ := ri
  refine call_range_1 ⟨.ref s.heap.objs.size, upd H s.heap.objs.size (.rng 0 j), I.laid (t' := s.toks + 2) (fun b o e => Heap.get?_push_of_some _ e) (Nat.le_refl _) ?_, rfl, q _ (I.hok.fresh (Nat.le_refl _))⟩
  exact ⟨_, _, _, Heap.get?_push_size _ rfl⟩
def gRange1 : LRC := fun xs L Q => ∃ j, xs = [.int j] ∧ ∀ p, p ∉ keys L → Q (.ref p) ([(p, .rng 0 j)] :: L)
theorem lk_range1 {X : Cx} : CallL X (.type "range") gRange1 := CallR.imp cr_range1 fun xs H Q ⟨L, QL, hL, ⟨j, e, h2⟩, k⟩ => ⟨j, e, fun l hl => k _ _ _ (h2 l (hL.fresh hl)) (hL.new hl)⟩
theorem s_range1 {j : Int} {L : Lg} {Q : LVK} (k : ∀ p, Q (.ref p) ([(p, .rng 0 j)] :: L)) : gRange1 [.int j] L Q := ⟨j, rfl, fun p _ => k p⟩
end VM
namespace VM
open PySem PySem.Spec L2
open PyProof.Rows hiding St
/-! ### what was caught, handed to a def -/
/-- a def of one argument that gets what was caught in a suite: its promise speaks of the class -/
structure FnE (P : Program) (w : World) (K : PySem.W.Frag) (mg : Str → Option Value) (base : Heap) (k : Nat) (f : Addr) (sp : Value → LSp) : Prop where
  run : ∀ (A : Around) (outer : List Env) (s : Shared) (H : Hp) (a : Addr) (oe : Obj) (cls : Value) (Q : VK), L2H.RoomH k A → L2H.PinOk outer H s (a, oe) → Env0 P w K mg base A outer s H → Zc cls none oe → (∃ vs, oe.data = .fields vs) → UpP (sp cls) [.ref a] H Q (fun _ _ _ => False) →
    codeAny (model P w) A (.call (.ref f) ⟨[.ref a], []⟩) (CR CX0 outer P w H s Q (fun _ _ _ => False)) s
def OkE (P : Program) (w : World) (K : PySem.W.Frag) (mg : Str → Option Value) (base : Heap) (k : Nat) (x : Str) (sp : Value → LSp) : Prop := mg x = some (.ref (He.ga K x)) ∧ FnE P w K mg base k (He.ga K x) sp ∧ PySem.W.keepIn K (.ref (He.ga K x)) = true
theorem fn_okE {P : Program} {w : World} {K : PySem.W.Frag} {mg : Str → Option Value} {base : Heap} {y qual : Str} {params : Arguments} {body : List Stmt} {scope : Scope} {dvs : List V} {kws : List (Str × V)} {g : Addr} {fd : FuncData} {N qs : List Str} {j : Nat} {sp : Value → LSp}
    (F : FunD K y qual params body scope dvs kws g fd) (S : FnScope N qs scope) (h1 : qs.length = 1) (hb : Binds K fd qs [])
    (hbody : ∀ (cdv : Value) (A : Around) (outer : List Env) (s : Shared) (H : Hp) (E : XK) (a : Addr) (oe : Obj) (cls : Value), L2H.RoomH j (A.deeper (envOfC qual scope s.heap.objs.size g cdv)) → Zc cls none oe → (∃ vs, oe.data = .fields vs) →
      ∃ t, LSs (L2H.cxH CX0 P w K mg base N qual scope g cdv A outer s H E (a, oe)).nox body t ∧ ∀ L Q EL σ, sp cls [.ref a] L Q EL → start N [.ref a] = σ → t ⟨fun _ => Wk (Q .non), Q, fun _ _ => False, fun _ _ => False⟩ σ L) : FnE P w K mg base (j + 1) g sp := by
  obtain ⟨oc, od, dV, kV, doc, pm, an, cdv, ct, osl, rfl, lk, hcd, _, _⟩ := F.ex
  refine ⟨fun A outer s H a oe cls Q hr hpin e0 hz hf hsp => ?_⟩
  have KX : K.In s.heap := e0.mod.kin.keeps fun b o e => (e0.bs b o e).1
  have lim : s.heap.NoLimit := e0.mod.nolimit.keeps fun b o e => (e0.bs b o e).1
  have hkind : ∀ y ∈ qs.zip [Value.ref a], scope.names.lookup y.1 = some .local ∨ (scope.names.lookup y.1 = some .cell ∧ ((cellsFrom (s.heap.objs.size + 1) scope.names []).lookup y.1).isSome = true) := fun ⟨n, v⟩ hy => by
    rcases S.par n (List.of_mem_zip hy).1 with q | q
    · exact .inl q
    · exact .inr ⟨q, PySem.W.cellsFrom_some _ _ _ (.inl q)⟩
  have hb' := hb s [.ref a] KX (by rw [h1]; rfl)
  refine codeAny_call_function hr.depth (KX _ _ lk) rfl S.co S.gen rfl (PySem.W.codeRec_of KX hcd) (hb' _ _ _ _ ?_)
  refine wpAny_newFunctionEnv_cells S.kind hkind fun env he s1 x => ?_
  subst he
  refine ⟨lim.keeps x.toInCall.keep, codeAny_func ?_⟩
  obtain ⟨t, ht, hq⟩ := hbody cdv A outer s H (fun _ _ _ => False) a oe cls (hr.deeper _) hz hf
  obtain ⟨L, QL, EL, hL, hs, k1, k2⟩ := hsp
  have I : Inv (L2H.cxH CX0 P w K mg base N qual scope g cdv A outer s H (fun _ _ _ => False) (a, oe)) [] (L2.start N [.ref a]) H s1 := L2H.inv_startH S hpin e0 (by rw [h1]; rfl) (.cons rfl .nil) x
  have hq2 : UpS t { nx := fun _ H' => Q .non H', rt := Q } (L2.start N [.ref a]) H := ⟨L, _, hL, hq L QL EL _ hs rfl, ⟨fun σ' L' H' ⟨L2, l2, q⟩ l => k1 _ _ _ q (l2 _ l), fun v L' H' q l => k1 _ _ _ q l, fun _ _ _ z => z.elim, fun _ _ _ z => z.elim⟩⟩
  refine wpAny_mono ((PSs.nox ht).run [] s1 (L2.start N [.ref a]) H _ I hq2) (fun fl s' hs => ?_) fun e s' hs => hs
  cases fl with
  | ret u =>
    obtain ⟨v, σ', H', J, rv, q⟩ := hs
    exact ⟨v, H', J.os, J.bare, J.base, J.hok, rv, q⟩
  | next =>
    obtain ⟨σ', H', J, q⟩ := hs
    exact ⟨.non, H', J.os, J.bare, J.base, J.hok, rfl, q⟩
  | brk =>
    obtain ⟨_, _, _, q⟩ := hs
    exact False.elim q
  | cont =>
    obtain ⟨_, _, _, q⟩ := hs
    exact False.elim q
def CallEK (a : Addr) (cls : Value) (d : Option Addr) (sp : Value → LSp) (Q : LVK) : List V → Lg → Prop := fun vs L => vs = [.ref a] ∧ d = none ∧ sp cls [.ref a] L Q noX
def lCallE (a : Addr) (cls : Value) (d : Option Addr) (sp : Value → LSp) (t : LTA) : LTE := fun σ L Q => t σ L (CallEK a cls d sp Q)
section
variable {X : Cx} {a : Addr} {oe : Obj} {cls : Value} {d : Option Addr} {pn : List (Addr × Obj)}
theorem lcallE {k : Nat} {sp : Value → LSp} {x : Str} {p pos : Pos} {e : Expr} {t : LTA} (hz : Zc cls d oe) (hf : ∃ vs, oe.data = .fields vs) (G : OkE X.prog X.w X.K X.mg X.base k x sp) (hr : Room k X.A) (hg : Gl X x) (ha : LA (X.suite a ((a, oe) :: pn)) [e] t)
    (hdb : (x == ("__debug__" : Str)) = false := by decide) (he : starEach [e] X.env = (false, eval e X.env) :: starEach [] X.env := by rfl) (hpl : (backTo pos (starEach [] X.env)).any (·.1) = false := by rfl) :
    LE (X.suite a ((a, oe) :: pn)) (.Call (.Name x p) [e] [] pos) (lCallE a cls d sp t) := by
  obtain ⟨hm, F, kp⟩ := G
  refine ⟨fun pins s σ H Q I h => ?_⟩
  obtain ⟨L, QL, hL, h, kq⟩ := h
  refine wpAny_Call_Name_kw (ld_glob I hg hm (PySem.W.callWith_K (h₀ := X.base) I.ok.mod.kin kp
    (thn (ha.run pos pins s σ H (fun vs H1 => ∃ L1, Led H1 L1 ∧ CallEK a cls d sp QL vs L1) I ⟨L, _, hL, h, fun vs L1 H1 h1 l1 => ⟨L1, l1, h1⟩⟩) fun us s1 q => ?_) he hpl) hdb)
  obtain ⟨vs, H1, I1, r, L1, l1, rfl, rfl, q⟩ := q
  obtain rfl := Vals.ref1 r
  refine ⟨I1.kIn, ?_⟩
  obtain ⟨hget, hn, nL, nF, nc⟩ := I1.pin (a, oe) (List.mem_append_left _ List.mem_cons_self)
  have nfr : a ∉ frs X.stack := fun z => by
    rcases List.mem_cons.mp (I1.stkSub _ z) with e | e
    · exact nL e
    · exact nF e
  have hrH : L2H.RoomH k (X.suite a ((a, oe) :: pn)).A := ⟨hr.dp, hr.un⟩
  have run := F.run (X.suite a ((a, oe) :: pn)).A X.stack s1 H1 a oe cls Q hrH ⟨hget, hn, nfr, nc⟩ I1.env0 hz hf ⟨L1, QL, noX, l1, q, kq, fun _ _ _ _ z => z.elim⟩
  refine wpAny_call (codeAny_mono run ?_)
  rintro (e | fl) s' hq
  · exact hq.elim
  · cases fl <;> first | exact I1.after hq | exact hq.elim
end
theorem roomH_units {k : Nat} {A : Around} (r : L2H.RoomH k A) : A.units + 64 < cLine := by have := r.un; omega
/-! isinstance of what was handed -/
theorem kk_isP {X : Cx} {a : Addr} {oe : Obj} {cls : Value} (K : PySem.W.Frag) (hz : Zc cls none oe) (hf : ∃ vs, oe.data = .fields vs) (hp : (a, oe) ∈ X.pn := by exact List.mem_cons_self) (hK : X.K = K := by rfl) : CallL X (.builtin "isinstance") (gIsE1 K a cls none) := by
  subst hK
  intro pins s σ H xs us Q I r h
  obtain ⟨L, QL, hL, ⟨D, c, cv, b, rfl, _, hC, rfl, hcv, e, q⟩, k⟩ := h
  obtain ⟨u1, u2, rfl, r1, r2⟩ := vals2 r
  obtain rfl : u1 = Value.ref a := r1
  have ec := hcv.eq r2
  subst ec
  have hget := (I.pin (a, oe) (List.mem_append_left _ hp)).1
  have C := ExcCB.ok hC
  obtain ⟨vs, hv⟩ := hf
  have J : PySem.W.InstAt s.heap a oe D none := by
    obtain ⟨oc, od, oda, osl⟩ := oe
    obtain ⟨h1, h2⟩ := hz
    dsimp only at h1 h2 hv
    subst h1 h2 hv
    exact ⟨hget, rfl, rfl, trivial⟩
  exact PySem.W.kia_one (PySem.W.handS_kitx_exc C.hg C.hk C.hs C.hd C.ha C.hn C.ht C.hm) I.kIn J e (fun z => nomatch z) fun tk => ⟨.bl b, H, I.kept (t' := tk) fun _ _ z => z, rfl, k _ _ _ q hL⟩
section
variable {K : PySem.W.Frag} {a C D : Addr} {L : Lg} {Q : LVK} {b : Bool}
theorem s_isP (hC : ExcCB K D = true) (e : PySem.W.kitOne K (.ref D) (.ref C) = some b) (k : Q (.bl b) L) : gIsE1 K a (.ref D) none [.ref a, .ref C] L Q := ⟨D, _, _, b, rfl, rfl, hC, rfl, .own C, e, k⟩
theorem s_isPty {T : String} (hC : ExcCB K D = true) (e : PySem.W.kitOne K (.ref D) (.type T) = some b) (k : Q (.bl b) L) : gIsE1 K a (.ref D) none [.ref a, .ty T] L Q := ⟨D, _, _, b, rfl, rfl, hC, rfl, .ty T, e, k⟩
end
instance j_callE {a : Addr} {cls : Value} {d : Option Addr} {sp : Value → LSp} {t : LTA} {σ : L2.St} {L : Lg} {Q : LVK} : S1 (lCallE a cls d sp t σ L Q) (t σ L (CallEK a cls d sp Q)) := ⟨id⟩
theorem s_callEK {a : Addr} {cls : Value} {sp : Value → LSp} {L : Lg} {Q : LVK} (h : sp cls [.ref a] L Q noX) : CallEK a cls none sp Q [.ref a] L := ⟨rfl, rfl, h⟩
/-! ### tuples glued, empty ones too -/
section
variable {X : Cx} {K : PySem.W.Frag}
def lCatA (K : PySem.W.Frag) : LR2 := fun x y L Q => ∃ a b xs ys, x = .ref a ∧ y = .ref b ∧ IsT K L a xs ∧ IsT K L b ys ∧ xs.length + ys.length ≤ sizeLine ∧ (xs = [] → Q (.ref b) L) ∧ (xs ≠ [] → ys = [] → Q (.ref a) L) ∧ (xs ≠ [] → ys ≠ [] → ∀ p, p ∉ keys L → Q (.ref p) ([(p, .tup (xs ++ ys))] :: L))
theorem lo_catA : OpL X (binaryOp .Add) (lCatA X.K) := OpR.imp op_catA fun x y H Q h => by
  obtain ⟨L, QL, hL, ⟨l, b, xs, zs, e1, e2, h1, h2, h3, q0, q1, q2⟩, k⟩ := h
  exact ⟨l, b, xs, zs, e1, e2, h1 H hL, h2 H hL, h3, fun z => k _ _ _ (q0 z) hL, fun z w => k _ _ _ (q1 z w) hL, fun z w p hp => k _ _ _ (q2 z w p (hL.fresh hp)) (hL.new hp)⟩
def gAddA (K : PySem.W.Frag) : LR2 := fun x y L Q => gAdd K x y L Q ∨ lCatA K x y L Q
theorem ko_addA (K : PySem.W.Frag) (h : X.K = K := by rfl) : OpL X (binaryOp .Add) (gAddA K) := by subst h; exact lo_add.or lo_catA
variable {L : Lg} {Q : LVK} {p q : Addr} {xs ys : List V} {i j : Int} {x y : V}
theorem s_addA_o (k : gAdd K x y L Q) : gAddA K x y L Q := .inl k
theorem s_addA_i (k : Q (.int (i + j)) L) : gAddA K (.int i) (.int j) L Q := .inl (s_add_i k)
theorem s_addA_t (h1 : IsT K L p xs) (h2 : IsT K L q ys) (n1 : xs ≠ []) (n2 : ys ≠ []) (hz : xs.length + ys.length ≤ 1000000) (k : ∀ r, Q (.ref r) ([(r, .tup (xs ++ ys))] :: L)) : gAddA K (.ref p) (.ref q) L Q := .inr ⟨p, q, xs, ys, rfl, rfl, h1, h2, Nat.le_trans hz (by decide), fun z => absurd z n1, fun _ z => absurd z n2, fun _ _ r _ => k r⟩
theorem s_addA_l (h1 : IsT K L p []) (h2 : IsT K L q ys) (hz : ys.length ≤ 1000000) (k : Q (.ref q) L) : gAddA K (.ref p) (.ref q) L Q := .inr ⟨p, q, [], ys, rfl, rfl, h1, h2, Nat.le_trans (by simpa using hz) (by decide), fun _ => k, fun z => absurd rfl z, fun z => absurd rfl z⟩
theorem s_addA_r (h1 : IsT K L p xs) (h2 : IsT K L q []) (n1 : xs ≠ []) (hz : xs.length ≤ 1000000) (k : Q (.ref p) L) : gAddA K (.ref p) (.ref q) L Q := .inr ⟨p, q, xs, [], rfl, rfl, h1, h2, Nat.le_trans (by simpa using hz) (by decide), fun z => absurd z n1, fun _ _ => k, fun _ z => absurd rfl z⟩
end
end VM

end
namespace VM
open PySem PySem.Spec L2
open PyProof.Rows hiding St

local macro_rules | `(tactic| walk_at "mem") => `(tactic| first | with_reducible exact List.mem_cons_self | assumption | ((with_reducible refine List.mem_cons_of_mem _ ?_); walk_at "mem"))
local macro_rules | `(tactic| walk_at "at") => `(tactic| first | with_reducible exact At.hd1 | assumption | ((with_reducible refine At.tl ?_); walk_at "at"))
local macro_rules | `(tactic| walk_at "atm") => `(tactic| first | (refine At.one ?_; walk_at "mem") | (refine' At.mem ?h1 ?h2; (case h2 => assumption); (case h1 => walk_at "mem")) | ((with_reducible refine' row_at ?h1 ?h2 ?h3 ?h4); (case h1 => walk_at "mem"); (case h2 => walk_at "ln"); (case h3 => omega); (case h4 => walk_at "lt")) | ((with_reducible refine' vol_top ?h1); (case h1 => walk_at "mem")) | ((with_reducible refine' cell_at ?h1 ?h2 ?h3 ?h4); (case h1 => walk_at "mem"); (case h2 => walk_at "ln"); (case h3 => omega); (case h4 => omega)) | ((with_reducible refine' tup_at ?h1 ?h2 ?h3 ?h4 ?h5); (case h1 => walk_at "mem"); (case h2 => walk_at "ln"); (case h3 => walk_at "ln"); (case h4 => omega); (case h5 => omega)) | ((with_reducible refine' tup_top ?h1); (case h1 => walk_at "mem")))
local macro_rules | `(tactic| walk_at "ln") => `(tactic| first | assumption | omega | (simp only [List.length_map, List.length_set, List.length_range, List.length_append, List.length_cons, List.length_nil, List.length_replicate, putsM_len, putAt_len]; omega))
local macro_rules | `(tactic| walk_at "isl") => `(tactic| first | (refine' IsL.at_ ?h1; (case h1 => first | walk_at "at" | walk_at "atm")) | assumption | (refine' IsL.scr ?h1 ?h2; (case h1 => assumption); (case h2 => walk_at "mem")) | (apply IsL.tl; first | assumption | (apply IsL.tl; first | assumption | (apply IsL.tl; assumption))))
local macro_rules | `(tactic| walk_at "ist") => `(tactic| first | (refine' IsT.at_ ?h1; (case h1 => first | walk_at "at" | walk_at "atm")) | assumption)
local macro_rules | `(tactic| walk_at "wr") => `(tactic| first | with_reducible exact Wr.hd1 | (apply Wr.tl; walk_at "wr"))
local macro_rules | `(tactic| walk_at "slot") => `(tactic| first | exact SetAt.hd | (apply SetAt.tl; walk_at "slot"))
local macro_rules | `(tactic| walk_at "sub") => `(tactic| first | exact List.Sublist.refl _ | exact List.nil_sublist _ | (refine List.Sublist.cons_cons _ ?_; walk_at "sub") | (refine List.Sublist.cons _ ?_; walk_at "sub"))
local macro_rules | `(tactic| walk_at "pull") => `(tactic| first | with_reducible exact Pull.hd | ((with_reducible apply Pull.tl); walk_at "pull"))
local macro_rules | `(tactic| walk_at "lics") => `(tactic| first | with_reducible exact LicS.refl | ((with_reducible refine' LicS.pull ?h1 ?_); (case h1 => walk_at "pull"); walk_at "lics") | ((with_reducible refine LicS.skip ?_); walk_at "lics"))
local macro_rules | `(tactic| walk_at "lic") => `(tactic| first | exact Lic.refl | (refine Lic.sublist ?_; walk_at "sub") | (refine LicS.lic ?_; walk_at "lics"))
local macro_rules | `(tactic| walk_at "nb") => `(tactic| first | with_reducible exact nb1 | with_reducible exact nb1t | with_reducible exact nb2 | with_reducible exact nb3w | with_reducible exact nb2t | with_reducible exact nb_i | with_reducible exact nb_n | ((with_reducible refine nb_list ?_); walk_at "nba") | ((with_reducible refine nb_tup ?_); walk_at "nba"))
local macro_rules | `(tactic| walk_at "nba") => `(tactic| first | with_reducible exact nba_nil | ((with_reducible refine' nba_cons ?h1 ?_); (case h1 => walk_at "nb"); walk_at "nba"))
local macro_rules | `(tactic| walk_at "di") => `(tactic| first | with_reducible exact dI_iff | with_reducible exact dT_iff | with_reducible exact dR_iff | with_reducible exact dW_iff | with_reducible exact dTs_nil | with_reducible exact dTs_nil' | with_reducible exact dR_nil | with_reducible exact dW_nil | with_reducible exact dR_nil' | with_reducible exact dW_nil' | with_reducible exact dTs_iff | with_reducible exact di_iff | with_reducible exact dln_iff | ((with_reducible refine' dlc_iff ?h1 ?h2); (case h1 => walk_at "di"); (case h2 => walk_at "di")) | ((with_reducible refine' dtc_iff ?h1 ?h2); (case h1 => walk_at "di"); (case h2 => walk_at "di")))
local macro_rules | `(tactic| walk_at "dp") => `(tactic| first | with_reducible exact DpL.int | with_reducible exact DpL.bl | with_reducible exact DpL.non | ((with_reducible refine' DpL.vol ?h1 ?h2); (case h1 => walk_at "mem"); (case h2 => walk_at "ln")) | ((with_reducible refine' DpL.pairs ?h1 ?h2 ?h3 ?h4); (case h1 => walk_at "mem"); (case h2 => walk_at "mem"); (case h3 => walk_at "ln"); (case h4 => walk_at "ln")) | ((with_reducible refine' DpL.ldT ?h1 ?h2); (case h1 => assumption); (case h2 => walk_at "mem")) | ((with_reducible refine' DpL.ldW ?h1 ?h2); (case h1 => assumption); (case h2 => walk_at "mem")) | ((with_reducible refine' DpL.tel ?h1 ?h2); (case h1 => assumption); (case h2 => walk_at "mem")) | ((with_reducible refine' DpL.iv ?h1 ?h2); (case h1 => walk_at "isl"); (case h2 => walk_at "iv")) | ((with_reducible refine' DpL.tv ?h1 ?h2); (case h1 => walk_at "ist"); (case h2 => walk_at "iv")) | ((with_reducible refine' DpL.lst ?h1 ?h2); (case h1 => walk_at "isl"); (case h2 => walk_at "dpa")) | ((with_reducible refine' DpL.tup ?h1 ?h2); (case h1 => walk_at "ist"); (case h2 => walk_at "dpa")))
local macro_rules | `(tactic| walk_at "dpa") => `(tactic| first | with_reducible exact DpLA.nil | ((with_reducible refine' DpLA.cons ?h1 ?h2); (case h1 => walk_at "dp"); (case h2 => walk_at "dpa")))
local macro_rules | `(tactic| walk_at "ar") => `(tactic| first | omega | decide | assumption | (rw [rowAt_len (by assumption) (by omega) (by omega)]; omega) | (rw [rowAt_len (m := 8) (by walk_at "a8") (by omega) (by walk_at "lt")]; omega) | (constructor <;> first | omega | decide) | (simp only [List.length_map, List.length_cons, List.length_nil, List.length_append, List.length_set] at *; omega))
local macro_rules | `(tactic| walk_at "sz") => `(tactic| first | decide | (simp only [List.length_map, List.length_cons, List.length_nil, List.length_append]; decide))
local macro_rules | `(tactic| walk_at "mul") => `(tactic| first | (refine Or.inl (Or.inl ⟨?_, ?_⟩) <;> omega) | (refine Or.inl (Or.inr ⟨?_, ?_⟩) <;> omega))
local macro_rules | `(tactic| walk_at "iv") => `(tactic| first | with_reducible exact IntsV.map | with_reducible exact IntsV.rep | assumption | with_reducible exact IntsV.nil | ((with_reducible apply IntsV.cons); walk_at "iv") | ((with_reducible apply IntsV.app) <;> walk_at "iv"))
local macro_rules | `(tactic| walk_at "fz") => `(tactic| first | exact fzw fz0 | exact fzw (fz fz0) | exact fzw (fz (fz fz0)) | exact fzw (fz (fz (fz fz0))) | exact fzw (fz (fz (fz (fz fz0)))) | exact fzw (fz (fz (fz (fz (fz fz0))))) | exact fzw (fz (fz (fz (fz (fz (fz fz0)))))))
local macro_rules | `(tactic| walk_at "fld") => `(tactic| fail)
local macro_rules | `(tactic| walk_at "c") => `(tactic| fail)
local macro_rules | `(tactic| walk_at "ev") => `(tactic| first
  | ((with_reducible refine' s_var ?h1 ?_); (case h1 => exact rfl)) | with_reducible refine s_c ?_ | with_reducible refine s_op ?_ | with_reducible refine s_cons ?_ | with_reducible refine s_nil ?_ | with_reducible refine s_test ?_ | with_reducible refine s_blk ?_ | with_reducible refine s_un ?_ | with_reducible refine s_cb ?_ | with_reducible refine s_callP ?_ | with_reducible refine s_fld ?_ | with_reducible refine s_methP ?_
  | with_reducible refine s_dict0 (fun _ => ?_) | ((with_reducible refine' s_dgk ?h1 ?_); (case h1 => first | walk_at "at" | walk_at "atm")) | ((with_reducible refine' s_dgz ?h1 ?_); (case h1 => first | walk_at "at" | walk_at "atm"))
  | with_reducible refine s_tup ?_ | with_reducible refine s_lst ?_ | ((with_reducible refine' s_new ?h1 (fun _ => ?_)); (case h1 => walk_at "sz")) | with_reducible refine s_sl ?_ | with_reducible refine s_nopart ?_ | with_reducible refine s_part ?_ | with_reducible refine s_intk ?_ | with_reducible refine s_not ?_ | with_reducible refine s_and ?_ | with_reducible refine s_or ?_ | with_reducible refine s_andV ?_ | with_reducible refine s_orV ?_ | with_reducible refine s_notV ?_ | with_reducible refine s_tru ?_ | with_reducible refine s_ifE ?_ | with_reducible refine s_makeP ?_ | with_reducible refine s_makeK (fun _ _ => ?_)
  | with_reducible refine s_bm ?_ | with_reducible refine s_bm0 ?_
  | ((with_reducible refine' s_copy ?h1 ?h2 ?h3 ?h4 ?h5 (fun _ _ _ => ?_)); (case h1 => exact rfl); (case h2 => walk_at "mem"); (case h3 => walk_at "ln"); (case h4 => first | omega | walk_at "le"); (case h5 => simp))
  | ((with_reducible refine' s_copyLW ?h1 ?h2 ?h3 ?h4 ?h5 ?h6 ?h7 ?h8 (fun _ _ _ => ?_)); (case h1 => exact rfl); (case h3 => first | assumption | exact LdW.tel (by assumption)); (case h2 => walk_at "mem"); (case h4 => omega); (case h5 => simp); (case h6 => simp); (case h7 => decide); (case h8 => exact rfl))
  | ((with_reducible refine' s_copyW ?h1 ?h2 ?h3 ?h4 ?h5 ?h6 ?h7 ?h8 (fun _ _ _ _ _ => ?_)); (case h1 => exact rfl); (case h3 => assumption); (case h2 => walk_at "mem"); (case h4 => omega); (case h5 => simp); (case h6 => simp); (case h7 => decide); (case h8 => exact rfl))
  | with_reducible refine s_lc ?_)
local macro_rules | `(tactic| walk_at "op") => `(tactic| first
  | ((with_reducible refine' s_ix_vol ?h1 ?h2 ?h3 ?_); (case h1 => walk_at "mem"); (case h2 => omega); (case h3 => walk_at "lt"))
  | with_reducible refine s_add_i ?_ | with_reducible refine s_sub ?_ | with_reducible refine s_lt ?_ | with_reducible refine s_eq_i ?_ | with_reducible refine s_ne_i ?_ | with_reducible refine s_gt ?_ | with_reducible refine s_le ?_ | with_reducible refine s_ge ?_ | with_reducible refine s_neg ?_
  | ((with_reducible refine' s_mod ?h1 ?_); (case h1 => walk_at "ar")) | ((with_reducible refine' s_div ?h1 ?_); (case h1 => (refine ⟨?_, ?_⟩; walk_at "ar"; first | decide | walk_at "ar"))) | ((with_reducible refine' s_mul ?h1 ?_); (case h1 => walk_at "mul")) | ((with_reducible refine' s_pow ?h1 ?h2 ?_); (case h1 => (refine ⟨?_, ?_, ?_⟩ <;> decide)); (case h2 => simp only [Int.reduceToNat, Int.reducePow]; try rfl))
  | with_reducible refine s_band ?_ | with_reducible refine s_bor ?_ | with_reducible refine s_bxor ?_ | ((with_reducible refine' s_shl ?h1 ?_); (case h1 => walk_at "ar")) | ((with_reducible refine' s_shr ?h1 ?_); (case h1 => walk_at "ar"))
  | with_reducible refine s_eq_b ?_ | with_reducible refine s_ne_b ?_ | with_reducible refine s_eq_s ?_ | with_reducible refine s_ne_s ?_ | ((with_reducible refine' s_is ?h1 ?_); (case h1 => exact rfl)) | ((with_reducible refine' s_isN ?h1 ?_); (case h1 => exact rfl))
  | ((with_reducible refine' s_ix_l ?h1 ?h2 ?_); (case h1 => walk_at "isl"); (case h2 => first | assumption | exact rfl)) | ((with_reducible refine' s_ix_t ?h1 ?h2 ?_); (case h1 => walk_at "ist"); (case h2 => exact rfl)) | ((with_reducible refine' s_ix_ivE ?h1 ?h2 ?h3 ?h4 ?h5 ?_); (case h1 => walk_at "isl"); (case h2 => walk_at "iv"); (case h3 => walk_at "ar"); (case h4 => walk_at "ar"); (case h5 => first | (simp only [Int.reduceToNat]; exact rfl) | exact rfl)) | ((with_reducible refine' s_ix_tvE ?h1 ?h2 ?h3 ?h4 ?h5 ?_); (case h1 => walk_at "ist"); (case h2 => walk_at "iv"); (case h3 => walk_at "ar"); (case h4 => walk_at "ar"); (case h5 => first | (simp only [Int.reduceToNat]; exact rfl) | exact rfl))
  | ((with_reducible refine' s_eq_vol ?h1 ?h2 ?h3 ?h4 ?_); (case h1 => walk_at "mem"); (case h2 => walk_at "mem"); (case h3 => walk_at "ln"); (case h4 => walk_at "ln")) | ((with_reducible refine' s_ne_vol ?h1 ?h2 ?h3 ?h4 ?_); (case h1 => walk_at "mem"); (case h2 => walk_at "mem"); (case h3 => walk_at "ln"); (case h4 => walk_at "ln"))
  | ((with_reducible refine' s_eq_iv ?h1 ?h2 ?h3 ?h4 ?_); (case h1 => walk_at "isl"); (case h2 => walk_at "isl"); (case h3 => walk_at "iv"); (case h4 => walk_at "iv")) | ((with_reducible refine' s_ne_iv ?h1 ?h2 ?h3 ?h4 ?_); (case h1 => walk_at "isl"); (case h2 => walk_at "isl"); (case h3 => walk_at "iv"); (case h4 => walk_at "iv"))
  | ((with_reducible refine' s_eq_tv ?h1 ?h2 ?h3 ?h4 ?_); (case h1 => walk_at "ist"); (case h2 => walk_at "ist"); (case h3 => walk_at "iv"); (case h4 => walk_at "iv")) | ((with_reducible refine' s_ne_tv ?h1 ?h2 ?h3 ?h4 ?_); (case h1 => walk_at "ist"); (case h2 => walk_at "ist"); (case h3 => walk_at "iv"); (case h4 => walk_at "iv"))
  | ((with_reducible refine' s_eq_dp (n := 8) (m := 8) ?h1 ?h2 ?h3 ?h4 ?h5 ?_); (case h1 => walk_at "dp"); (case h2 => walk_at "dp"); (case h3 => walk_at "nb"); (case h4 => walk_at "nb"); (case h5 => walk_at "di")) | ((with_reducible refine' s_ne_dp (n := 8) (m := 8) ?h1 ?h2 ?h3 ?h4 ?h5 ?_); (case h1 => walk_at "dp"); (case h2 => walk_at "dp"); (case h3 => walk_at "nb"); (case h4 => walk_at "nb"); (case h5 => walk_at "di"))
  | ((with_reducible refine' s_eq_bs ?h1 ?h2 ?h3 ?h4 ?_); (case h1 => walk_at "isl"); (case h2 => walk_at "isl"); (case h3 => walk_at "bv"); (case h4 => walk_at "bv")) | ((with_reducible refine' s_ne_bs ?h1 ?h2 ?h3 ?h4 ?_); (case h1 => walk_at "isl"); (case h2 => walk_at "isl"); (case h3 => walk_at "bv"); (case h4 => walk_at "bv"))
  | ((with_reducible refine' s_sl_i ?h1 (fun _ => ?_)); (case h1 => walk_at "isl")) | ((with_reducible refine' s_sl_r ?h1 (fun _ => ?_)); (case h1 => walk_at "isl")) | ((with_reducible refine' s_sl_l ?h1 (fun _ => ?_)); (case h1 => walk_at "isl"))
  | ((with_reducible refine' s_len_ldT ?h1 ?h2 ?_); (case h1 => assumption); (case h2 => walk_at "mem")) | ((with_reducible refine' s_len_ldW ?h1 ?h2 ?_); (case h1 => assumption); (case h2 => walk_at "mem")) | ((with_reducible refine' s_len_refs ?h1 ?_); (case h1 => walk_at "isl")) | ((with_reducible refine' s_len_i ?h1 ?_); (case h1 => walk_at "isl")) | ((with_reducible refine' s_len_ti ?h1 ?_); (case h1 => walk_at "ist")) | ((with_reducible refine' s_len_lN ?h1 ?h2 ?_); (case h1 => walk_at "isl"); (case h2 => (simp only [List.length_cons, List.length_nil, Nat.reduceAdd]; exact rfl))) | ((with_reducible refine' s_len_tN ?h1 ?h2 ?_); (case h1 => walk_at "ist"); (case h2 => (simp only [List.length_cons, List.length_nil, Nat.reduceAdd]; exact rfl))) | ((with_reducible refine' s_len_l ?h1 ?_); (case h1 => walk_at "isl")) | ((with_reducible refine' s_len_t ?h1 ?_); (case h1 => walk_at "ist")) | ((with_reducible refine' s_list_l ?h1 (fun _ => ?_)); (case h1 => walk_at "isl")) | ((with_reducible refine' s_list_t ?h1 (fun _ => ?_)); (case h1 => walk_at "ist")) | ((with_reducible refine' s_tuple_l ?h1 (fun _ => ?_)); (case h1 => walk_at "isl")) | ((with_reducible refine' s_tuple_t ?h1 ?_); (case h1 => walk_at "ist"))
  | ((with_reducible refine' s_divmod ?h1 (fun _ => ?_)); (case h1 => constructor <;> decide)) | with_reducible refine s_abs ?_ | with_reducible refine s_max2 ?_ | with_reducible refine s_min2 ?_ | with_reducible refine s_int_i ?_ | with_reducible refine s_int_b ?_ | ((with_reducible refine' s_sum ?h1 ?_); (case h1 => walk_at "isl"))
  | ((with_reducible refine' s_isi_ty (b := true) ty_i ?h2 ?_); (case h2 => (refine kit_ty ?_; decide +kernel))) | ((with_reducible refine' s_isi_ty (b := false) ty_i ?h2 ?_); (case h2 => (refine kit_ty ?_; decide +kernel))) | ((with_reducible refine' s_isi_ty (b := true) ty_b ?h2 ?_); (case h2 => (refine kit_ty ?_; decide +kernel))) | ((with_reducible refine' s_isi_ty (b := false) ty_b ?h2 ?_); (case h2 => (refine kit_ty ?_; decide +kernel))) | ((with_reducible refine' s_isi_ty (b := true) ty_n ?h2 ?_); (case h2 => (refine kit_ty ?_; decide +kernel))) | ((with_reducible refine' s_isi_ty (b := false) ty_n ?h2 ?_); (case h2 => (refine kit_ty ?_; decide +kernel))) | ((with_reducible refine' s_isi_ty (b := true) (ty_t ?h1) ?h2 ?_); (case h1 => first | walk_at "at" | walk_at "atm"); (case h2 => (refine kit_ty ?_; decide +kernel))) | ((with_reducible refine' s_isi_ty (b := false) (ty_t ?h1) ?h2 ?_); (case h1 => first | walk_at "at" | walk_at "atm"); (case h2 => (refine kit_ty ?_; decide +kernel))) | ((with_reducible refine' s_isi_ty (b := true) (ty_l ?h1) ?h2 ?_); (case h1 => first | walk_at "at" | walk_at "atm"); (case h2 => (refine kit_ty ?_; decide +kernel))) | ((with_reducible refine' s_isi_ty (b := false) (ty_l ?h1) ?h2 ?_); (case h1 => first | walk_at "at" | walk_at "atm"); (case h2 => (refine kit_ty ?_; decide +kernel)))
  | ((with_reducible refine' s_isi_ty (b := true) (ty_ldT ?h1 ?h3) ?h2 ?_); (case h1 => assumption); (case h3 => walk_at "mem"); (case h2 => (refine kit_ty ?_; decide +kernel))) | ((with_reducible refine' s_isi_ty (b := true) (ty_ldW ?h1 ?h3) ?h2 ?_); (case h1 => assumption); (case h3 => walk_at "mem"); (case h2 => (refine kit_ty ?_; decide +kernel)))
  | ((with_reducible refine' s_ix_ldW ?h1 ?h2 ?h3 ?h4 (fun _ _ _ _ => ?_)); (case h1 => assumption); (case h2 => walk_at "mem"); (case h3 => walk_at "ar"); (case h4 => walk_at "ar")) | ((with_reducible refine' s_ix_ldT ?h1 ?h2 ?h3 ?h4 (fun _ _ => ?_)); (case h1 => assumption); (case h2 => walk_at "mem"); (case h3 => walk_at "ar"); (case h4 => walk_at "ar"))
  | ((with_reducible refine' s_lenset ?h1 ?h2 ?h3 ?_); (case h1 => walk_at "isl"); (case h2 => walk_at "iv"); (case h3 => walk_at "le"))
  | ((with_reducible refine' s_in_i ?h1 ?h2 ?_); (case h1 => walk_at "isl"); (case h2 => walk_at "iv")) | ((with_reducible refine' s_nin_i ?h1 ?h2 ?_); (case h1 => walk_at "isl"); (case h2 => walk_at "iv")) | ((with_reducible refine' s_in_it ?h1 ?h2 ?_); (case h1 => walk_at "ist"); (case h2 => walk_at "iv")) | ((with_reducible refine' s_nin_it ?h1 ?h2 ?_); (case h1 => walk_at "ist"); (case h2 => walk_at "iv"))
  | ((with_reducible refine' s_sorted ?h1 ?h2 (fun _ _ _ _ _ => ?_)); (case h1 => walk_at "isl"); (case h2 => walk_at "iv"))
  | ((with_reducible refine' s_add_iv ?h1 ?h2 ?h3 ?h4 ?h5 (fun _ => ?_)); (case h1 => first | walk_at "at" | walk_at "atm"); (case h2 => first | walk_at "at" | walk_at "atm"); (case h3 => walk_at "iv"); (case h4 => walk_at "iv"); (case h5 => walk_at "le"))
  | ((with_reducible refine' s_add_l2 ?h1 ?h2 ?h3 (fun _ => ?_)); (case h1 => first | walk_at "at" | walk_at "atm"); (case h2 => first | walk_at "at" | walk_at "atm"); (case h3 => walk_at "le"))
  | ((with_reducible refine' s_all ?h1 ?_); (case h1 => walk_at "at"))
  | ((with_reducible refine' s_rep1 ?h1 ?h2 ?h3 (fun _ => ?_)); (case h1 => walk_at "at"); (case h2 => walk_at "ar"); (case h3 => omega))
  | ((with_reducible refine' s_rep ?h1 ?h2 ?h3 ?h4 (fun _ => ?_)); (case h1 => walk_at "at"); (case h2 => walk_at "ar"); (case h3 => walk_at "ar"); (case h4 => walk_at "ar"))
  | with_reducible refine s_tru_b ?_ | with_reducible refine s_tru_i ?_)
local macro_rules | `(tactic| walk_at "st") => `(tactic| first
  | with_reducible refine s_seq ?_ | with_reducible refine s_last ?_ | with_reducible refine s_asg ?_ | ((with_reducible refine' s_name ?h1 ?_); (case h1 => walk_at "slot")) | with_reducible refine s_if ?_ | with_reducible refine s_ret ?_ | with_reducible refine s_drop ?_ | with_reducible refine s_next ?_ | with_reducible refine s_retN ?_ | with_reducible refine s_for ?_
  | with_reducible refine s_hcons ?_ | with_reducible refine s_hnil ?_ | ((with_reducible refine' s_htup ?h1 ?h2 ?_); (case h1 => walk_at "ist"); (case h2 => exact rfl)) | ((with_reducible refine' s_hlst ?h1 ?h2 ?_); (case h1 => walk_at "isl"); (case h2 => first | exact rfl | (simp only [List.length_map]; walk_at "ln"))) | with_reducible refine s_hsub ?_ | with_reducible refine s_setf ?_ | with_reducible refine s_cont ?_ | with_reducible refine s_break ?_
  | ((with_reducible refine s_wk ?_); walk_at "s")
  | with_reducible refine s_rng1 ?_ | ((with_reducible refine' s_rng1v ?h1 ?_); (case h1 => walk_at "ar")) | with_reducible refine s_rng2 ?_ | ((with_reducible refine' s_rng2v ?h1 ?_); (case h1 => walk_at "ar")) | with_reducible refine s_kseq ?_ | ((with_reducible refine' s_kseqT ?h1 ?h2 (fun _ _ _ => ?_)); (case h1 => assumption); (case h2 => walk_at "mem")) | ((with_reducible refine' s_kseqW ?h1 ?h2 (fun _ _ _ => ?_)); (case h1 => assumption); (case h2 => walk_at "mem")) | ((with_reducible refine' s_zipv ?h1 ?h2 ?_); (case h1 => walk_at "isl"); (case h2 => walk_at "isl")) | ((with_reducible refine' s_kseqv ?h1 ?_); (case h1 => walk_at "isl")) | ((with_reducible refine' s_kseqt ?h1 ?_); (case h1 => walk_at "ist")) | with_reducible refine s_ktup ?_ | ((with_reducible refine' s_ktupv ?h1 ?_); (case h1 => walk_at "ist"))
  | ((with_reducible refine' s_lct ?h1 ?_); (case h1 => exact rfl)) | with_reducible refine s_yes ?_ | ((with_reducible refine' s_lcnB ?h1 ?h2); (case h1 => exact rfl); (case h2 => walk_at "lic")) | ((with_reducible refine' s_lcyB ?h1 ?h2 ?h3 ?h4); (case h1 => exact rfl); (case h2 => assumption); (case h3 => walk_at "lic"); (case h4 => exact rfl)) |  ((with_reducible refine s_lcnN ?_); walk_at "lic") | ((with_reducible refine' s_lcyI ?h1 ?h2 ?h3); (case h1 => assumption); (case h2 => walk_at "lic"); (case h3 => exact rfl)) | ((with_reducible refine' s_lcyR ?h1 ?h2 ?h3 ?h4 ?h5 ?h6); (case h1 => walk_at "at"); (case h2 => walk_at "iv"); (case h3 => exact rfl); (case h4 => assumption); (case h5 => omega); (case h6 => walk_at "lics"))
  | ((with_reducible refine' s_set_volR ?h0 ?h1 ?h2 ?h3 ?h4 ?h5 ?_); (case h0 => walk_at "rp"); (case h1 => walk_at "ln"); (case h2 => omega); (case h3 => walk_at "lt"); (case h4 => omega); (case h5 => walk_at "rl"))
  | ((with_reducible refine' s_set_cellR ?h0 ?h1 ?h2 ?h3 ?h4 ?h5 ?_); (case h0 => walk_at "rp"); (case h1 => walk_at "ln"); (case h2 => omega); (case h3 => walk_at "lt"); (case h4 => omega); (case h5 => walk_at "rl"))
  | ((with_reducible refine' s_set_rowR ?h1 ?h2 ?h3 ?h4 ?h5 ?h6 ?_); (case h1 => walk_at "pull"); (case h2 => walk_at "pull"); (case h3 => walk_at "iv"); (case h4 => walk_at "ln"); (case h5 => omega); (case h6 => walk_at "lt"))
  | ((with_reducible refine' s_set_i ?h1 ?h2 ?_); (case h1 => walk_at "wr"); (case h2 => (refine ixN_pos ?_ ?_ <;> walk_at "ar"))) | ((with_reducible refine' s_set_l ?h1 ?h2 ?_); (case h1 => walk_at "wr"); (case h2 => (refine ixN_pos ?_ ?_ <;> walk_at "ar")))
  | ((with_reducible refine' s_appT ?h1 ?h2 ?h3 ?h4 ?h5 (fun _ _ => ?_)); (case h1 => first | assumption | exact LdT.nil); (case h2 => walk_at "pull"); (case h3 => walk_at "pull"); (case h4 => walk_at "iv"); (case h5 => walk_at "ln")) | ((with_reducible refine' s_appP ?h1 ?h2 ?h3 ?h4 ?h5 (fun _ _ => ?_)); (case h1 => assumption); (case h2 => first | exact Pulls.cons .hd (Pulls.cons .hd Pulls.nil) | (refine Pulls.cons ?_ (Pulls.cons ?_ Pulls.nil) <;> walk_at "pull")); (case h3 => walk_at "pull"); (case h4 => walk_at "iv"); (case h5 => walk_at "ln")) | ((with_reducible refine' s_appW ?h1 ?h2 ?h3 ?h4 ?h5 (fun _ _ => ?_)); (case h1 => first | assumption | exact LdW.nil); (case h2 => first | exact Pulls.cons .hd (Pulls.cons .hd Pulls.nil) | (refine Pulls.cons ?_ (Pulls.cons ?_ Pulls.nil) <;> walk_at "pull")); (case h3 => walk_at "pull"); (case h4 => walk_at "iv"); (case h5 => walk_at "ln")) | ((with_reducible refine' s_appR ?h1 ?h2 ?h3 ?h4 ?h5 ?_); (case h1 => walk_at "pull"); (case h2 => walk_at "pull"); (case h3 => walk_at "iv"); (case h4 => walk_at "ln"); (case h5 => walk_at "ln")) | ((with_reducible refine' s_ext_i ?h1 ?h2 ?h3 ?h4 ?h5 ?_); (case h1 => first | walk_at "at" | walk_at "atm"); (case h2 => walk_at "wr"); (case h3 => walk_at "iv"); (case h4 => walk_at "iv"); (case h5 => walk_at "ln")) | ((with_reducible refine' s_append ?h1 ?h2 ?_); (case h1 => walk_at "wr"); (case h2 => walk_at "ar")) | ((with_reducible refine' s_clear ?h1 ?_); (case h1 => walk_at "wr"))
  | with_reducible refine s_never ?_ | walk_at "lc")
local macro_rules | `(tactic| walk_at "lc") => `(tactic| first
  | ((with_reducible refine' a_ints _ ?h1 ?h2 ?h3 ?h4); (case h1 => exact rfl); (case h2 => walk_at "le"); (case h3 => ((intro _ _ _ _ _); walk_at "w"; done)); (case' h4 => intro _))
  | ((with_reducible refine' a_rows _ ?h1 ?h3 ?h4); (case h1 => exact rfl); (case h3 => ((intro _ _ _ _ _); walk_at "w"; done)); (case' h4 => intro _ _ _ _))
  | ((with_reducible refine' a_zipW ?h1 ?h2 ?h3 ?h4 ?h5 ?h6 ?h7 ?h8 ?h9 ?h10); (case h1 => walk_at "pull"); (case h2 => walk_at "isl"); (case h3 => walk_at "iv"); (case h4 => walk_at "ln"); (case h5 => walk_at "le"); (case h6 => simp); (case h7 => simp); (case h8 => decide); (case h9 => exact rfl); (case' h10 => intro _ _ _))
  | ((with_reducible refine' a_fst ?h1 ?h2 ?h3 ?h4 ?h5 ?h6 ?h7 ?h8 ?h9); (case h2 => assumption); (case h3 => assumption); (case h1 => walk_at "mem"); (case h4 => walk_at "le"); (case h5 => simp); (case h6 => simp); (case h7 => decide); (case h8 => exact rfl); (case' h9 => intro _))
  | ((with_reducible refine' a_snd ?h1 ?h2 ?h3 ?h4 ?h5 ?h6 ?h7 ?h8 ?h9); (case h2 => assumption); (case h3 => assumption); (case h1 => walk_at "mem"); (case h4 => walk_at "le"); (case h5 => simp); (case h6 => simp); (case h7 => decide); (case h8 => exact rfl); (case' h9 => intro _ _ _ _))
  | ((with_reducible refine' a_dropD ?h1 ?h2 ?h3 ?h4 ?h5 ?h6); (case h2 => assumption); (case h3 => assumption); (case h1 => walk_at "mem"); (case h4 => exact rfl); (case h5 => ((intro _ _ _ _ _); walk_at "w"; done)); (case' h6 => intro _))
  | ((with_reducible refine' a_dropR ?h0 ?h1 ?h3 ?h4); (case h0 => walk_at "isl"); (case h1 => exact rfl); (case h3 => ((intro _ _ _); walk_at "w"; done)); (case' h4 => intro _))
  | ((with_reducible refine' a_intsL _ ?h0 ?hv ?h1 ?h2 ?h3 ?h4); (case h0 => walk_at "isl"); (case hv => walk_at "iv"); (case h1 => exact rfl); (case h2 => walk_at "le"); (case h3 => ((intro _ _ _ _ _); walk_at "w"; done)); (case' h4 => intro _))
  | ((with_reducible refine' a_intsN _ ?h1 ?h2 ?h3 ?h4); (case h1 => exact rfl); (case h2 => walk_at "le"); (case h3 => ((intro _ _ _ _ _); walk_at "w"; done)); (case' h4 => intro _))
  | ((with_reducible refine' a_boolsL _ ?h0 ?hv ?h1 ?h2 ?h3 ?h4); (case h0 => walk_at "isl"); (case hv => walk_at "iv"); (case h1 => exact rfl); (case h2 => walk_at "le"); (case h3 => ((intro _ _ _ _ _); walk_at "w"; done)); (case' h4 => intro _))
  | ((with_reducible refine' a_bools _ ?h1 ?h2 ?h3 ?h4); (case h1 => exact rfl); (case h2 => walk_at "le"); (case h3 => ((intro _ _ _ _ _); walk_at "w"; done)); (case' h4 => intro _))
  | ((with_reducible refine' a_dropT ?h0 ?hv ?h1 ?h3 ?h4); (case h0 => walk_at "ist"); (case hv => walk_at "iv"); (case h1 => exact rfl); (case h3 => ((intro _ _ _); walk_at "w"; done)); (case' h4 => intro _))
  | ((with_reducible refine' a_filtT _ ?h0 ?hv ?h1 ?h2 ?h3 ?h4); (case h0 => walk_at "ist"); (case hv => walk_at "iv"); (case h1 => exact rfl); (case h2 => walk_at "le"); (case h3 => ((intro _ _ _ _ _); walk_at "w"; done)); (case' h4 => intro _))
  | ((with_reducible refine' a_filt _ ?h0 ?hv ?h1 ?h2 ?h3 ?h4); (case h0 => walk_at "isl"); (case hv => walk_at "iv"); (case h1 => exact rfl); (case h2 => walk_at "le"); (case h3 => ((intro _ _ _ _ _); walk_at "w"; done)); (case' h4 => intro _)))
local macro_rules | `(tactic| walk_at "le") => `(tactic| first | decide | omega | (refine Nat.le_trans cutG_len ?_; omega) | (simp only [List.length_map, List.length_range, List.length_set, List.length_append, List.length_cons, List.length_nil, List.length_replicate, putsM_len, putAt_len] at *; omega) | (refine Nat.le_trans (Nat.le_of_eq (rowAt_len (m := 8) (by walk_at "a8") (by omega) (by walk_at "lt"))) ?_; decide))
local macro_rules | `(tactic| walk_at "rp") => `(tactic| first | with_reducible exact Rp.hd | ((with_reducible apply Rp.tl); walk_at "rp"))
local macro_rules | `(tactic| walk_at "rl") => `(tactic| first | omega | (rw [rowAt_len (by assumption) (by omega) (by omega)]; omega) | (rw [rowAt_len (m := 8) (by walk_at "a8") (by omega) (by walk_at "lt")]; omega))
local macro_rules | `(tactic| walk_at "a8") => `(tactic| first | assumption | ((refine' putAt_all ?h1 ?h2 ?h3); (case h1 => walk_at "a8"); (case h2 => omega); (case h3 => walk_at "lt")) | ((refine' set_8 ?h1 ?h2); (case h1 => walk_at "a8"); (case h2 => walk_at "e8")))
local macro_rules | `(tactic| walk_at "e8") => `(tactic| first | assumption | exact rfl | (simp only [List.length_map, List.length_set, List.length_range]; first | assumption | omega | exact rfl) | (rw [List.length_map]; exact rowAt_len (m := 8) (by walk_at "a8") (by omega) (by walk_at "lt")) | exact rowAt_len (m := 8) (by walk_at "a8") (by omega) (by walk_at "lt"))
local macro_rules | `(tactic| walk_at "bd") => `(tactic| first | assumption | ((refine' Bnd.put ?h1 ?h2 ?h3 ?h4); (case h1 => walk_at "bd"); (case h2 => omega); (case h3 => walk_at "lt"); (case h4 => first | assumption | omega)) | ((refine' Bnd.set ?h1 ?h2); (case h1 => walk_at "bd"); (case h2 => assumption)))
local macro_rules | `(tactic| walk_at "yes") => `(tactic| first | with_reducible exact rfl | assumption | omega | ((with_reducible refine And.intro ?_ ?_) <;> walk_at "yes") | with_reducible exact filt_ff | with_reducible exact filt_nt | exact True.intro)
local macro_rules | `(tactic| walk_at "no") => `(tactic| first | assumption | omega | decide +kernel)
local macro_rules | `(tactic| walk_at "br") => `(tactic| first
  | ((with_reducible refine' s_iteDT ?h1 ?_); (case h1 => walk_at "yes")) | ((with_reducible refine' s_iteDF ?h1 ?_); (case h1 => walk_at "no")) | ((with_reducible refine' s_iteNT ?h1 ?_); (case h1 => walk_at "yes")) | ((with_reducible refine' s_iteNF ?h1 ?_); (case h1 => walk_at "no"))
  | ((with_reducible refine' s_flt ?h1 ?h2 ?h3); (case h1 => exact rfl); (case h3 => walk_at "lic"))
  | with_reducible refine s_iteT ?_ | with_reducible refine s_iteF ?_ | ((with_reducible refine s_iteDx (fun _ => ?_) (fun _ => ?_)) <;> try (exfalso; omega)) | ((with_reducible refine s_iteNx (fun _ => ?_) (fun _ => ?_)) <;> try (exfalso; omega)) | with_reducible refine s_iteNb ?_ | with_reducible refine s_iteb (fun _ => ?_) (fun _ => ?_))
local macro_rules | `(tactic| walk_at "fo") => `(tactic| first
  | walk_at "alt"
  | ((with_reducible refine' s_isi_own ?h1 ?h2 ?h3 ?h4 ?_); (case h1 => first | walk_at "at" | walk_at "atm"); (case h2 => assumption); (case h3 => assumption); (case h4 => assumption))
  | ((with_reducible refine' s_fldv ?h1 ?h2 ?h3 ?h4 ?_); (case h1 => first | walk_at "at" | walk_at "atm"); (case h2 => assumption); (case h3 => assumption); (case h4 => walk_at "fld"))
  | ((with_reducible refine' s_setfv ?h1 ?h2 ?h3 ?h4 ?_); (case h4 => walk_at "wr"); (case h1 => assumption); (case h2 => assumption); (case h3 => walk_at "fz"))
  | ((with_reducible refine' s_objk ?h1 ?h2 ?_); (case h1 => first | walk_at "at" | walk_at "atm"); (case h2 => walk_at "fld"))
  | ((with_reducible refine' tyl_ldT ?h1 ?h2 ?_); (case h1 => first | assumption | exact LdT.nil); (case h2 => walk_at "mem")) | ((with_reducible refine' tyl_ldW ?h1 ?h2 ?_); (case h1 => assumption); (case h2 => walk_at "mem")) | ((with_reducible refine' tyl_ldW (LdP.ldW ?h1) ?h2 ?_); (case h1 => assumption); (case h2 => walk_at "mem")) | ((with_reducible refine' s_tylk ?h1 ?_); (case h1 => walk_at "isl"))
  | (with_reducible refine ⟨(rfl : V.non = V.non), ?_⟩))
local macro_rules | `(tactic| walk_at "s") => `(tactic| first | with_reducible refine SX.go ?_ | walk_at "c" | walk_at "op" | walk_at "fo" | walk_at "br" | walk_at "st" | walk_at "ev")
local macro_rules | `(tactic| walk_at "w") => `(tactic| repeat' walk_at "s")
local macro_rules | `(tactic| walk_at "lt") => `(tactic| first | omega | (simp only [List.length_map, List.length_range, List.length_set, putsM_len, putAt_len]; omega) | (simp only [List.length_set, putAt_len] at *; omega))
local macro_rules | `(tactic| walk_at "go") => `(tactic| repeat with_reducible refine Wk.go ?_)
local macro_rules | `(tactic| walk_at "sl") => `(tactic| try simp only [wipe, List.set_cons_zero, List.set_cons_succ])
local macro_rules | `(tactic| walk_at "alt") => `(tactic| first
  | ((with_reducible refine s_altL ?_); (with_reducible refine SX.go ?_); (with_reducible refine' s_objk ?h1 ?h2 ?_); (case h1 => first | walk_at "at" | walk_at "atm"); (case h2 => walk_at "fld"))
  | ((with_reducible refine s_altR ?_); walk_at "alt")
  | ((with_reducible refine SX.go ?_); (with_reducible refine' s_objk ?h1 ?h2 ?_); (case h1 => first | walk_at "at" | walk_at "atm"); (case h2 => walk_at "fld")))
local macro_rules | `(tactic| walk_at "bv") => `(tactic| first | with_reducible exact BoolsV.map | with_reducible exact BoolsV.nil | ((with_reducible apply BoolsV.cons); walk_at "bv"))
local macro_rules | `(tactic| walk_at "g1") => `(tactic| repeat with_reducible refine Wk.flat ?_)
local macro_rules | `(tactic| walk_at "lc") => `(tactic| first
  | with_reducible refine s_range2 (fun _ => ?_)
  | ((with_reducible refine' s_listR ?h1 ?h2 (fun _ => ?_)); (case h1 => walk_at "at"); (case h2 => omega))
  | ((with_reducible refine' s_sdk ?h1 ?_); (case h1 => first | walk_at "at" | walk_at "atm")))

local macro_rules | `(tactic| walk_at "kany") => `(tactic| first | exact kany_nil | (refine' kany_t ?k1; (case k1 => assumption)) | (refine' kany_f ?k1 ?k2; (case k1 => assumption); (case k2 => walk_at "kany")))
local macro_rules | `(tactic| walk_at "pcl") => `(tactic| first | exact Paired.nil | (refine' Paired.cons (ClsV.own _) ?k1; (case k1 => walk_at "pcl")) | (refine' Paired.cons (ClsV.ty _) ?k1; (case k1 => walk_at "pcl")))
local macro_rules | `(tactic| walk_at "c") => `(tactic| first
  | with_reducible refine s_makeXK (fun _ _ => ?_)
  | ((with_reducible refine' s_isE ?h1 ?h2 ?_); (case h1 => assumption); (case h2 => assumption))
  | ((with_reducible refine' s_isEty ?h1 ?h2 ?_); (case h1 => assumption); (case h2 => assumption))
  | ((with_reducible refine' s_isET ?h1 ?h2 ?h3 ?h4 ?_); (case h1 => assumption); (case h2 => walk_at "at"); (case h3 => walk_at "pcl"); (case h4 => walk_at "kany")))
/-- the law's cell: the script's number at a place, or 0 -/
def cellM (ns : List Int) (k : Int) : Int := if k < ns.length then ns.getD k.toNat 0 else 0
def mixN (c k : Int) : Int := (c + 7919 * k + 1) * 48271 % 2147483647
def mixM (c k : Int) : Int := mixN c k * (mixN c k / 1009 + 69621) % 2147483647
theorem mixM_b (c k : Int) : 0 ≤ mixM c k ∧ mixM c k < 2147483647 := by unfold mixM; omega
theorem mixN_b (c k : Int) : 0 ≤ mixN c k ∧ mixN c k < 2147483647 := by unfold mixN; omega
def numN (c k : Int) : Int :=
  if mixM c k % 8 = 0 then 0 - mixM c k / 8 * mixM c k * mixM c k * mixM c (k + 50021) * mixM c k % 10000000000000000000000000000000000000000
  else if mixM c k % 8 = 1 then mixM c k / 8 * mixM c k * mixM c k * mixM c (k + 50021) * mixM c k % 10000000000000000000000000000000000000000
  else if mixM c k % 8 < 4 then mixM c k / 8 * mixM c k % 1000000000000
  else mixM c k / 8 % 50
theorem numN_b (c k : Int) : -10000000000000000000000000000000000000000 < numN c k ∧ numN c k < 10000000000000000000000000000000000000000 := by
  unfold numN
  generalize mixM c k / 8 * mixM c k * mixM c k * mixM c (k + 50021) * mixM c k = a
  generalize mixM c k / 8 * mixM c k = b
  generalize mixM c k = d
  split
  · omega
  · split
    · omega
    · split <;> omega
def anyM (n : Nat) (c : Int) : List (List Int) := (List.range n).map fun (b : Nat) => (List.range 8).map fun (j : Nat) => numN c (8 * (b : Int) + (j : Int))
theorem anyM_len (n : Nat) (c : Int) : (anyM n c).length = n := by simp [anyM]
theorem anyM_8 (n : Nat) (c : Int) : ∀ r ∈ anyM n c, r.length = 8 := by
  intro r hr
  obtain ⟨b, _, rfl⟩ := List.mem_map.mp hr
  simp
theorem anyM_b (n : Nat) (c : Int) : ∀ r ∈ anyM n c, ∀ x ∈ r, -10000000000000000000000000000000000000000 < x ∧ x < 10000000000000000000000000000000000000000 := by
  intro r hr x hx
  obtain ⟨b, _, rfl⟩ := List.mem_map.mp hr
  obtain ⟨j, _, rfl⟩ := List.mem_map.mp hx
  exact numN_b _ _
/-- the fields of a layout, as __init__ stores them -/
def fsL (F E B : Int) : List (Str × V) := putF "data" (.int B) (putF "slots" (.int E) (putF "files" (.int F) []))
theorem fsL_files (F E B : Int) : (fsL F E B).lookup ("files" : Str) = some (.int F) := by
  unfold fsL
  rw [lookup_putF, if_neg (by decide +kernel), lookup_putF, if_neg (by decide +kernel), lookup_putF, if_pos rfl]
theorem fsL_slots (F E B : Int) : (fsL F E B).lookup ("slots" : Str) = some (.int E) := by
  unfold fsL
  rw [lookup_putF, if_neg (by decide +kernel), lookup_putF, if_pos rfl]
theorem fsL_data (F E B : Int) : (fsL F E B).lookup ("data" : Str) = some (.int B) := by
  unfold fsL
  rw [lookup_putF, if_pos rfl]
theorem fsL_no {F E B : Int} {m : Str} (h1 : ¬ m = "data") (h2 : ¬ m = "slots") (h3 : ¬ m = "files") : (fsL F E B).lookup m = none := by
  unfold fsL
  rw [lookup_putF, if_neg h1, lookup_putF, if_neg h2, lookup_putF, if_neg h3]
  rfl
/-- a layout stands at p -/
def layC (K : PySem.W.Frag) (p dx : Addr) (F E B : Int) : Chunk := [(p, .ins (He.ga K "Layout") dx (fsL F E B))]
local macro_rules | `(tactic| walk_at "fld") => `(tactic| first | exact fsL_files _ _ _ | exact fsL_slots _ _ _ | exact fsL_data _ _ _ | exact fsL_no (by decide +kernel) (by decide +kernel) (by decide +kernel))
theorem lay_at {K : PySem.W.Frag} {p dx : Addr} {F E B : Int} {L : Lg} (h : layC K p dx F E B ∈ L) : At L p (.ins (He.ga K "Layout") dx (fsL F E B)) := At.mem h List.mem_cons_self
local macro_rules | `(tactic| walk_at "atm") => `(tactic| ((with_reducible refine' lay_at ?h1); (case h1 => walk_at "mem")))
def inB (F E B : Int) : Prop := 2 ≤ F ∧ F ≤ 12 ∧ 1 ≤ E ∧ E ≤ 8 ∧ 2 ≤ B ∧ B ≤ 40
/-- the four numbers of a slot -/
def slotM (F : Int) (rows : List (List Int)) (s : Int) : List Int := cutG (rowAt rows (10 + F + s / 2)) (some (s % 2 * 4)) (some (s % 2 * 4 + 4))
/-- the slot's four numbers -/
def slG (F : Int) (R : List (List Int)) (s : Int) (j : Nat) : Int := (slotM F R s).getD j 0
theorem slotM_eq {F : Int} {R : List (List Int)} {s : Int} (h8 : ∀ r ∈ R, r.length = 8) (h0 : 0 ≤ 10 + F + s / 2) (h1 : 10 + F + s / 2 < R.length) : slotM F R s = [slG F R s 0, slG F R s 1, slG F R s 2, slG F R s 3] := by
  have hr := rowAt_len h8 h0 h1
  have hl : (slotM F R s).length = 4 := by
    unfold slotM
    rw [cut_len (by omega) (by omega) (by omega)]
    omega
  unfold slG
  match slotM F R s, hl with
  | [_, _, _, _], _ => rfl
local macro_rules | `(tactic| walk_at "c") => `(tactic| first
  | ((with_reducible refine' s_nin_id ?h1 ?h2 ?_); (case h1 => assumption); (case h2 => walk_at "at"))
  | ((with_reducible refine' s_in_id ?h1 ?h2 ?_); (case h1 => assumption); (case h2 => walk_at "at"))
  | ((with_reducible refine' s_ix_id ?h1 ?h2 ?h3 (fun _ _ => ?_)); (case h1 => assumption); (case h3 => assumption); (case h2 => walk_at "at"))
  | ((with_reducible refine' s_dg1k ?h1 ?_); (case h1 => walk_at "at"))
  | ((with_reducible refine' s_dg1_id ?h1 ?h2 ?_); (case h1 => assumption); (case h2 => walk_at "at"))
  | ((with_reducible refine' s_set_id ?h1 ?h2 ?h3 (fun _ _ => ?_)); (case h1 => assumption); (case h2 => first | assumption | omega); (case h3 => walk_at "wr"))
  | with_reducible refine s_ne_opt ?_ | with_reducible refine s_eq_opt ?_ | with_reducible refine s_isN_opt ?_ | with_reducible refine s_is_opt ?_
  | ((with_reducible refine' s_ix_last ?h1 ?h2 ?h3 ?_); (case h1 => walk_at "isl"); (case h2 => walk_at "iv"); (case h3 => first | assumption | (exact List.getLast?_concat) | (exact rfl)))
  | ((with_reducible refine' s_sl_ldT ?h1 ?h2 (fun _ _ _ => ?_)); (case h1 => assumption); (case h2 => walk_at "pull")))
abbrev OptF := Int → Option Int
abbrev Rank := Int → Nat
theorem list4' {l : List Int} (h : l.length = 4) : ∃ a b c d, l = [a, b, c, d] := by
  match l, h with
  | [a, b, c, d], _ => exact ⟨a, b, c, d, rfl⟩
/-! used slots -/
def ust (F : Int) (R : List (List Int)) (s : Nat) : List (List Int) := if slG F R s 0 = 1 then [[(s : Int), slG F R s 1, slG F R s 2, slG F R s 3]] else []
theorem ust_len (F : Int) (R : List (List Int)) (s : Nat) : (ust F R s).length ≤ 1 := by unfold ust; split <;> simp
def usedM (F E : Int) (R : List (List Int)) : List (List Int) := accM (ust F R) (2 * E).toNat
theorem usedM_len {F E : Int} {R : List (List Int)} : (usedM F E R).length ≤ (2 * E).toNat := accM_len (fun s => ust_len F R s) _
theorem mem_accM {g : Nat → List (List Int)} {n : Nat} {r : List Int} : r ∈ accM g n ↔ ∃ i, i < n ∧ r ∈ g i := by
  unfold accM
  rw [List.mem_flatten]
  constructor
  · rintro ⟨l, hl, hr⟩
    obtain ⟨i, hi, rfl⟩ := List.mem_map.mp hl
    exact ⟨i, List.mem_range.mp hi, hr⟩
  · rintro ⟨i, hi, hr⟩
    exact ⟨_, List.mem_map.mpr ⟨i, List.mem_range.mpr hi, rfl⟩, hr⟩
theorem mem_usedM {F E : Int} {R : List (List Int)} {r : List Int} : r ∈ usedM F E R ↔ ∃ s : Nat, s < (2 * E).toNat ∧ slG F R s 0 = 1 ∧ r = [(s : Int), slG F R s 1, slG F R s 2, slG F R s 3] := by
  unfold usedM
  rw [mem_accM]
  constructor
  · rintro ⟨s, hs, hr⟩
    unfold ust at hr
    split at hr
    · rename_i h
      exact ⟨s, hs, h, List.mem_singleton.mp hr⟩
    · exact absurd hr (by simp)
  · rintro ⟨s, hs, h, rfl⟩
    exact ⟨s, hs, by unfold ust; rw [if_pos h]; simp⟩
theorem usedM_4 {F E : Int} {R : List (List Int)} : ∀ r ∈ usedM F E R, r.length = 4 := fun r hr => by
  obtain ⟨s, _, _, rfl⟩ := mem_usedM.mp hr
  rfl
/-! above, the ways up -/
def upF (us : List (List Int)) (f : Int) : Option Int := (us.find? fun r => decide (r.getD 3 0 = f)).map fun r => r.getD 1 0
def upsM (us : List (List Int)) : Int → Option Int := us.foldl (fun m r => putM m (r.getD 3 0) (r.getD 1 0)) noM
theorem upsM_take {us : List (List Int)} {i : Nat} {r : List Int} (h : us[i]? = some r) : upsM (us.take (i + 1)) = putM (upsM (us.take i)) (r.getD 3 0) (r.getD 1 0) := by
  unfold upsM
  rw [List.take_succ, h, List.foldl_append]
  rfl
theorem upF_none {us : List (List Int)} {f : Int} (h : ∀ r ∈ us, ¬ r.getD 3 0 = f) : upF us f = none := by
  unfold upF
  rw [Option.map_eq_none_iff, List.find?_eq_none]
  intro r hr
  simpa using h r hr
theorem upF_some {us : List (List Int)} {f : Int} {i : Nat} {r : List Int} (hi : us[i]? = some r) (hr : r.getD 3 0 = f) (h : ∀ r ∈ us.take i, ¬ r.getD 3 0 = f) : upF us f = some (r.getD 1 0) := by
  unfold upF
  rw [show us = us.take i ++ us.drop i from (List.take_append_drop i us).symm, List.find?_append]
  have e1 : (us.take i).find? (fun r => decide (r.getD 3 0 = f)) = none := by
    rw [List.find?_eq_none]
    intro r hr
    simpa using h r hr
  have hlt : i < us.length := (List.getElem?_eq_some_iff.mp hi).1
  have e2 : us.drop i = r :: us.drop (i + 1) := by
    rw [List.drop_eq_getElem_cons hlt]
    congr 1
    exact (List.getElem?_eq_some_iff.mp hi).2
  rw [e1, e2, List.find?_cons_of_pos (by rw [decide_eq_true hr])]
  rfl
/-- a way up, no longer than n steps -/
def wayM (m : Int → Option Int) : Nat → Int → List Int
  | 0, x => [x]
  | n + 1, x => x :: match m x with
    | none => []
    | some y => wayM m n y
/-- m leads down by g -/
def Low (m : Int → Option Int) (g : Int → Nat) : Prop := ∀ x y, m x = some y → g y < g x
theorem wayM_end {m : Int → Option Int} {n : Nat} {x : Int} (h : m x = none) : wayM m n x = [x] := by
  cases n with
  | zero => rfl
  | succ n => unfold wayM; rw [h]
theorem wayM_fuel {m : Int → Option Int} {g : Int → Nat} (hg : Low m g) : ∀ (n k : Nat) (x : Int), g x ≤ n → g x ≤ k → wayM m n x = wayM m k x
  | 0, k, x, h1, h2 => by
    have : m x = none := by
      cases hm : m x with
      | none => rfl
      | some y => have := hg x y hm; omega
    rw [wayM_end this, wayM_end this]
  | n + 1, 0, x, h1, h2 => by
    have : m x = none := by
      cases hm : m x with
      | none => rfl
      | some y => have := hg x y hm; omega
    rw [wayM_end this, wayM_end this]
  | n + 1, k + 1, x, h1, h2 => by
    unfold wayM
    cases hm : m x with
    | none => rfl
    | some y =>
      have := hg x y hm
      show x :: wayM m n y = x :: wayM m k y
      rw [wayM_fuel hg n k y (by omega) (by omega)]
theorem wayM_step {m : Int → Option Int} {g : Int → Nat} {x y : Int} (hg : Low m g) (h : m x = some y) : wayM m (g x) x = x :: wayM m (g y) y := by
  have := hg x y h
  obtain ⟨k, hk⟩ : ∃ k, g x = k + 1 := ⟨g x - 1, by omega⟩
  rw [hk]
  show x :: (match m x with | none => [] | some z => wayM m k z) = _
  rw [h]
  show x :: wayM m k y = _
  rw [wayM_fuel hg k (g y) y (by omega) (Nat.le_refl _)]
theorem wayM_len {m : Int → Option Int} : ∀ (n : Nat) (x : Int), (wayM m n x).length ≤ n + 1
  | 0, x => Nat.le_refl _
  | n + 1, x => by
    unfold wayM
    cases hm : m x with
    | none => simp
    | some y =>
      have := wayM_len (m := m) n y
      show (x :: wayM m n y).length ≤ _
      rw [List.length_cons]; omega
theorem last_split {ns : List Int} {y : Int} (h : ns.getLast? = some y) : ns = ns.dropLast ++ [y] := by
  obtain ⟨ys, rfl⟩ := List.getLast?_eq_some_iff.mp h
  rw [List.dropLast_concat]
/-- the state of the walk up: ns told so far, y the last one -/
structure WayI (m : Int → Option Int) (g : Int → Nat) (x : Int) (ns : List Int) (y : Int) : Prop where
  last : ns.getLast? = some y
  all : ns.dropLast ++ wayM m (g y) y = wayM m (g x) x
  low : ∀ z ∈ ns, g y ≤ g z
theorem WayI.start {m : Int → Option Int} {g : Int → Nat} {x : Int} : WayI m g x [x] x := ⟨rfl, rfl, fun z hz => by rw [List.mem_singleton.mp hz]; exact Nat.le_refl _⟩
theorem WayI.fin {m : Int → Option Int} {g : Int → Nat} {x y : Int} {ns : List Int} (h : WayI m g x ns y) (e : m y = none) : ns = wayM m (g x) x := by
  rw [← h.all, wayM_end e]
  exact last_split h.last
theorem WayI.new {m : Int → Option Int} {g : Int → Nat} {x y z : Int} {ns : List Int} (hg : Low m g) (h : WayI m g x ns y) (e : m y = some z) : ¬ z ∈ ns := fun hz => by
  have := h.low z hz
  have := hg y z e
  omega
theorem WayI.next {m : Int → Option Int} {g : Int → Nat} {x y z : Int} {ns : List Int} (hg : Low m g) (h : WayI m g x ns y) (e : m y = some z) : WayI m g x (ns ++ [z]) z := by
  have hlt := hg y z e
  refine ⟨List.getLast?_concat, ?_, fun w hw => ?_⟩
  · rw [List.dropLast_concat, ← h.all, wayM_step hg e]
    have e2 := last_split h.last
    conv => lhs; rw [e2]
    rw [List.append_assoc]
    rfl
  · rcases List.mem_append.mp hw with hw | hw
    · have := h.low w hw; omega
    · rw [List.mem_singleton.mp hw]; exact Nat.le_refl _
/-! slots filled -/
theorem cut4 {xs : List Int} {a : Int} {j : Nat} (ha : 0 ≤ a) (hj : j < 4) : (cutG xs (some a) (some (a + 4))).getD j 0 = xs.getD (a.toNat + j) 0 := by
  rw [cutG_lohi ha (by omega), show (a + 4).toNat - a.toNat = 4 by omega, List.getD_eq_getElem?_getD, List.getD_eq_getElem?_getD, List.getElem?_take, if_pos hj, List.getElem?_drop]
theorem slG_eq {F s : Int} {R : List (List Int)} {j : Nat} (hj : j < 4) : slG F R s j = (rowAt R (10 + F + s / 2)).getD ((s % 2 * 4).toNat + j) 0 := by
  unfold slG slotM
  exact cut4 (by omega) hj
theorem getD_set {xs : List Int} {i j : Nat} {v : Int} (hi : i < xs.length) : (xs.set i v).getD j 0 = if i = j then v else xs.getD j 0 := by
  rw [List.getD_eq_getElem?_getD, List.getD_eq_getElem?_getD, List.getElem?_set]
  by_cases e : i = j
  · rw [if_pos e, if_pos e, if_pos (by omega)]
    rfl
  · rw [if_neg e, if_neg e]
theorem slG_put {F s s' : Int} {R : List (List Int)} {j j' : Nat} {v : Int} (h8 : ∀ r ∈ R, r.length = 8) (hs : 0 ≤ s) (hs' : 0 ≤ s') (hF : 0 ≤ F) (hl : 10 + F + s / 2 < R.length) (hj : j < 4) (hj' : j' < 4) :
    slG F (putAt R (10 + F + s / 2) (s % 2 * 4 + (j : Int)).toNat v) s' j' = if s' = s ∧ j' = j then v else slG F R s' j' := by
  have hr := rowAt_len h8 (j := 10 + F + s / 2) (by omega) hl
  rw [slG_eq hj', slG_eq hj', rowAt_putAt (by omega) (by omega) hl]
  by_cases e : 10 + F + s' / 2 = 10 + F + s / 2
  · rw [if_pos e, getD_set (by omega), e]
    by_cases e2 : s' = s ∧ j' = j
    · rw [if_pos e2, if_pos (by obtain ⟨rfl, rfl⟩ := e2; omega)]
    · rw [if_neg e2, if_neg (by intro z; apply e2; constructor <;> omega)]
  · rw [if_neg e, if_neg (fun z => e (by rw [z.1]))]
theorem slG_row {F s b : Int} {R : List (List Int)} {j : Nat} {r : List Int} (hb : 0 ≤ b) (hb2 : b < 10 + F) (hs : 0 ≤ s) (hl : b < R.length) (hj : j < 4) : slG F (R.set b.toNat r) s j = slG F R s j := by
  rw [slG_eq hj, slG_eq hj, rowAt_set hb (by omega) hl, if_neg (by omega)]
/-! a table told by a list -/
def foldP (a b : Nat) (us : List (List Int)) : Int → Option Int := us.foldl (fun m r => putM m (r.getD a 0) (r.getD b 0)) noM
theorem foldP_take {a b : Nat} {us : List (List Int)} {i : Nat} {r : List Int} (h : us[i]? = some r) : foldP a b (us.take (i + 1)) = putM (foldP a b (us.take i)) (r.getD a 0) (r.getD b 0) := by
  unfold foldP
  rw [List.take_succ, h, List.foldl_append]
  rfl
theorem foldP_snoc {a b : Nat} {us : List (List Int)} {r : List Int} : foldP a b (us ++ [r]) = putM (foldP a b us) (r.getD a 0) (r.getD b 0) := by
  unfold foldP
  rw [List.foldl_append]
  rfl
theorem list_snoc_ind {P : List (List Int) → Prop} (h0 : P []) (hs : ∀ us r, P us → P (us ++ [r])) (us : List (List Int)) : P us := by
  have : ∀ n, ∀ us : List (List Int), us.length = n → P us := by
    intro n
    induction n with
    | zero => intro us h; rw [List.length_eq_zero_iff.mp h]; exact h0
    | succ n ih =>
      intro us h
      rcases List.eq_nil_or_concat us with e | ⟨ys, y, e⟩
      · rw [e] at h; cases h
      · subst e
        rw [List.concat_eq_append] at h ⊢
        exact hs _ _ (ih _ (by simp at h; omega))
  exact this _ us rfl
theorem foldP_none {a b : Nat} {us : List (List Int)} {x : Int} : (∀ r ∈ us, ¬ r.getD a 0 = x) → foldP a b us x = none := by
  refine list_snoc_ind (P := fun us => (∀ r ∈ us, ¬ r.getD a 0 = x) → foldP a b us x = none) (fun _ => rfl) (fun us r ih h => ?_) us
  rw [foldP_snoc]
  unfold putM
  rw [if_neg (fun z => h r (by simp) z.symm)]
  exact ih fun r' hr' => h r' (by simp [hr'])
theorem foldP_some {a b : Nat} {us : List (List Int)} {x y : Int} : (∀ r ∈ us, r.getD a 0 = x → r.getD b 0 = y) → (∃ r ∈ us, r.getD a 0 = x) → foldP a b us x = some y := by
  refine list_snoc_ind (P := fun us => (∀ r ∈ us, r.getD a 0 = x → r.getD b 0 = y) → (∃ r ∈ us, r.getD a 0 = x) → foldP a b us x = some y) (fun _ h => absurd h (by simp)) (fun us r ih h he => ?_) us
  rw [foldP_snoc]
  unfold putM
  by_cases e : x = r.getD a 0
  · rw [if_pos e, h r (by simp) e.symm]
  · rw [if_neg e]
    refine ih (fun r' hr' => h r' (by simp [hr'])) ?_
    obtain ⟨r', hr', e'⟩ := he
    rcases List.mem_append.mp hr' with h1 | h1
    · exact ⟨r', h1, e'⟩
    · rw [List.mem_singleton.mp h1] at e'
      exact absurd e'.symm e
theorem foldP_mem {a b : Nat} {us : List (List Int)} {x y : Int} : foldP a b us x = some y → ∃ r ∈ us, r.getD a 0 = x ∧ r.getD b 0 = y := by
  refine list_snoc_ind (P := fun us => foldP a b us x = some y → ∃ r ∈ us, r.getD a 0 = x ∧ r.getD b 0 = y) (fun h => by cases h) (fun us r ih h => ?_) us
  rw [foldP_snoc] at h
  unfold putM at h
  by_cases e : x = r.getD a 0
  · rw [if_pos e] at h
    exact ⟨r, by simp, e.symm, Option.some.inj h⟩
  · rw [if_neg e] at h
    obtain ⟨r', h1, h2⟩ := ih h
    exact ⟨r', by simp [h1], h2⟩
theorem upsM_foldP {us : List (List Int)} : upsM us = foldP 3 1 us := rfl
/-- the place of the k-th one -/
def sK (E c : Int) (k : Nat) : Int := (c + (k : Int)) % (2 * E)
theorem sK_b {E c : Int} {k : Nat} (hE : 1 ≤ E) : 0 ≤ sK E c k ∧ sK E c k < 2 * E := ⟨Int.emod_nonneg _ (by omega), Int.emod_lt_of_pos _ (by omega)⟩
theorem sK_inj {E c : Int} {i k : Nat} (hE : 1 ≤ E) (hi : (i : Int) < 2 * E) (hk : (k : Int) < 2 * E) (h : sK E c i = sK E c k) : i = k := by
  unfold sK at h
  have h2 : ((c + (i : Int)) - (c + (k : Int))) % (2 * E) = 0 := Int.emod_eq_emod_iff_emod_sub_eq_zero.mp h
  rw [show (c + (i : Int)) - (c + (k : Int)) = (i : Int) - k by omega] at h2
  obtain ⟨q, hq⟩ := Int.dvd_of_emod_eq_zero h2
  have : q = 0 := by
    rcases Int.lt_trichotomy q 0 with z | z | z
    · have := Int.mul_le_mul_of_nonneg_left (show q ≤ -1 by omega) (show 0 ≤ 2 * E by omega)
      omega
    · exact z
    · have := Int.mul_le_mul_of_nonneg_left (show 1 ≤ q by omega) (show 0 ≤ 2 * E by omega)
      omega
  subst this
  omega
/-- the first i of the links stand in their slots, all else is not used -/
structure Filled (F E c : Int) (R : List (List Int)) (lk : List (List Int)) (i : Nat) : Prop where
  at_ : ∀ k, k < i → ∀ j, j < 4 → slG F R (sK E c k) j = (1 :: lk.getD k []).getD j 0
  no : ∀ s : Int, 0 ≤ s → s < 2 * E → (∀ k, k < i → ¬ s = sK E c k) → slG F R s 0 = 0
theorem Filled.used {F E c : Int} {R : List (List Int)} {lk : List (List Int)} (h : Filled F E c R lk lk.length) (hE : 1 ≤ E) (h3 : ∀ r ∈ lk, r.length = 3) {r : List Int} : r ∈ usedM F E R ↔ ∃ k, k < lk.length ∧ r = sK E c k :: lk.getD k [] := by
  have h3' : ∀ k, k < lk.length → ∃ x y z, lk.getD k [] = [x, y, z] := fun k hk => by
    have hm : lk.getD k [] ∈ lk := by
      rw [List.getD_eq_getElem?_getD, List.getElem?_eq_getElem hk]
      exact List.getElem_mem hk
    have hl := h3 _ hm
    match lk.getD k [], hl with
    | [x, y, z], _ => exact ⟨x, y, z, rfl⟩
  rw [mem_usedM]
  constructor
  · rintro ⟨s, hs, h0, rfl⟩
    have hex : ∃ k, k < lk.length ∧ (s : Int) = sK E c k := by
      apply Classical.byContradiction
      intro hn
      have := h.no s (by omega) (by omega) (fun k hk z => hn ⟨k, hk, z⟩)
      omega
    obtain ⟨k, hk, e⟩ := hex
    refine ⟨k, hk, ?_⟩
    obtain ⟨x, y, z, e3⟩ := h3' k hk
    rw [e, h.at_ k hk 1 (by decide), h.at_ k hk 2 (by decide), h.at_ k hk 3 (by decide), e3]
    rfl
  · rintro ⟨k, hk, rfl⟩
    have hb := sK_b (c := c) (k := k) hE
    obtain ⟨x, y, z, e3⟩ := h3' k hk
    refine ⟨(sK E c k).toNat, by omega, ?_, ?_⟩
    · rw [Int.toNat_of_nonneg hb.1, h.at_ k hk 0 (by decide)]; rfl
    · rw [Int.toNat_of_nonneg hb.1, h.at_ k hk 1 (by decide), h.at_ k hk 2 (by decide), h.at_ k hk 3 (by decide), e3]
      rfl
/-- n of the four numbers w stand at slot s -/
def Part (F : Int) (R0 R : List (List Int)) (s : Int) (w : List Int) (n : Nat) : Prop := ∀ s' : Int, 0 ≤ s' → ∀ j', j' < 4 → slG F R s' j' = if s' = s ∧ j' < n then w.getD j' 0 else slG F R0 s' j'
theorem Part.start {F s : Int} {R0 : List (List Int)} {w : List Int} : Part F R0 R0 s w 0 := fun s' _ j' _ => by rw [if_neg (by omega)]
theorem Part.step {F s v : Int} {R0 R : List (List Int)} {w : List Int} {n : Nat} (h : Part F R0 R s w n) (h8 : ∀ r ∈ R, r.length = 8) (hs : 0 ≤ s) (hF : 0 ≤ F) (hl : 10 + F + s / 2 < R.length) (hn : n < 4) (hv : w.getD n 0 = v) : Part F R0 (putAt R (10 + F + s / 2) (s % 2 * 4 + (n : Int)).toNat v) s w (n + 1) := fun s' hs' j' hj' => by
  rw [slG_put h8 hs hs' hF hl hn hj', h s' hs' j' hj']
  by_cases e : s' = s
  · by_cases e2 : j' = n
    · rw [if_pos ⟨e, e2⟩, if_pos ⟨e, by omega⟩, e2, hv]
    · rw [if_neg (fun z => e2 z.2)]
      by_cases e3 : j' < n
      · rw [if_pos ⟨e, e3⟩, if_pos ⟨e, by omega⟩]
      · rw [if_neg (fun z => e3 z.2), if_neg (fun z => by omega)]
  · rw [if_neg (fun z => e z.1), if_neg (fun z => e z.1), if_neg (fun z => e z.1)]
theorem Filled.next {F E c : Int} {R0 R : List (List Int)} {lk : List (List Int)} {i : Nat} (h : Filled F E c R0 lk i) (p : Part F R0 R (sK E c i) (1 :: lk.getD i []) 4) (hE : 1 ≤ E) (hi : (i : Int) < 2 * E) : Filled F E c R lk (i + 1) := by
  refine ⟨fun k hk j hj => ?_, fun s h0 h1 hno => ?_⟩
  · have hb := sK_b (c := c) (k := k) hE
    rw [p _ hb.1 j hj]
    by_cases e : k = i
    · subst e; rw [if_pos ⟨rfl, hj⟩]
    · rw [if_neg (fun z => e (sK_inj hE (by omega) hi z.1)), h.at_ k (by omega) j hj]
  · rw [p s h0 0 (by decide), if_neg (fun z => hno i (by omega) z.1)]
    exact h.no s h0 h1 fun k hk => hno k (by omega)
theorem Filled.zero {F E c : Int} {R lk : List (List Int)} (h : ∀ s : Int, 0 ≤ s → ∀ j, j < 4 → slG F R s j = 0) : Filled F E c R lk 0 := ⟨fun k hk => absurd hk (by omega), fun s h0 _ _ => h s h0 0 (by decide)⟩
def zR (n : Nat) : List (List Int) := (List.range n).map fun _ => [0, 0, 0, 0, 0, 0, 0, 0]
theorem zR_eq (n : Nat) : (List.range n).map (fun _ => ([0, 0, 0, 0, 0, 0, 0, 0] : List Int)) = zR n := rfl
theorem zR_len (n : Nat) : (zR n).length = n := by unfold zR; simp
theorem zR_8 (n : Nat) : ∀ r ∈ zR n, r.length = 8 := by
  intro r hr
  obtain ⟨_, _, rfl⟩ := List.mem_map.mp hr
  rfl
theorem zR_row {n : Nat} {b : Int} {j : Nat} : (rowAt (zR n) b).getD j 0 = 0 := by
  unfold rowAt zR
  rw [List.getD_eq_getElem?_getD (l := List.map _ _), List.getElem?_map]
  cases (List.range n)[b.toNat]? with
  | none => rfl
  | some x =>
    show ([0, 0, 0, 0, 0, 0, 0, 0] : List Int).getD j 0 = 0
    match j with
    | 0 | 1 | 2 | 3 | 4 | 5 | 6 | 7 => rfl
    | j + 8 => rfl
theorem zR_sl {F : Int} {n : Nat} : ∀ s : Int, 0 ≤ s → ∀ j, j < 4 → slG F (zR n) s j = 0 := fun s _ j hj => by rw [slG_eq hj, zR_row]
theorem s_sl_ldTN {K : PySem.W.Frag} {L L1 : Lg} {p : Addr} {c : Chunk} {ts : List (List Int)} {lo hi : Option Int} {i : Nat} {σ : St} {R : St → Lg → Prop} (h : LdT c p ts) (hp : Pull c L L1) (k : ∀ r d, LdT d r (cutG ts lo hi) → hName i (.ref r) σ (d :: L1) fun σ' => Wk (R σ')) : gSl K (.ref p) lo hi L (fun v L' => hName i v σ L' fun σ' => Wk (R σ')) := by
  obtain ⟨xs, h1, h2⟩ := h.open_
  refine s_sl_l (IsL.at_ (At.mem hp.mem h1)) fun r => ?_
  obtain ⟨L5, l, q⟩ := k r ((r, .lst (cutV xs lo hi)) :: c) ⟨c, cutV xs lo hi, rfl, by rw [show cutV xs lo hi = cutG xs lo hi from rfl, ← cutG_map]; exact h2.cut⟩
  refine ⟨L5, Lic.trans (LicS.lic ?_) l, q⟩
  exact LicS.trans (LicS.cons (LicS.pull hp LicS.refl)) (LicS.split LicS.refl)
local macro_rules | `(tactic| walk_at "c") => `(tactic| first
  | ((with_reducible refine' s_sl_ldTN ?h1 ?h2 (fun _ _ _ => ?_)); (case h1 => assumption); (case h2 => walk_at "pull"))
  | ((with_reducible refine' s_add_ti ?h1 ?h2 ?h3 ?h4 ?h5 ?h6 ?h7 (fun _ => ?_)); (case h1 => walk_at "ist"); (case h2 => first | walk_at "ist" | (refine' IsT.at_ ?_; walk_at "atm")); (case h3 => walk_at "iv"); (case h4 => walk_at "iv"); (case h5 => first | assumption | simp); (case h6 => first | assumption | simp); (case h7 => first | assumption | (simp only [List.length_cons, List.length_nil, List.length_map]; omega))))
/-! some of a range -/
section
variable {K : PySem.W.Frag} {σ σw : St} {L L4 : Lg} {Q : LVK} {gg : LTG} {tt : LTT} {te : LTE} {vw : List Nat} {lo : Int} {n i : Nat} {Dl : Addr} {ms : List Int} {x : Int}
def AnyP (i : Nat) (L : Lg) : List V → Lg → Prop := fun acc L' => ∃ ms : List Int, acc = ms.map V.int ∧ ms.length ≤ i ∧ L' = L
theorem s_lcyAny (h : ms.length ≤ i) (hz : i < 1000000) (l : Lic L4 ([(Dl, .lst (ms.map V.int))] :: L)) : LcY Dl (ms.map V.int) (AnyP (i + 1) L) (.int x) L4 := s_lcy (by rw [List.length_map]; omega) l ⟨ms ++ [x], by simp, by simp; omega, rfl⟩
theorem s_lcnAny (h : ms.length ≤ i) (l : Lic L4 ([(Dl, .lst (ms.map V.int))] :: L)) : LcN Dl (ms.map V.int) (AnyP (i + 1) L) L4 := s_lcn l ⟨ms, rfl, by omega, rfl⟩
theorem a_anyN (hw : wipe σ vw = σw)
    (hs : ∀ (i : Nat) (ms : List Int) (Dl : Addr), i < n → ms.length ≤ i → gg (.int (lo + i)) σw ([(Dl, .lst (ms.map V.int))] :: L) (LcT tt te Dl (ms.map V.int) (AnyP (i + 1) L) σw vw))
    (hd : ∀ Dl (ms : List Int), ms.length ≤ n → Wk (Q (.ref Dl)) ([(Dl, .lst (ms.map V.int))] :: L)) : ∀ Dl, Dl ∉ keys L → LcR (wkR lo n) gg tt te vw σ Dl L Q := fun Dl _ => by
  refine c_range (fun i acc L' => AnyP i L acc L') hw (Wk.go ⟨[], rfl, Nat.le_refl _, rfl⟩) ?_ ?_
  · rintro i acc L' hi ⟨ms, rfl, hm, rfl⟩
    exact hs i ms Dl hi hm
  · rintro acc L' ⟨ms, rfl, hm, rfl⟩
    exact hd Dl ms hm
end
section
variable {K : PySem.W.Frag} {σ σw : St} {L : Lg} {p q : Addr} {xs : List V} {ts : List (List Int)} {ns : List Int} {c : Chunk} {gg : LTG} {tt : LTT} {te : LTE} {vw : List Nat} {Q : LVK}
theorem a_telL (ds : Nat → List PyData) (hx : IsL K L p xs) (h0 : ds 0 = []) (hw : wipe σ vw = σw)
    (hs : ∀ (i : Nat) (x : V) (acc : List V) (C : Chunk) (Dl : Addr), xs[i]? = some x → acc.length = (ds i).length → TelAll C acc (ds i) → gg x σw ([(Dl, .lst acc)] :: C :: L) (LcT tt te Dl acc (TelP ds (i + 1) L) σw vw))
    (hd : ∀ Dl c, LdD c Dl (ds xs.length) → Wk (Q (.ref Dl)) (c :: L)) : ∀ Dl, Dl ∉ keys L → LcR (wkL K p xs) gg tt te vw σ Dl L Q := fun Dl _ => by
  refine c_list (fun i acc L' => TelP ds i L acc L') hw (Wk.by_ (LicS.lic (LicS.empty LicS.refl)) ⟨[], rfl, by rw [h0]; exact .nil⟩) (fun i acc L' h => ?_) ?_ ?_
  · obtain ⟨C, rfl, _⟩ := h
    exact IsL.tl (IsL.tl hx)
  · rintro i acc x L' hi ⟨C, rfl, ht⟩
    exact hs i x acc C Dl hi ht.len ht
  · rintro acc L' ⟨C, rfl, ht⟩
    obtain ⟨L5, l, q⟩ := hd Dl ((Dl, .lst acc) :: C) ⟨C, acc, rfl, ht⟩
    exact ⟨L5, Lic.trans (LicS.lic (LicS.of_flat (by simp))) l, q⟩
end
theorem list3 {l : List Int} (h : l.length = 3) : ∃ a b c, l = [a, b, c] := by
  match l, h with
  | [a, b, c], _ => exact ⟨a, b, c, rfl⟩
abbrev MM : Int := 999999999999
/-- the k-th name tried -/
def nmK (y0 : Int) (k : Nat) : Int := 1 + (y0 - 1 + (k : Int)) % MM
theorem nmK_0 {y : Int} (h : 1 ≤ y ∧ y ≤ MM) : nmK y 0 = y := by
  unfold nmK
  have h2 : y ≤ 999999999999 := h.2
  rw [Int.emod_eq_of_lt (by omega) (by show _ < (999999999999 : Int); omega)]
  omega
theorem nmK_1 {y : Int} {k : Nat} : 1 + nmK y k % MM = nmK y (k + 1) := by
  unfold nmK
  show 1 + (1 + (y - 1 + (k : Int)) % 999999999999) % 999999999999 = 1 + (y - 1 + ((k + 1 : Nat) : Int)) % 999999999999
  omega
theorem nmK_b {y : Int} {k : Nat} : 1 ≤ nmK y k := by
  unfold nmK
  show 1 ≤ 1 + (y - 1 + (k : Int)) % 999999999999
  omega
theorem nmK_le {y : Int} {k : Nat} : nmK y k ≤ MM := by
  unfold nmK
  show 1 + (y - 1 + (k : Int)) % 999999999999 ≤ 999999999999
  omega
theorem nmK_inj {y : Int} {i j : Nat} (hi : i < 1000) (hj : j < 1000) (h : nmK y i = nmK y j) : i = j := by
  unfold nmK at h
  have h2 : 1 + (y - 1 + (i : Int)) % 999999999999 = 1 + (y - 1 + (j : Int)) % 999999999999 := h
  omega
theorem nm_len {ps : List (List Int)} {a y : Int} {k : Nat} (hk : k < 1000) (h : ∀ j, j < k → [a, nmK y j] ∈ ps) : k ≤ ps.length := by
  have nd : ((List.range k).map fun j => [a, nmK y j]).Nodup := by
    rw [List.nodup_iff_pairwise_ne, List.pairwise_map]
    refine List.Pairwise.imp_of_mem ?_ List.pairwise_lt_range
    intro i j hi hj hij e
    have h1 := List.mem_range.mp hi
    have h2 := List.mem_range.mp hj
    have h3 : nmK y i = nmK y j := by
      simp only [List.cons.injEq, and_true, true_and] at e
      exact e
    have := nmK_inj (by omega) (by omega) h3
    omega
  have hs : ((List.range k).map fun j => [a, nmK y j]) ⊆ ps := fun r hr => by
    obtain ⟨j, hj, rfl⟩ := List.mem_map.mp hr
    exact h j (List.mem_range.mp hj)
  have := nd.length_le_of_subset hs
  rwa [List.length_map, List.length_range] at this
def pr2 (r : List Int) : List Int := r.take 2

/-! a filter of a list of tuples, its items told -/
section
variable {K : PySem.W.Frag} {σ σw : St} {L : Lg} {Q : LVK} {p : Addr} {ts : List (List Int)} {c : Chunk} {xs : List V} {gg : LTG} {tt : LTT} {te : LTE} {vw : List Nat}
def FiltTT (f : List Int → Bool) (c : Chunk) (ts : List (List Int)) (i : Nat) (L : Lg) : List V → Lg → Prop := fun acc L' => TelAll c acc (((ts.take i).filter f).map dT) ∧ i ≤ ts.length ∧ L' = L
theorem s_lcyTT {f : List Int → Bool} {i : Nat} {r : List Int} {acc : List V} {t Dl : Addr} {L4 : Lg} (hc : f r = true) (hb : TelAll c acc (((ts.take i).filter f).map dT)) (hi : ts[i]? = some r) (m : (t, HO.tup (r.map V.int)) ∈ c) (hz : ts.length ≤ 1000000) (l : Lic L4 ([(Dl, .lst acc)] :: L)) : LcY Dl acc (FiltTT f c ts (i + 1) L) (.ref t) L4 := by
  have hlt : i < ts.length := (List.getElem?_eq_some_iff.mp hi).1
  have hl := hb.len
  rw [List.length_map] at hl
  have hle : ((ts.take i).filter f).length ≤ i := Nat.le_trans (List.length_filter_le _ _) (by simp; omega)
  refine s_lcy (by omega) l ⟨?_, by omega, rfl⟩
  rw [filtT_take f hi, if_pos hc, List.map_append]
  exact TelAll.snoc (Tel.tints m) hb
theorem s_lcnTT {f : List Int → Bool} {i : Nat} {r : List Int} {acc : List V} {Dl : Addr} {L4 : Lg} (hc : f r = false) (hb : TelAll c acc (((ts.take i).filter f).map dT)) (hi : ts[i]? = some r) (l : Lic L4 ([(Dl, .lst acc)] :: L)) : LcN Dl acc (FiltTT f c ts (i + 1) L) L4 := by
  have hlt : i < ts.length := (List.getElem?_eq_some_iff.mp hi).1
  refine s_lcn l ⟨?_, by omega, rfl⟩
  rw [filtT_take f hi, hc]
  simpa using hb
theorem a_filtTT (f : List Int → Bool) (hm : c ∈ L) (hp : (p, HO.lst xs) ∈ c) (ht : TelAll c xs (ts.map dT)) (hw : wipe σ vw = σw)
    (hs : ∀ (i : Nat) (r : List Int) (t : Addr) (acc : List V) (Dl : Addr), ts[i]? = some r → (t, HO.tup (r.map V.int)) ∈ c → TelAll c acc (((ts.take i).filter f).map dT) → gg (.ref t) σw ([(Dl, .lst acc)] :: L) (LcT tt te Dl acc (FiltTT f c ts (i + 1) L) σw vw))
    (hd : ∀ Dl acc, TelAll c acc ((ts.filter f).map dT) → Wk (Q (.ref Dl)) ([(Dl, .lst acc)] :: L)) : ∀ Dl, Dl ∉ keys L → LcR (wkL K p xs) gg tt te vw σ Dl L Q := fun Dl _ => by
  have hxl : xs.length = ts.length := by rw [ht.len, List.length_map]
  refine c_list (fun i acc L' => FiltTT f c ts i L acc L') hw (Wk.go ⟨.nil, Nat.zero_le _, rfl⟩) (fun i acc L' h => ?_) ?_ ?_
  · rw [h.2.2]; exact IsL.tl (IsL.at_ (At.mem hm hp))
  · rintro i acc x L' hi ⟨hb, hil, rfl⟩
    obtain ⟨r, t, e1, rfl, m⟩ := ht.tup hi
    exact hs i r t acc Dl e1 m hb
  · rintro acc L' ⟨hb, _, rfl⟩
    rw [hxl, List.take_length] at hb
    exact hd Dl acc hb
theorem dp_fil {Dl : Addr} {acc : List V} {d : Chunk} (h1 : At L Dl (.lst acc)) (h2 : AtA L d) (ht : TelAll d acc (ts.map dT)) : DpL K L (.ref Dl) (dTs ts) :=
  DpL.telA (c := (Dl, .lst acc) :: d) (.lst List.mem_cons_self (ht.mono fun x hx => List.mem_cons_of_mem _ hx)) (AtA.cons h1 h2)
theorem dTs_nilE {fs : List (List Int)} : dTs fs = dTs [] ↔ fs = [] := by
  constructor
  · intro h
    cases fs with
    | nil => rfl
    | cons r fs => unfold dTs at h; simp at h
  · intro h; rw [h]
theorem dec_prop {C : Prop} [h : Decidable C] : @decide C (Classical.propDecidable C) = decide C := by
  by_cases c : C
  · rw [decide_eq_true c]; exact @decide_eq_true _ (Classical.propDecidable C) c
  · rw [decide_eq_false c]; exact @decide_eq_false _ (Classical.propDecidable C) c
theorem s_ne_fil {Dl q : Addr} {acc : List V} {d : Chunk} {fs : List (List Int)} (h1 : At L Dl (.lst acc)) (h2 : AtA L d) (ht : TelAll d acc (fs.map dT)) (h3 : At L q (.lst [])) (k : Q (.bl (!decide (fs = []))) L) : gNe K (.ref Dl) (.ref q) L Q :=
  s_ne_dp (dp_fil h1 h2 ht) (dp_fil (ts := []) (d := []) h3 AtA.nil .nil) (nb_dTs _) (nb_dTs _) dTs_nilE (by rw [dec_prop]; exact k)
theorem s_eq_fil {Dl q : Addr} {acc : List V} {d : Chunk} {fs : List (List Int)} (h1 : At L Dl (.lst acc)) (h2 : AtA L d) (ht : TelAll d acc (fs.map dT)) (h3 : At L q (.lst [])) (k : Q (.bl (decide (fs = []))) L) : gEq K (.ref Dl) (.ref q) L Q :=
  s_eq_dp (dp_fil h1 h2 ht) (dp_fil (ts := []) (d := []) h3 AtA.nil .nil) (nb_dTs _) (nb_dTs _) dTs_nilE (by rw [dec_prop]; exact k)
end
theorem pr2_iff {r : List Int} {f x : Int} (h : r.length = 3) : pr2 r = [f, x] ↔ r.getD 0 0 = f ∧ r.getD 1 0 = x := by
  obtain ⟨a, b, c, rfl⟩ := list3 h
  simp [pr2]
theorem mem_pr2 {ts : List (List Int)} {f x : Int} (h3 : ∀ r ∈ ts, r.length = 3) : [f, x] ∈ ts.map pr2 ↔ ¬ ts.filter (fun r => decide (r.getD 0 0 = f ∧ r.getD 1 0 = x)) = [] := by
  rw [List.filter_eq_nil_iff, List.mem_map]
  constructor
  · rintro ⟨r, hr, e⟩ h
    exact h r hr (decide_eq_true ((pr2_iff (h3 r hr)).mp e))
  · intro h
    by_cases z : ∃ r ∈ ts, pr2 r = [f, x]
    · obtain ⟨r, hr, e⟩ := z; exact ⟨r, hr, e⟩
    · exact absurd (fun r hr e => z ⟨r, hr, (pr2_iff (h3 r hr)).mpr (of_decide_eq_true e)⟩) h
/-! ### the law's volume -/
def kindsM (c : Int) (n : Nat) : List Int := 2 :: (List.range n).map fun i : Nat => ([1, 2, 1, 0] : List Int).getD (mixM c (1 + (i : Int)) % 4).toNat 0
def kd (kds : List Int) (f : Int) : Int := kds.getD f.toNat 0
structure KdOk (F : Int) (kds : List Int) : Prop where
  len : (kds.length : Int) = F
  all : ∀ x ∈ kds, x = 0 ∨ x = 1 ∨ x = 2
  top : kd kds 0 = 2
theorem kindsM_ok {c F : Int} (h : 2 ≤ F) : KdOk F (kindsM c (F - 1).toNat) := by
  refine ⟨?_, fun x hx => ?_, rfl⟩
  · unfold kindsM
    rw [List.length_cons, List.length_map, List.length_range]
    omega
  · unfold kindsM at hx
    rcases List.mem_cons.mp hx with rfl | hx
    · exact .inr (.inr rfl)
    · obtain ⟨i, _, rfl⟩ := List.mem_map.mp hx
      have h1 := Int.emod_nonneg (mixM c (1 + (i : Int))) (b := 4) (by decide)
      have h2 := Int.emod_lt_of_pos (mixM c (1 + (i : Int))) (b := 4) (by decide)
      generalize mixM c (1 + (i : Int)) % 4 = z at h1 h2
      have : z = 0 ∨ z = 1 ∨ z = 2 ∨ z = 3 := by omega
      rcases this with rfl | rfl | rfl | rfl
      · exact .inr (.inl rfl)
      · exact .inr (.inr rfl)
      · exact .inr (.inl rfl)
      · exact .inl rfl
theorem a_filtRo {σ σw : St} {L : Lg} {gg : LTG} {tt : LTT} {te : LTE} {vw : List Nat} {Q : LVK} {lo : Int} {n : Nat} (f : Int → Bool) (hw : wipe σ vw = σw) (hz : n ≤ 1000000)
    (hs : ∀ (i : Nat) (acc : List V) (Dl : Addr), i < n → acc.length < 1000000 → gg (.int (lo + (i : Int))) σw ([(Dl, .lst acc)] :: L) (LcT tt te Dl acc (AccB acc (f (lo + (i : Int))) (.int (lo + (i : Int))) L) σw vw))
    (hd : ∀ Dl, Wk (Q (.ref Dl)) ([(Dl, .lst ((((List.range n).map fun k : Nat => lo + (k : Int)).filter f).map V.int))] :: L)) : ∀ Dl, Dl ∉ keys L → LcR (wkR lo n) gg tt te vw σ Dl L Q := fun Dl _ => by
  refine c_range (fun i acc L' => acc = (((List.range i).map fun k : Nat => lo + (k : Int)).filter f).map V.int ∧ L' = L) hw (Wk.go ⟨rfl, rfl⟩) ?_ ?_
  · rintro i acc L' hi ⟨rfl, rfl⟩
    have hle : (((List.range i).map fun k : Nat => lo + (k : Int)).filter f).length ≤ i := Nat.le_trans (List.length_filter_le _ _) (by simp)
    have := hs i ((((List.range i).map fun k : Nat => lo + (k : Int)).filter f).map V.int) Dl hi (by rw [List.length_map]; omega)
    have e : AccB ((((List.range i).map fun k : Nat => lo + (k : Int)).filter f).map V.int) (f (lo + (i : Int))) (.int (lo + (i : Int))) L' = fun acc' L'' => acc' = (((List.range (i + 1)).map fun k : Nat => lo + (k : Int)).filter f).map V.int ∧ L'' = L' := by
      funext a b
      unfold AccB
      rw [List.range_succ]
      cases hf : f (lo + (i : Int)) <;> simp [hf]
    rw [e] at this
    exact this
  · rintro acc L' ⟨rfl, rfl⟩
    exact hd Dl
/-! the slots drawn -/
structure SlOk (F : Int) (kds : List Int) (rk : Int → Nat) (ts : List (List Int)) : Prop where
  all : ∀ r ∈ ts, ∃ a n f, r = [a, n, f] ∧ ((0 ≤ a ∧ a < F) ∧ kd kds a = 2) ∧ (1 ≤ n ∧ n ≤ MM) ∧ ((1 ≤ f ∧ f < F) ∧ 0 < kd kds f) ∧ rk a < rk f
  nd : (ts.map pr2).Nodup
theorem SlOk.nil {F : Int} {kds : List Int} {rk : Int → Nat} : SlOk F kds rk [] := ⟨fun r h => (by cases h), List.nodup_nil⟩
theorem SlOk.l3 {F : Int} {kds : List Int} {rk : Int → Nat} {ts : List (List Int)} (h : SlOk F kds rk ts) : ∀ r ∈ ts, r.length = 3 := fun r hr => by
  obtain ⟨a, n, f, rfl, _⟩ := h.all r hr
  rfl
theorem SlOk.snoc {F a n f : Int} {kds : List Int} {rk : Int → Nat} {ts : List (List Int)} (h : SlOk F kds rk ts) (ha : (0 ≤ a ∧ a < F) ∧ kd kds a = 2) (hn : 1 ≤ n ∧ n ≤ MM) (hf : (1 ≤ f ∧ f < F) ∧ 0 < kd kds f) (hr : rk a < rk f) (hno : [a, n] ∉ ts.map pr2) : SlOk F kds rk (ts ++ [[a, n, f]]) := by
  refine ⟨fun r hr2 => ?_, ?_⟩
  · rcases List.mem_append.mp hr2 with hr2 | hr2
    · exact h.all r hr2
    · rw [List.mem_singleton.mp hr2]
      exact ⟨a, n, f, rfl, ha, hn, hf, hr⟩
  · rw [List.map_append]
    refine List.nodup_append.mpr ⟨h.nd, by simp, fun x hx y hy e => ?_⟩
    have : y = [a, n] := by simpa [pr2] using hy
    rw [this] at e
    exact hno (e ▸ hx)
/-- the rank of a record in the order of the draw: files behind all folders -/
def rkM (kds od : List Int) (f : Int) : Nat := if f = 0 then 0 else if kd kds f = 2 then od.idxOf f + 1 else 13
theorem rkM_le {kds od : List Int} {f : Int} (h : od.length ≤ 11) : rkM kds od f ≤ 13 := by
  unfold rkM
  have := List.idxOf_le_length (a := f) (l := od)
  split
  · omega
  · split <;> omega
/-! what is taken of the free blocks -/
structure Tk (lo hi : Int) (fr fr' vs : List Int) : Prop where
  split : ∃ tk, fr = fr' ++ tk ∧ (vs.filter fun x => !decide (x = 0)).Perm tk
  val : ∀ x ∈ vs, x = 0 ∨ (lo ≤ x ∧ x < hi)
theorem Tk.nil {lo hi : Int} {fr : List Int} : Tk lo hi fr fr [] := ⟨⟨[], by simp, List.Perm.refl _⟩, fun x hx => by cases hx⟩
theorem Tk.in_ {lo hi : Int} {fr fr' vs : List Int} (h : Tk lo hi fr fr' vs) (hfr : ∀ x ∈ fr, lo ≤ x ∧ x < hi) : ∀ x ∈ fr', lo ≤ x ∧ x < hi := fun x hx => by
  obtain ⟨⟨tk, e, _⟩, _⟩ := h
  exact hfr x (by rw [e]; exact List.mem_append_left _ hx)
theorem Tk.le {lo hi : Int} {fr fr' vs : List Int} (h : Tk lo hi fr fr' vs) : fr'.length ≤ fr.length := by
  obtain ⟨⟨tk, e, _⟩, _⟩ := h
  rw [e, List.length_append]
  omega
theorem Tk.snoc {lo hi : Int} {fr fr' fr'' vs : List Int} {x : Int} (h : Tk lo hi fr fr' vs) (hfr : ∀ x ∈ fr, lo ≤ x ∧ x < hi) (hlo : 0 < lo) (hx : (x = 0 ∧ fr'' = fr') ∨ fr' = fr'' ++ [x]) : Tk lo hi fr fr'' (vs ++ [x]) := by
  have hin := h.in_ hfr
  obtain ⟨⟨tk, e, hp⟩, hv⟩ := h
  rcases hx with ⟨rfl, rfl⟩ | hx
  · refine ⟨⟨tk, e, ?_⟩, fun y hy => ?_⟩
    · rw [List.filter_append]
      simpa using hp
    · rcases List.mem_append.mp hy with hy | hy
      · exact hv y hy
      · exact .inl (List.mem_singleton.mp hy)
  · have hxr := hin x (by rw [hx]; simp)
    refine ⟨⟨x :: tk, by rw [e, hx]; simp, ?_⟩, fun y hy => ?_⟩
    · rw [List.filter_append, List.filter_cons_of_pos (by simp; omega), List.filter_nil]
      exact (List.perm_append_singleton _ _).trans (List.Perm.cons x hp)
    · rcases List.mem_append.mp hy with hy | hy
      · exact hv y hy
      · rw [List.mem_singleton.mp hy]; exact .inr hxr
theorem Tk.app {lo hi : Int} {fr fr' fr'' vs ws : List Int} (h : Tk lo hi fr fr' vs) (k : Tk lo hi fr' fr'' ws) : Tk lo hi fr fr'' (vs ++ ws) := by
  obtain ⟨⟨tk, e, hp⟩, hv⟩ := h
  obtain ⟨⟨tl, e2, hp2⟩, hw⟩ := k
  refine ⟨⟨tl ++ tk, by rw [e, e2]; simp, ?_⟩, fun y hy => (List.mem_append.mp hy).elim (hv y) (hw y)⟩
  rw [List.filter_append]
  exact (hp.append hp2).trans List.perm_append_comm
section
variable {σ σw : St} {L : Lg} {gg : LTG} {tt : LTT} {te : LTE} {vw : List Nat} {Q : LVK} {fp : Addr} {lo hi : Int} {fr : List Int} {m : Nat}
def TkP (lo hi : Int) (fp : Addr) (fr : List Int) (i : Nat) (L : Lg) : List V → Lg → Prop := fun acc L' => ∃ vs fr', acc = vs.map V.int ∧ vs.length = i ∧ Tk lo hi fr fr' vs ∧ L' = [(fp, .lst (fr'.map V.int))] :: L
theorem a_takes (lo hi : Int) (fr : List Int) (L1 : Lg) (hl : Lic L ([(fp, .lst (fr.map V.int))] :: L1)) (hw : wipe σ vw = σw)
    (hs : ∀ (i : Nat) (vs fr' : List Int) (Dl : Addr), i < m → vs.length = i → Tk lo hi fr fr' vs → gg (.int (i : Int)) σw ([(Dl, .lst (vs.map V.int))] :: [(fp, .lst (fr'.map V.int))] :: L1) (LcT tt te Dl (vs.map V.int) (TkP lo hi fp fr (i + 1) L1) σw vw))
    (hd : ∀ Dl vs fr', vs.length = m → Tk lo hi fr fr' vs → Wk (Q (.ref Dl)) ([(Dl, .lst (vs.map V.int))] :: [(fp, .lst (fr'.map V.int))] :: L1)) : ∀ Dl, Dl ∉ keys L → LcR (wkR 0 m) gg tt te vw σ Dl L Q := fun Dl _ => by
  refine c_range0 (fun i acc L' => TkP lo hi fp fr i L1 acc L') hw (Wk.by_ hl ⟨[], fr, rfl, rfl, Tk.nil, rfl⟩) ?_ ?_
  · rintro i acc L' hi ⟨vs, fr', rfl, hv, ht, rfl⟩
    exact hs i vs fr' Dl hi hv ht
  · rintro acc L' ⟨vs, fr', rfl, hv, ht, rfl⟩
    exact hd Dl vs fr' hv ht
end
/-! the records drawn -/
def cntM (ts : List (List Int)) (f : Int) : Int := ((ts.filter fun r => decide (r.getD 2 0 = f)).length : Nat)
def PtrOk (lo hi x : Int) : Prop := x = 0 ∨ (lo ≤ x ∧ x < hi)
structure RecOk (lo hi : Int) (kds : List Int) (ts R : List (List Int)) (f : Int) : Prop where
  kind : (rowAt R (10 + f)).getD 0 0 = kd kds f
  names : 1 ≤ f → 0 < kd kds f → (rowAt R (10 + f)).getD 2 0 = cntM ts f ∧ (rowAt R (10 + f)).getD 3 0 = if cntM ts f = 0 then 1 else 0
  size : 1 ≤ f → kd kds f = 1 → 0 ≤ (rowAt R (10 + f)).getD 1 0 ∧ (rowAt R (10 + f)).getD 1 0 ≤ 88
  ptr : 1 ≤ f → kd kds f = 1 → ∀ k, k < 4 → PtrOk lo hi ((rowAt R (10 + f)).getD (4 + k) 0)
  more : 1 ≤ f → kd kds f = 1 → ¬ (rowAt R (10 + f)).getD 7 0 = 0 → ∀ k, k < 8 → PtrOk lo hi ((rowAt R ((rowAt R (10 + f)).getD 7 0)).getD k 0)
/-- another record's row is written, or a data block with pointers that are right -/
theorem RecOk.keep {lo hi : Int} {kds : List Int} {ts R R' : List (List Int)} {f : Int} (h : RecOk lo hi kds ts R f) (e : rowAt R' (10 + f) = rowAt R (10 + f))
    (hm : ∀ m, lo ≤ m → m < hi → rowAt R' m = rowAt R m ∨ ∀ k, k < 8 → PtrOk lo hi ((rowAt R' m).getD k 0)) : RecOk lo hi kds ts R' f := by
  refine ⟨by rw [e]; exact h.kind, by rw [e]; exact h.names, by rw [e]; exact h.size, by rw [e]; exact h.ptr, fun h1 h2 h3 k hk => ?_⟩
  rw [e] at h3 ⊢
  have hp := h.ptr h1 h2 3 (by omega)
  have hr : lo ≤ (rowAt R (10 + f)).getD 7 0 ∧ (rowAt R (10 + f)).getD 7 0 < hi := hp.resolve_left h3
  rcases hm _ hr.1 hr.2 with q | q
  · rw [q]; exact h.more h1 h2 h3 k hk
  · exact q k hk
theorem rec_all {lo hi i : Int} {kds : List Int} {ts R R4 : List (List Int)} (h0 : 0 ≤ i) (hb : 10 + i < lo) (hrec : ∀ f, 0 ≤ f → f < i → RecOk lo hi kds ts R f) (hfr : ∀ j, 0 ≤ j → ¬ j = 10 + i → j < lo → rowAt R4 j = rowAt R j)
    (hm : ∀ m, lo ≤ m → m < hi → rowAt R4 m = rowAt R m ∨ ∀ k, k < 8 → PtrOk lo hi ((rowAt R4 m).getD k 0)) (hnew : RecOk lo hi kds ts R4 i) : ∀ f, 0 ≤ f → f < i + 1 → RecOk lo hi kds ts R4 f := fun f f0 f1 => by
  by_cases e : f = i
  · subst e; exact hnew
  · exact (hrec f f0 (by omega)).keep (hfr _ (by omega) (by omega) (by omega)) hm
theorem put_ne {R : List (List Int)} {b j : Int} {n : Nat} {v : Int} (hb : 0 ≤ b) (hl : b < R.length) (hj : 0 ≤ j) (h : ¬ j = b) : rowAt (putAt R b n v) j = rowAt R j := by rw [rowAt_putAt hb hj hl, if_neg h]
theorem put_eq {R : List (List Int)} {b : Int} {n : Nat} {v : Int} (hb : 0 ≤ b) (hl : b < R.length) : rowAt (putAt R b n v) b = (rowAt R b).set n v := by rw [rowAt_putAt hb hb hl, if_pos rfl]
theorem list8' {l : List Int} (h : l.length = 8) : ∃ a b c d e f g h, l = [a, b, c, d, e, f, g, h] := by
  match l, h with
  | [a, b, c, d, e, f, g, h], _ => exact ⟨a, b, c, d, e, f, g, h, rfl⟩
theorem list4i {l : List Int} (h : l.length = 4) : ∃ a b c d, l = [a, b, c, d] := by
  match l, h with
  | [a, b, c, d], _ => exact ⟨a, b, c, d, rfl⟩
theorem row_new {r0 ps : List Int} {k c z s : Int} (h : r0.length = 8) (hp : ps.length = 4) : (((((r0.set 0 k).set 2 c).set 3 z).set 1 s).take 4 ++ ps ++ ((((r0.set 0 k).set 2 c).set 3 z).set 1 s).drop 8) = [k, s, c, z] ++ ps := by
  obtain ⟨x0, x1, x2, x3, x4, x5, x6, x7, rfl⟩ := list8' h
  simp
/-- the record of a file, as written -/
theorem rec_file {lo hi i k c z s : Int} {kds ps ms : List Int} {ts R R2 R3 R4 : List (List Int)} (h0 : 0 ≤ i) (hb : 10 + i < lo) (hlo : lo ≤ hi) (hR : hi ≤ R.length) (h8 : (rowAt R (10 + i)).length = 8) (hp : ps.length = 4)
    (e2 : R2 = putAt (putAt (putAt (putAt R (10 + i) 0 k) (10 + i) 2 c) (10 + i) 3 z) (10 + i) 1 s) (e3 : (ps.getD 3 0 = 0 ∧ ms = [] ∧ R3 = R2) ∨ ((lo ≤ ps.getD 3 0 ∧ ps.getD 3 0 < hi) ∧ ms.length = 8 ∧ R3 = R2.set (ps.getD 3 0).toNat ms))
    (e4 : R4 = R3.set (10 + i).toNat ((rowAt R3 (10 + i)).take 4 ++ ps ++ (rowAt R3 (10 + i)).drop 8)) (hv : ∀ x ∈ ps ++ ms, PtrOk lo hi x)
    (hk : k = kd kds i) (hc : c = cntM ts i) (hz : z = if cntM ts i = 0 then 1 else 0) (hs : 0 ≤ s ∧ s ≤ 88) (hrec : ∀ f, 0 ≤ f → f < i → RecOk lo hi kds ts R f) :
    (∀ f, 0 ≤ f → f < i + 1 → RecOk lo hi kds ts R4 f) ∧ (∀ j, 0 ≤ j → ¬ j = 10 + i → j < lo → rowAt R4 j = rowAt R j) ∧ R4.length = R.length := by
  have l2 : R2.length = R.length := by rw [e2]; simp only [putAt_len]
  have n2 : ∀ j, 0 ≤ j → ¬ j = 10 + i → rowAt R2 j = rowAt R j := fun j hj hne => by
    rw [e2, put_ne (by omega) (by simp only [putAt_len]; omega) hj hne, put_ne (by omega) (by simp only [putAt_len]; omega) hj hne, put_ne (by omega) (by simp only [putAt_len]; omega) hj hne, put_ne (by omega) (by omega) hj hne]
  have q2 : rowAt R2 (10 + i) = (((rowAt R (10 + i)).set 0 k).set 2 c |>.set 3 z).set 1 s := by
    rw [e2, put_eq (by omega) (by simp only [putAt_len]; omega), put_eq (by omega) (by simp only [putAt_len]; omega), put_eq (by omega) (by simp only [putAt_len]; omega), put_eq (by omega) (by omega)]
  have l3 : R3.length = R.length := by
    rcases e3 with ⟨_, _, rfl⟩ | ⟨_, _, rfl⟩
    · exact l2
    · rw [List.length_set]; exact l2
  have q3 : rowAt R3 (10 + i) = rowAt R2 (10 + i) := by
    rcases e3 with ⟨_, _, rfl⟩ | ⟨hr, _, rfl⟩
    · rfl
    · rw [rowAt_set (by omega) (by omega) (by omega), if_neg (by omega)]
  have n3 : ∀ j, 0 ≤ j → ¬ j = 10 + i → j < lo → rowAt R3 j = rowAt R j := fun j hj hne hjl => by
    rcases e3 with ⟨_, _, rfl⟩ | ⟨hr, _, rfl⟩
    · exact n2 j hj hne
    · rw [rowAt_set (by omega) hj (by omega), if_neg (by omega)]
      exact n2 j hj hne
  have m3 : ∀ m, lo ≤ m → m < hi → rowAt R3 m = rowAt R m ∨ (m = ps.getD 3 0 ∧ rowAt R3 m = ms ∧ ms.length = 8) := fun m m0 m1 => by
    rcases e3 with ⟨_, _, rfl⟩ | ⟨hr, h88, rfl⟩
    · exact .inl (n2 m (by omega) (by omega))
    · rw [rowAt_set (by omega) (by omega) (by omega)]
      by_cases e : m = ps.getD 3 0
      · rw [if_pos e]; exact .inr ⟨e, rfl, h88⟩
      · rw [if_neg e]; exact .inl (n2 m (by omega) (by omega))
  have n4 : ∀ j, 0 ≤ j → ¬ j = 10 + i → rowAt R4 j = rowAt R3 j := fun j hj hne => by rw [e4, rowAt_set (by omega) hj (by omega), if_neg hne]
  have q4 : rowAt R4 (10 + i) = [k, s, c, z] ++ ps := by
    rw [e4, rowAt_set (by omega) (by omega) (by omega), if_pos rfl, q3, q2]
    exact row_new h8 hp
  have hms : ms.length = 8 → ∀ j, j < 8 → PtrOk lo hi (ms.getD j 0) := fun h j hj => hv _ (List.mem_append_right _ (by rw [List.getD_eq_getElem?_getD, List.getElem?_eq_getElem (by omega)]; exact List.getElem_mem _))
  obtain ⟨p0, p1, p2, p3, rfl⟩ := list4i hp
  refine ⟨rec_all h0 hb hrec (fun j hj hne hjl => by rw [n4 j hj hne, n3 j hj hne hjl]) (fun m m0 m1 => ?_) ⟨?_, fun _ _ => ?_, fun _ _ => ?_, fun _ _ j hj => ?_, fun _ _ h7 j hj => ?_⟩, fun j hj hne hjl => by rw [n4 j hj hne, n3 j hj hne hjl], by rw [e4, List.length_set]; exact l3⟩
  · rw [n4 m (by omega) (by omega)]
    rcases m3 m m0 m1 with e | ⟨_, e, e8⟩
    · exact .inl e
    · right
      rw [e]
      exact hms e8
  · rw [q4]; exact hk
  · rw [q4]; exact ⟨hc, hz⟩
  · rw [q4]; exact hs
  · rw [q4]
    have : j = 0 ∨ j = 1 ∨ j = 2 ∨ j = 3 := by omega
    rcases this with rfl | rfl | rfl | rfl
    · exact hv p0 (by simp)
    · exact hv p1 (by simp)
    · exact hv p2 (by simp)
    · exact hv p3 (by simp)
  · rw [q4] at h7 ⊢
    have e7 : ([k, s, c, z] ++ [p0, p1, p2, p3]).getD 7 0 = p3 := rfl
    rw [e7] at h7 ⊢
    have e9 : ([p0, p1, p2, p3] : List Int).getD 3 0 = p3 := rfl
    rw [e9] at e3 m3
    rcases e3 with ⟨z9, _, _⟩ | ⟨hr, h88, e3⟩
    · exact absurd z9 h7
    · rw [n4 p3 (by omega) (by omega), e3, rowAt_set (by omega) (by omega) (by omega), if_pos rfl]
      exact hms h88 j hj
/-- the record of a folder -/
theorem rec_fold {lo hi i k c z : Int} {kds : List Int} {ts R R4 : List (List Int)} (h0 : 0 ≤ i) (hb : 10 + i < lo) (hlo : lo ≤ hi) (hR : hi ≤ R.length) (h8 : (rowAt R (10 + i)).length = 8)
    (e2 : R4 = putAt (putAt (putAt R (10 + i) 0 k) (10 + i) 2 c) (10 + i) 3 z)
    (hk : k = kd kds i) (hk2 : ¬ kd kds i = 1) (hc : c = cntM ts i) (hz : z = if cntM ts i = 0 then 1 else 0) (hrec : ∀ f, 0 ≤ f → f < i → RecOk lo hi kds ts R f) :
    (∀ f, 0 ≤ f → f < i + 1 → RecOk lo hi kds ts R4 f) ∧ (∀ j, 0 ≤ j → ¬ j = 10 + i → j < lo → rowAt R4 j = rowAt R j) ∧ R4.length = R.length := by
  have n2 : ∀ j, 0 ≤ j → ¬ j = 10 + i → rowAt R4 j = rowAt R j := fun j hj hne => by
    rw [e2, put_ne (by omega) (by simp only [putAt_len]; omega) hj hne, put_ne (by omega) (by simp only [putAt_len]; omega) hj hne, put_ne (by omega) (by omega) hj hne]
  have q2 : rowAt R4 (10 + i) = (((rowAt R (10 + i)).set 0 k).set 2 c).set 3 z := by
    rw [e2, put_eq (by omega) (by simp only [putAt_len]; omega), put_eq (by omega) (by simp only [putAt_len]; omega), put_eq (by omega) (by omega)]
  obtain ⟨x0, x1, x2, x3, x4, x5, x6, x7, e8⟩ := list8' h8
  rw [e8] at q2
  refine ⟨rec_all h0 hb hrec (fun j hj hne _ => n2 j hj hne) (fun m m0 m1 => .inl (n2 m (by omega) (by omega))) ⟨?_, fun _ _ => ?_, fun _ h => absurd h hk2, fun _ h => absurd h hk2, fun _ h => absurd h hk2⟩, fun j hj hne _ => n2 j hj hne, by rw [e2]; simp only [putAt_len]⟩
  · rw [q2]; exact hk
  · rw [q2]; exact ⟨hc, hz⟩
/-- the record of the top, and of a free one -/
theorem rec_none {lo hi i k : Int} {kds : List Int} {ts R R4 : List (List Int)} (h0 : 0 ≤ i) (hb : 10 + i < lo) (hlo : lo ≤ hi) (hR : hi ≤ R.length) (h8 : (rowAt R (10 + i)).length = 8)
    (e2 : R4 = putAt R (10 + i) 0 k) (hk : k = kd kds i) (hk2 : ¬ (1 ≤ i ∧ 0 < kd kds i)) (hrec : ∀ f, 0 ≤ f → f < i → RecOk lo hi kds ts R f) :
    (∀ f, 0 ≤ f → f < i + 1 → RecOk lo hi kds ts R4 f) ∧ (∀ j, 0 ≤ j → ¬ j = 10 + i → j < lo → rowAt R4 j = rowAt R j) ∧ R4.length = R.length := by
  have n2 : ∀ j, 0 ≤ j → ¬ j = 10 + i → rowAt R4 j = rowAt R j := fun j hj hne => by rw [e2, put_ne (by omega) (by omega) hj hne]
  have q2 : rowAt R4 (10 + i) = (rowAt R (10 + i)).set 0 k := by rw [e2, put_eq (by omega) (by omega)]
  obtain ⟨x0, x1, x2, x3, x4, x5, x6, x7, e8⟩ := list8' h8
  rw [e8] at q2
  refine ⟨rec_all h0 hb hrec (fun j hj hne _ => n2 j hj hne) (fun m m0 m1 => .inl (n2 m (by omega) (by omega))) ⟨?_, fun h1 h2 => absurd ⟨h1, h2⟩ hk2, fun h1 h => absurd ⟨h1, by omega⟩ hk2, fun h1 h => absurd ⟨h1, by omega⟩ hk2, fun h1 h => absurd ⟨h1, by omega⟩ hk2⟩, fun j hj hne _ => n2 j hj hne, by rw [e2]; simp only [putAt_len]⟩
  rw [q2]; exact hk
local macro_rules | `(tactic| walk_at "lc") => `(tactic| with_reducible refine s_range1 (fun _ => ?_))
theorem slG_cutset {F s s' : Int} {R : List (List Int)} {ms : List Int} {j' : Nat} (h8 : ∀ r ∈ R, r.length = 8) (hs : 0 ≤ s) (hs' : 0 ≤ s') (hF : 0 ≤ F) (hl : 10 + F + s / 2 < R.length) (hm : ms.length = 4) (hj' : j' < 4) :
    slG F (R.set (10 + F + s / 2).toNat ((rowAt R (10 + F + s / 2)).take (s % 2 * 4).toNat ++ ms ++ (rowAt R (10 + F + s / 2)).drop (s % 2 * 4 + 4).toNat)) s' j' = if s' = s then ms.getD j' 0 else slG F R s' j' := by
  have hr := rowAt_len h8 (j := 10 + F + s / 2) (by omega) hl
  obtain ⟨x0, x1, x2, x3, x4, x5, x6, x7, e8⟩ := list8' hr
  obtain ⟨m0, m1, m2, m3, rfl⟩ := list4i hm
  rw [slG_eq hj', slG_eq hj', rowAt_set (by omega) (by omega) hl, e8]
  have hj4 : j' = 0 ∨ j' = 1 ∨ j' = 2 ∨ j' = 3 := by omega
  by_cases e : 10 + F + s' / 2 = 10 + F + s / 2
  · rw [if_pos e, e, e8]
    have h1 : s % 2 = 0 ∨ s % 2 = 1 := by omega
    have h2 : s' % 2 = 0 ∨ s' % 2 = 1 := by omega
    rcases h1 with h1 | h1 <;> rcases h2 with h2 | h2 <;> rw [h1, h2]
    · rw [if_pos (by omega)]
      rcases hj4 with rfl | rfl | rfl | rfl <;> rfl
    · rw [if_neg (by omega)]
      rcases hj4 with rfl | rfl | rfl | rfl <;> rfl
    · rw [if_neg (by omega)]
      rcases hj4 with rfl | rfl | rfl | rfl <;> rfl
    · rw [if_pos (by omega)]
      rcases hj4 with rfl | rfl | rfl | rfl <;> rfl
  · rw [if_neg e, if_neg (fun z => e (by rw [z]))]
theorem recs_keep {lo hi F : Int} {kds : List Int} {ts R R' : List (List Int)} (h : ∀ f, 0 ≤ f → f < F → RecOk lo hi kds ts R f) (h0 : 0 ≤ lo) (e : ∀ j, 0 ≤ j → (10 ≤ j ∧ j < 10 + F) ∨ lo ≤ j → rowAt R' j = rowAt R j) : ∀ f, 0 ≤ f → f < F → RecOk lo hi kds ts R' f := fun f f0 f1 =>
  (h f f0 f1).keep (e _ (by omega) (.inl ⟨by omega, by omega⟩)) fun m m0 m1 => .inl (e m (by omega) (.inr m0))
theorem recs_set {lo hi F b : Int} {kds : List Int} {ts R : List (List Int)} {r : List Int} (h : ∀ f, 0 ≤ f → f < F → RecOk lo hi kds ts R f) (h0 : 0 ≤ b) (hl : b < R.length) (hb : b < 10 ∨ (10 + F ≤ b ∧ b < lo)) (hlo : 0 ≤ lo) (hb2 : b < lo) : ∀ f, 0 ≤ f → f < F → RecOk lo hi kds ts (R.set b.toNat r) f :=
  recs_keep h hlo fun j hj hc => by rw [rowAt_set h0 hj hl, if_neg (by omega)]
section
variable {K : PySem.W.Frag} {σ : St} {L : Lg} {a b : Addr} {xs ys : List V} {gg : LTG} {tb : LTS} {n0 : St → Lg → Prop} {r0 : LVK} {b0 c0 : St → Lg → Prop}
theorem f_zip (Pv : Nat → St → Lg → Prop) (h0 : Wk (Pv 0 σ) L) (hG : ∀ i σ L, Pv i σ L → IsL K L a xs ∧ IsL K L b ys) (hs : ∀ (i : Nat) u v p σ L, xs[i]? = some u → ys[i]? = some v → Pv i σ L → gg (.ref p) σ ([(p, .tup [u, v])] :: L) fun σ2 L2 => tb ⟨Pv (i + 1), r0, n0, Pv (i + 1)⟩ σ2 L2)
    (hd : ∀ σ L, Pv (min xs.length ys.length) σ L → n0 σ L) : ForR (wkZ K a b xs ys) gg tb ⟨n0, r0, b0, c0⟩ σ L :=
  ⟨Pv, h0, fun i σ L _ h => hG i σ L h, fun i x σ L L' hi p y => by
    obtain ⟨q, u, v, hq, rfl, rfl, hx, hy⟩ := y
    exact hs i u v q σ _ hx hy p, hd⟩
theorem fz_2 {k0 k1 : Nat} (P : Nat → Lg → Prop) (h0 : Wk (P 0) L) (hG : ∀ i L, P i L → IsL K L a xs ∧ IsL K L b ys)
    (hs : ∀ (i : Nat) u v p a0 a1 L, xs[i]? = some u → ys[i]? = some v → P i L → gg (.ref p) (((wipe σ [k0, k1]).set k0 a0).set k1 a1) ([(p, .tup [u, v])] :: L) fun σ2 L2 => tb ⟨SlW σ [k0, k1] P (i + 1), r0, n0, SlW σ [k0, k1] P (i + 1)⟩ σ2 L2)
    (hd : ∀ a0 a1 L, P (min xs.length ys.length) L → n0 (((wipe σ [k0, k1]).set k0 a0).set k1 a1) L) : ForR (wkZ K a b xs ys) gg tb ⟨n0, r0, b0, c0⟩ σ L := by
  obtain ⟨L0, l0, q0⟩ := h0
  refine f_zip (SlW σ [k0, k1] P) ⟨L0, l0, rfl, q0⟩ (fun i σ1 L h => hG i L h.2) ?_ ?_
  · rintro i u v p σ1 L hx hy ⟨hσ, hP⟩
    obtain ⟨a0, a1, rfl⟩ := unw2 hσ
    exact hs i u v p a0 a1 L hx hy hP
  · rintro σ1 L ⟨hσ, hP⟩
    obtain ⟨a0, a1, rfl⟩ := unw2 hσ
    exact hd a0 a1 L hP
end
abbrev tabA (K : PySem.W.Frag) : Addr := (He.cT K ("_law_sound", none)).2
abbrev tabB (K : PySem.W.Frag) : Addr := (He.cT K ("_law_slots", none)).2
/-! what the law's slots tell -/
structure TolOk (F E : Int) (tl : List (Int × List Int)) : Prop where
  key : ∀ e ∈ tl, 0 ≤ e.1 ∧ e.1 < 2 * E
  knd : (tl.map (·.1)).Nodup
  val : ∀ e ∈ tl, ∃ a n f, e.2 = [a, n, f] ∧ (0 ≤ a ∧ a < F) ∧ 1 ≤ n ∧ (1 ≤ f ∧ f < F)
  nd : (tl.map fun e => pr2 e.2).Nodup
structure VolK (F E : Int) (R : List (List Int)) (tl : List (Int × List Int)) : Prop where
  yes : ∀ e ∈ tl, slG F R e.1 0 = 1 ∧ slG F R e.1 1 = e.2.getD 0 0 ∧ slG F R e.1 2 = e.2.getD 1 0 ∧ slG F R e.1 3 = e.2.getD 2 0
  no : ∀ s : Int, 0 ≤ s → s < 2 * E → s ∉ tl.map (·.1) → slG F R s 0 = 0
theorem tl_of {F E B : Int} {kds : List Int} {rk : Int → Nat} {ts R : List (List Int)} {sps : List Int} (hok : SlOk F kds rk ts) (h1 : ∀ x ∈ sps, 0 ≤ x ∧ x < 2 * E) (h2 : sps.Nodup) (h3 : ts.length ≤ sps.length)
    (hy : ∀ (k : Nat) (r : List Int), ts[k]? = some r → ∃ s, sps[k]? = some s ∧ slG F R s 0 = 1 ∧ slG F R s 1 = r.getD 0 0 ∧ slG F R s 2 = r.getD 1 0 ∧ slG F R s 3 = r.getD 2 0) (hn : ∀ s : Int, 0 ≤ s → s < 2 * E → s ∉ sps.take ts.length → slG F R s 0 = 0) :
    ∃ tl : List (Int × List Int), TolOk F E tl ∧ tl.map (·.2) = ts ∧ VolK F E R tl := by
  have hl : (sps.take ts.length).length = ts.length := by rw [List.length_take]; omega
  have m1 : ((sps.take ts.length).zip ts).map (·.1) = sps.take ts.length := List.map_fst_zip (Nat.le_of_eq hl)
  have m2 : ((sps.take ts.length).zip ts).map (·.2) = ts := List.map_snd_zip (Nat.le_of_eq hl.symm)
  refine ⟨(sps.take ts.length).zip ts, ⟨fun e he => ?_, ?_, fun e he => ?_, ?_⟩, m2, ⟨fun e he => ?_, fun s s0 s1 hs => hn s s0 s1 (by rw [m1] at hs; exact hs)⟩⟩
  · exact h1 e.1 (List.mem_of_mem_take (List.of_mem_zip (show (e.1, e.2) ∈ _ from he)).1)
  · rw [m1]; exact (List.take_sublist _ _).nodup h2
  · obtain ⟨a, n, f, e1, ⟨ha, _⟩, ⟨hn1, _⟩, ⟨hf, _⟩, _⟩ := hok.all e.2 (List.of_mem_zip (show (e.1, e.2) ∈ _ from he)).2
    exact ⟨a, n, f, e1, ha, hn1, hf⟩
  · rw [show ((sps.take ts.length).zip ts).map (fun e => pr2 e.2) = (((sps.take ts.length).zip ts).map (·.2)).map pr2 by rw [List.map_map]; rfl, m2]
    exact hok.nd
  · obtain ⟨k, hk⟩ := List.getElem?_of_mem he
    rw [List.getElem?_zip_eq_some] at hk
    obtain ⟨k1, k2⟩ := hk
    obtain ⟨s, e1, e2⟩ := hy k e.2 k2
    have hkl := (List.getElem?_eq_some_iff.mp k2).1
    rw [List.getElem?_take, if_pos hkl, e1] at k1
    rw [← Option.some.inj k1]
    exact e2
structure Drw (F E B : Int) (kds : List Int) (rk : Int → Nat) (ts R : List (List Int)) : Prop where
  ko : KdOk F kds
  sl : SlOk F kds rk ts
  tn : (ts.length : Int) ≤ 2 * E
  rk : ∀ f, rk f ≤ 13
  len : (R.length : Int) = 10 + F + E + B
  e8 : ∀ r ∈ R, r.length = 8
  recs : ∀ f, 0 ≤ f → f < F → RecOk (10 + F + E) (10 + F + E + B) kds ts R f
  tl : ∃ tl : List (Int × List Int), TolOk F E tl ∧ tl.map (·.2) = ts ∧ VolK F E R tl
section
variable {K : PySem.W.Frag} {σ σw : St} {L : Lg} {p q : Addr} {xs : List V} {ts : List (List Int)} {c : Chunk} {gg : LTG} {tt : LTT} {te : LTE} {vw : List Nat} {Q : LVK}
theorem a_mapFT (f : List Int → Bool) (g : List Int → Int) (hm : c ∈ L) (hp : (p, HO.lst xs) ∈ c) (ht : TelAll c xs (ts.map dT)) (hw : wipe σ vw = σw) (hz : ts.length ≤ 1000000)
    (hs : ∀ (i : Nat) (r : List Int) (t : Addr) (acc : List V) (Dl : Addr), ts[i]? = some r → (t, HO.tup (r.map V.int)) ∈ c → acc.length < 1000000 → gg (.ref t) σw ([(Dl, .lst acc)] :: L) (LcT tt te Dl acc (AccB acc (f r) (.int (g r)) L) σw vw))
    (hd : ∀ Dl, Wk (Q (.ref Dl)) ([(Dl, .lst (((ts.filter f).map g).map V.int))] :: L)) : ∀ Dl, Dl ∉ keys L → LcR (wkL K p xs) gg tt te vw σ Dl L Q := fun Dl _ => by
  have hxl : xs.length = ts.length := by rw [ht.len, List.length_map]
  refine c_list (fun i acc L' => acc = (((ts.take i).filter f).map g).map V.int ∧ i ≤ ts.length ∧ L' = L) hw (Wk.go ⟨by simp, Nat.zero_le _, rfl⟩) (fun i acc L' h => ?_) ?_ ?_
  · rw [h.2.2]; exact IsL.tl (IsL.at_ (At.mem hm hp))
  · rintro i acc x L' hi ⟨rfl, hl, rfl⟩
    obtain ⟨r, t, h1, rfl, h3⟩ := ht.tup hi
    have hlt : i < ts.length := (List.getElem?_eq_some_iff.mp h1).1
    have hle : ((ts.take i).filter f).length ≤ i := Nat.le_trans (List.length_filter_le _ _) (by simp; omega)
    have := hs i r t ((((ts.take i).filter f).map g).map V.int) Dl h1 h3 (by rw [List.length_map, List.length_map]; omega)
    have e : AccB ((((ts.take i).filter f).map g).map V.int) (f r) (.int (g r)) L' = fun acc' L'' => acc' = (((ts.take (i + 1)).filter f).map g).map V.int ∧ i + 1 ≤ ts.length ∧ L'' = L' := by
      funext a b
      unfold AccB
      rw [List.take_succ, h1]
      have : i + 1 ≤ ts.length := hlt
      cases hf : f r <;> simp [this, hf]
    rw [e] at this
    exact this
  · rintro acc L' ⟨rfl, _, rfl⟩
    rw [hxl, List.take_length]
    exact hd Dl
end
def sofM (us : List (List Int)) (a n : Int) : Option Int := (us.find? fun u => decide (u.getD 1 0 = a ∧ u.getD 2 0 = n)).map fun u => u.getD 0 0
theorem sofM_none {us : List (List Int)} {a n : Int} (h : ∀ r ∈ us, ¬ (r.getD 1 0 = a ∧ r.getD 2 0 = n)) : sofM us a n = none := by
  unfold sofM
  rw [Option.map_eq_none_iff, List.find?_eq_none]
  intro r hr
  simpa using h r hr
theorem sofM_some {us : List (List Int)} {a n : Int} {i : Nat} {r : List Int} (hi : us[i]? = some r) (hr : r.getD 1 0 = a ∧ r.getD 2 0 = n) (h : ∀ r ∈ us.take i, ¬ (r.getD 1 0 = a ∧ r.getD 2 0 = n)) : sofM us a n = some (r.getD 0 0) := by
  unfold sofM
  rw [show us = us.take i ++ us.drop i from (List.take_append_drop i us).symm, List.find?_append]
  have e1 : (us.take i).find? (fun u => decide (u.getD 1 0 = a ∧ u.getD 2 0 = n)) = none := by
    rw [List.find?_eq_none]
    intro r hr
    simpa using h r hr
  have hlt : i < us.length := (List.getElem?_eq_some_iff.mp hi).1
  have e2 : us.drop i = r :: us.drop (i + 1) := by
    rw [List.drop_eq_getElem_cons hlt]
    congr 1
    exact (List.getElem?_eq_some_iff.mp hi).2
  rw [e1, e2, List.find?_cons_of_pos (by rw [decide_eq_true hr])]
  rfl
theorem sorted_ext : ∀ {xs ys : List Int}, xs.Pairwise (· < ·) → ys.Pairwise (· < ·) → (∀ a, a ∈ xs ↔ a ∈ ys) → xs = ys
  | [], [], _, _, _ => rfl
  | [], b :: ys, _, _, h => absurd ((h b).mpr (by simp)) (by simp)
  | a :: xs, [], _, _, h => absurd ((h a).mp (by simp)) (by simp)
  | a :: xs, b :: ys, h1, h2, h => by
    obtain ⟨p1, p2⟩ := List.pairwise_cons.mp h1
    obtain ⟨q1, q2⟩ := List.pairwise_cons.mp h2
    have e : a = b := by
      rcases List.mem_cons.mp ((h a).mp (by simp)) with e | e
      · exact e
      · rcases List.mem_cons.mp ((h b).mpr (by simp)) with e' | e'
        · exact e'.symm
        · have := q1 a e
          have := p1 b e'
          omega
    subst e
    rw [sorted_ext p2 q2 fun c => ⟨fun hc => ?_, fun hc => ?_⟩]
    · rcases List.mem_cons.mp ((h c).mp (by simp [hc])) with e | e
      · have := p1 c hc; omega
      · exact e
    · rcases List.mem_cons.mp ((h c).mpr (by simp [hc])) with e | e
      · have := q1 c hc; omega
      · exact e
theorem perm_ext {α : Type} [DecidableEq α] : ∀ {xs ys : List α}, xs.Nodup → ys.Nodup → (∀ a, a ∈ xs ↔ a ∈ ys) → xs.Perm ys
  | [], ys, _, _, h => by
    cases ys with
    | nil => exact List.Perm.refl _
    | cons b ys => exact absurd ((h b).mpr (by simp)) (by simp)
  | a :: xs, ys, h1, h2, h => by
    obtain ⟨n1, n2⟩ := List.nodup_cons.mp h1
    have ha : a ∈ ys := (h a).mp (by simp)
    have hp := List.perm_cons_erase ha
    refine List.Perm.trans (List.Perm.cons a (perm_ext n2 (h2.erase a) fun c => ?_)) hp.symm
    rw [h2.mem_erase_iff]
    constructor
    · intro hc
      exact ⟨fun z => n1 (z ▸ hc), (h c).mp (by simp [hc])⟩
    · rintro ⟨hne, hc⟩
      exact (List.mem_cons.mp ((h c).mpr hc)).resolve_left hne
theorem usedM_eq {F E : Int} {R : List (List Int)} : usedM F E R = ((List.range (2 * E).toNat).filter fun s : Nat => decide (slG F R (s : Int) 0 = 1)).map fun s : Nat => [(s : Int), slG F R s 1, slG F R s 2, slG F R s 3] := by
  unfold usedM accM
  induction (2 * E).toNat with
  | zero => rfl
  | succ n ih =>
    rw [List.range_succ, List.map_append, List.flatten_append, ih, List.filter_append, List.map_append]
    congr 1
    show (ust F R n ++ []) = _
    rw [List.append_nil]
    unfold ust
    by_cases h : slG F R (n : Int) 0 = 1
    · rw [if_pos h, List.filter_cons_of_pos (by simpa using h)]
      rfl
    · rw [if_neg h, List.filter_cons_of_neg (by simpa using h)]
      rfl
section
variable {F E : Int} {R : List (List Int)} {tl : List (Int × List Int)} (ht : TolOk F E tl) (hK : VolK F E R tl)
include ht hK
theorem slot_iff (s : Int) (h0 : 0 ≤ s) (h1 : s < 2 * E) : slG F R s 0 = 1 ↔ s ∈ tl.map (·.1) := by
  constructor
  · intro h
    by_cases z : s ∈ tl.map (·.1)
    · exact z
    · have := hK.no s h0 h1 z
      omega
  · intro h
    obtain ⟨e, he, rfl⟩ := List.mem_map.mp h
    exact (hK.yes e he).1
theorem used_mem (u : List Int) : u ∈ usedM F E R ↔ ∃ e ∈ tl, u = e.1 :: e.2 := by
  rw [mem_usedM]
  constructor
  · rintro ⟨s, hs, h1, rfl⟩
    have hm := (slot_iff ht hK s (by omega) (by omega)).mp h1
    obtain ⟨e, he, e1⟩ := List.mem_map.mp hm
    obtain ⟨y0, y1, y2, y3⟩ := hK.yes e he
    obtain ⟨a, n, f, e2, _⟩ := ht.val e he
    rw [e2] at y1 y2 y3
    refine ⟨e, he, ?_⟩
    have e1' : e.1 = (s : Int) := e1
    rw [e2, e1', ← e1', y1, y2, y3]
    rfl
  · rintro ⟨e, he, rfl⟩
    obtain ⟨k0, k1⟩ := ht.key e he
    obtain ⟨y0, y1, y2, y3⟩ := hK.yes e he
    obtain ⟨a, n, f, e2, _⟩ := ht.val e he
    have hc : ((e.1.toNat : Nat) : Int) = e.1 := by omega
    refine ⟨e.1.toNat, by omega, by rw [hc]; exact y0, ?_⟩
    rw [hc, y1, y2, y3, e2]
    rfl
theorem used_perm : (usedM F E R).Perm (tl.map fun e => e.1 :: e.2) := by
  refine perm_ext ?_ ?_ fun u => ?_
  · rw [usedM_eq, List.nodup_iff_pairwise_ne, List.pairwise_map]
    refine List.Pairwise.imp ?_ (List.pairwise_lt_range.filter _)
    intro a b hab e
    have e1 := (List.cons.inj e).1
    omega
  · have h1 := ht.knd
    rw [List.nodup_iff_pairwise_ne, List.pairwise_map] at h1 ⊢
    refine List.Pairwise.imp ?_ h1
    intro a b hne e
    exact hne (List.cons.inj e).1
  · rw [used_mem ht hK u, List.mem_map]
    constructor
    · rintro ⟨e, he, rfl⟩; exact ⟨e, he, rfl⟩
    · rintro ⟨e, he, rfl⟩; exact ⟨e, he, rfl⟩
theorem within_perm {f : Int} : (((usedM F E R).filter fun u => decide (u.getD 1 0 = f)).map fun u => [u.getD 2 0, u.getD 3 0]).Perm ((tl.filter fun e => decide (e.2.getD 0 0 = f)).map fun e => [e.2.getD 1 0, e.2.getD 2 0]) := by
  have h1 := ((used_perm ht hK).filter fun u => decide (u.getD 1 0 = f)).map fun u => [u.getD 2 0, u.getD 3 0]
  rw [List.filter_map, List.map_map] at h1
  exact h1
theorem sof_eq {a n : Int} : sofM (usedM F E R) a n = (tl.find? fun e => decide (pr2 e.2 = [a, n])).map (·.1) := by
  have hpr : ∀ e ∈ tl, (pr2 e.2 = [a, n] ↔ e.2.getD 0 0 = a ∧ e.2.getD 1 0 = n) := fun e he => by
    obtain ⟨a', n', f', e2, _⟩ := ht.val e he
    rw [e2]
    show ([a', n'] : List Int) = [a, n] ↔ a' = a ∧ n' = n
    simp
  cases hf : tl.find? fun e => decide (pr2 e.2 = [a, n]) with
  | none =>
    refine sofM_none fun u hu z => ?_
    obtain ⟨e, he, rfl⟩ := (used_mem ht hK u).mp hu
    exact (List.find?_eq_none.mp hf) e he (by simpa using (hpr e he).mpr z)
  | some e =>
    have he := List.mem_of_find?_eq_some hf
    have h1 : pr2 e.2 = [a, n] := by simpa using List.find?_some hf
    obtain ⟨z1, z2⟩ := (hpr e he).mp h1
    unfold sofM
    cases hg : (usedM F E R).find? fun u => decide (u.getD 1 0 = a ∧ u.getD 2 0 = n) with
    | none => exact absurd (by simpa using And.intro z1 z2) ((List.find?_eq_none.mp hg) (e.1 :: e.2) ((used_mem ht hK _).mpr ⟨e, he, rfl⟩))
    | some u =>
      have hu := List.mem_of_find?_eq_some hg
      have h2 : u.getD 1 0 = a ∧ u.getD 2 0 = n := by simpa using List.find?_some hg
      obtain ⟨d, hd, rfl⟩ := (used_mem ht hK u).mp hu
      have h3 : pr2 d.2 = [a, n] := (hpr d hd).mpr h2
      have h4 : d = e := by
        have nd := ht.nd
        obtain ⟨i, hi⟩ := List.getElem?_of_mem hd
        obtain ⟨j, hj⟩ := List.getElem?_of_mem he
        have hij : i = j := by
          have q1 : (tl.map fun e => pr2 e.2)[i]? = some [a, n] := by rw [List.getElem?_map, hi]; exact congrArg some h3
          have q2 : (tl.map fun e => pr2 e.2)[j]? = some [a, n] := by rw [List.getElem?_map, hj]; exact congrArg some h1
          have hil := (List.getElem?_eq_some_iff.mp q1).1
          exact (List.getElem?_inj hil nd).mp (q1.trans q2.symm)
        subst hij
        rw [hi] at hj
        exact Option.some.inj hj
      rw [h4]
      rfl
end
/-! ### paths -/
def chM (ts : List (List Int)) (f x : Int) : Option Int := (ts.find? fun r => decide (pr2 r = [f, x])).map fun r => r.getD 2 0
def stepM (kds : List Int) (ts : List (List Int)) (f x : Int) : Option Int := if kd kds f = 2 then chM ts f x else none
def walkM (kds : List Int) (ts : List (List Int)) : Int → List Int → Option Int
  | f, [] => some f
  | f, x :: xs => (stepM kds ts f x).bind fun g => walkM kds ts g xs
def fndM (F : Int) (kds : List Int) (ts : List (List Int)) (f : Int) : Bool := decide ((1 ≤ f ∧ f < F) ∧ 0 < kd kds f ∧ cntM ts f = 0)
def pathM (F : Int) (kds : List Int) (ts : List (List Int)) (ns : List Int) : Option Int :=
  if ns.take 1 = [0] then (if fndM F kds ts (ns.getD 1 0) = true then walkM kds ts (ns.getD 1 0) (ns.drop 2) else none) else walkM kds ts 0 ns
theorem walkM_app {kds : List Int} {ts : List (List Int)} : ∀ {f : Int} {xs ys : List Int}, walkM kds ts f (xs ++ ys) = (walkM kds ts f xs).bind fun g => walkM kds ts g ys
  | f, [], ys => rfl
  | f, x :: xs, ys => by
    show ((stepM kds ts f x).bind fun g => walkM kds ts g (xs ++ ys)) = ((stepM kds ts f x).bind fun g => walkM kds ts g xs).bind _
    cases stepM kds ts f x with
    | none => rfl
    | some g => exact walkM_app
theorem fnd0 {F : Int} {kds : List Int} {ts : List (List Int)} : fndM F kds ts 0 = false := decide_eq_false fun z => absurd z.1.1 (by decide)
theorem path_one {F : Int} {kds : List Int} {ts : List (List Int)} : pathM F kds ts [0] = none := by
  unfold pathM
  rw [if_pos (by rfl), show ([0] : List Int).getD 1 0 = 0 from rfl, fnd0]
  rfl
theorem path_fnd {F f : Int} {kds : List Int} {ts : List (List Int)} : pathM F kds ts [0, f] = if fndM F kds ts f = true then some f else none := rfl
theorem path_app {F : Int} {kds : List Int} {ts : List (List Int)} {ns xs : List Int} (h0 : ns ≠ []) (h1 : ns ≠ [0]) : pathM F kds ts (ns ++ xs) = (pathM F kds ts ns).bind fun g => walkM kds ts g xs := by
  cases ns with
  | nil => exact absurd rfl h0
  | cons y ys =>
    unfold pathM
    have e1 : ((y :: ys) ++ xs).take 1 = [y] := rfl
    have e2 : (y :: ys).take 1 = [y] := rfl
    rw [e1, e2]
    by_cases hy : ([y] : List Int) = [0]
    · rw [if_pos hy, if_pos hy]
      cases ys with
      | nil =>
        have : y = 0 := by simpa using hy
        exact absurd (by rw [this]) h1
      | cons z zs =>
        have e3 : ((y :: z :: zs) ++ xs).getD 1 0 = z := rfl
        have e4 : (y :: z :: zs).getD 1 0 = z := rfl
        have e5 : ((y :: z :: zs) ++ xs).drop 2 = zs ++ xs := rfl
        have e6 : (y :: z :: zs).drop 2 = zs := rfl
        rw [e3, e4, e5, e6]
        by_cases hf : fndM F kds ts z = true
        · rw [if_pos hf, if_pos hf]; exact walkM_app
        · rw [if_neg hf, if_neg hf]; rfl
    · rw [if_neg hy, if_neg hy]; exact walkM_app
theorem chM_some {ts : List (List Int)} {f x g : Int} (h : chM ts f x = some g) : ∃ r ∈ ts, pr2 r = [f, x] ∧ r.getD 2 0 = g := by
  unfold chM at h
  obtain ⟨r, hr, e⟩ := Option.map_eq_some_iff.mp h
  exact ⟨r, List.mem_of_find?_eq_some hr, by simpa using List.find?_some hr, e⟩
theorem chM_none {ts : List (List Int)} {f x : Int} (h : [f, x] ∉ ts.map pr2) : chM ts f x = none := by
  unfold chM
  rw [Option.map_eq_none_iff, List.find?_eq_none]
  intro r hr z
  exact h (List.mem_map.mpr ⟨r, hr, by simpa using z⟩)
theorem nodup_map_inj {α β : Type} {f : α → β} : ∀ {l : List α}, (l.map f).Nodup → ∀ a ∈ l, ∀ b ∈ l, f a = f b → a = b
  | [], _, a, ha, _, _, _ => by cases ha
  | c :: l, h, a, ha, b, hb, e => by
    rw [List.map_cons, List.nodup_cons] at h
    rcases List.mem_cons.mp ha with e1 | h1
    · rcases List.mem_cons.mp hb with e2 | h2
      · rw [e1, e2]
      · exact absurd (List.mem_map.mpr ⟨b, h2, by rw [← e, e1]⟩) h.1
    · rcases List.mem_cons.mp hb with e2 | h2
      · exact absurd (List.mem_map.mpr ⟨a, h1, by rw [e, e2]⟩) h.1
      · exact nodup_map_inj h.2 a h1 b h2 e
section
variable {F E B : Int} {kds : List Int} {rk : Int → Nat} {ts R : List (List Int)}
theorem SlOk.ch (h : SlOk F kds rk ts) {a n f : Int} (hr : [a, n, f] ∈ ts) : chM ts a n = some f := by
  unfold chM
  cases e : ts.find? fun r => decide (pr2 r = [a, n]) with
  | none => exact absurd (decide_eq_true rfl) ((List.find?_eq_none.mp e) _ hr)
  | some r =>
    have h1 := List.mem_of_find?_eq_some e
    have h2 : pr2 r = [a, n] := by simpa using List.find?_some e
    have h3 := nodup_map_inj h.nd r h1 _ hr h2
    rw [h3]
    rfl
theorem SlOk.ch0 (h : SlOk F kds rk ts) {f : Int} : chM ts f 0 = none := chM_none fun z => by
  obtain ⟨r, hr, e⟩ := List.mem_map.mp z
  obtain ⟨a, n, g, rfl, _, hn, _⟩ := h.all r hr
  have : n = 0 := by simpa [pr2] using (List.cons.inj e).2
  omega
theorem SlOk.chr (h : SlOk F kds rk ts) {f x g : Int} (hc : chM ts f x = some g) : (1 ≤ g ∧ g < F) ∧ 0 < kd kds g := by
  obtain ⟨r, hr, _, e⟩ := chM_some hc
  obtain ⟨a, n, f', rfl, _, _, hf, _⟩ := h.all r hr
  have : f' = g := e
  rw [← this]
  exact hf
theorem SlOk.step0 (h : SlOk F kds rk ts) {f : Int} : stepM kds ts f 0 = none := by
  unfold stepM
  split
  · exact h.ch0
  · rfl
theorem path_snoc (h : SlOk F kds rk ts) (ht : kd kds 0 = 2) {ns : List Int} {f x : Int} (hp : pathM F kds ts ns = some f) : pathM F kds ts (ns ++ [x]) = stepM kds ts f x := by
  by_cases h0 : ns = []
  · subst h0
    have e : (0 : Int) = f := Option.some.inj hp
    subst e
    by_cases hx : x = 0
    · subst hx
      rw [h.step0]
      exact path_one
    · show (if ([x] : List Int) = [0] then _ else _) = _
      rw [if_neg (by simpa using hx)]
      show (stepM kds ts 0 x).bind (fun g => some g) = _
      cases stepM kds ts 0 x <;> rfl
  · by_cases h1 : ns = [0]
    · rw [h1, path_one] at hp; cases hp
    · rw [path_app h0 h1, hp]
      show (stepM kds ts f x).bind (fun g => some g) = _
      cases stepM kds ts f x <;> rfl
theorem path_zero (h : SlOk F kds rk ts) {ns : List Int} {f g : Int} (h0 : ns ≠ []) (hp : pathM F kds ts ns = some f) : pathM F kds ts (ns ++ [0] ++ [g]) = none := by
  have h1 : ns ≠ [0] := fun z => by rw [z, path_one] at hp; cases hp
  rw [List.append_assoc, path_app h0 h1, hp]
  show (stepM kds ts f 0).bind _ = none
  rw [h.step0]
  rfl
/-- a slot tells its record, in the volume too -/
theorem Drw.slot_of (h : Drw F E B kds rk ts R) (f x : Int) : (sofM (usedM F E R) f x = none ∧ chM ts f x = none) ∨ ∃ s g, sofM (usedM F E R) f x = some s ∧ (0 ≤ s ∧ s < 2 * E) ∧ chM ts f x = some g ∧ slG F R s 3 = g := by
  obtain ⟨tl, ht, e, hK⟩ := h.tl
  rw [sof_eq ht hK]
  cases hf : tl.find? fun e => decide (pr2 e.2 = [f, x]) with
  | none =>
    left
    refine ⟨rfl, chM_none fun z => ?_⟩
    rw [← e, List.map_map] at z
    obtain ⟨d, hd, e2⟩ := List.mem_map.mp z
    exact (List.find?_eq_none.mp hf) d hd (by simpa using e2)
  | some d =>
    right
    have hd := List.mem_of_find?_eq_some hf
    have h2 : pr2 d.2 = [f, x] := by simpa using List.find?_some hf
    obtain ⟨a, n, g, e3, _⟩ := ht.val d hd
    have hm : [a, n, g] ∈ ts := by rw [← e, ← e3]; exact List.mem_map_of_mem hd
    rw [e3] at h2
    have h4 : a = f ∧ n = x := by simpa [pr2] using h2
    obtain ⟨_, _, _, y3⟩ := hK.yes d hd
    rw [e3] at y3
    exact ⟨d.1, g, rfl, ht.key d hd, by rw [← h4.1, ← h4.2]; exact h.sl.ch hm, y3⟩
theorem Drw.kind0 (h : Drw F E B kds rk ts R) {f : Int} (h0 : 0 ≤ f ∧ f < F) : (rowAt R (10 + f)).getD 0 0 = kd kds f := (h.recs f h0.1 h0.2).kind
theorem KdOk.v (h : KdOk F kds) (f : Int) : kd kds f = 0 ∨ kd kds f = 1 ∨ kd kds f = 2 := getD_all (P := fun x => x = 0 ∨ x = 1 ∨ x = 2) (.inl rfl) h.all f.toNat
end
theorem walkM_r {F E B : Int} {kds : List Int} {rk : Int → Nat} {ts R : List (List Int)} (h : Drw F E B kds rk ts R) : ∀ {xs : List Int} {f g : Int}, ((0 ≤ f ∧ f < F) ∧ 0 < kd kds f) → walkM kds ts f xs = some g → (0 ≤ g ∧ g < F) ∧ 0 < kd kds g
  | [], f, g, hf, e => by
    have : f = g := Option.some.inj e
    rw [← this]; exact hf
  | x :: xs, f, g, hf, e => by
    obtain ⟨y, e1, e2⟩ := Option.bind_eq_some_iff.mp e
    have e3 : chM ts f x = some y := by
      unfold stepM at e1
      split at e1
      · exact e1
      · cases e1
    obtain ⟨a1, a2⟩ := h.sl.chr e3
    exact walkM_r h ⟨⟨by omega, a1.2⟩, a2⟩ e2
theorem Drw.pathR {F E B : Int} {kds : List Int} {rk : Int → Nat} {ts R : List (List Int)} (h : Drw F E B kds rk ts R) (hb : inB F E B) {ns : List Int} {g : Int} (e : pathM F kds ts ns = some g) : (0 ≤ g ∧ g < F) ∧ 0 < kd kds g := by
  unfold inB at hb
  unfold pathM at e
  split at e
  · split at e
    · rename_i h2
      obtain ⟨z1, z2, _⟩ := of_decide_eq_true h2
      exact walkM_r h ⟨⟨by omega, z1.2⟩, z2⟩ e
    · cases e
  · exact walkM_r h ⟨⟨Int.le_refl 0, by omega⟩, by rw [h.ko.top]; decide⟩ e
def infM (kds : List Int) (ts R : List (List Int)) (g : Int) : List Int := if g = 0 then [2, 0, 0] else if kd kds g = 2 then [2, 0, cntM ts g] else [1, (rowAt R (10 + g)).getD 1 0, cntM ts g]
/-! ### the path of a record -/
local macro_rules | `(tactic| walk_at "c") => `(tactic| first
  | ((with_reducible refine' s_isP ?h1 ?h2 ?_); (case h1 => assumption); (case h2 => assumption))
  | ((with_reducible refine' s_isPty ?h1 ?h2 ?_); (case h1 => assumption); (case h2 => assumption))
  | with_reducible refine s_callEK ?_
  | with_reducible refine s_addA_i ?_)
theorem sorted_perm : ∀ {xs ys : List Int}, xs.Pairwise (· ≤ ·) → ys.Pairwise (· ≤ ·) → xs.Perm ys → xs = ys
  | [], ys, _, _, h => (List.Perm.nil_eq h)
  | a :: xs, [], _, _, h => absurd h.length_eq (by simp)
  | a :: xs, b :: ys, h1, h2, h => by
    obtain ⟨p1, p2⟩ := List.pairwise_cons.mp h1
    obtain ⟨q1, q2⟩ := List.pairwise_cons.mp h2
    have e : a = b := by
      rcases List.mem_cons.mp (h.mem_iff.mp (by simp : a ∈ a :: xs)) with e | e
      · exact e
      · rcases List.mem_cons.mp (h.mem_iff.mpr (by simp : b ∈ b :: ys)) with e' | e'
        · exact e'.symm
        · have := q1 a e
          have := p1 b e'
          omega
    subst e
    rw [sorted_perm p2 q2 h.cons_inv]
def foundM (F : Int) (kds : List Int) (ts : List (List Int)) : List Int := (rngL 1 (F - 1).toNat).filter (fndM F kds ts)
def ListC (F : Int) (kds : List Int) (ts : List (List Int)) (ns ys : List Int) : Prop :=
  (ns = [0] ∧ ys = foundM F kds ts) ∨ (¬ ns = [0] ∧ ∃ f, pathM F kds ts ns = some f ∧ kd kds f = 2 ∧ ys.Perm ((ts.filter fun r => decide (r.getD 0 0 = f)).map fun r => r.getD 1 0) ∧ ys.Pairwise (· ≤ ·))
theorem ListC.uniq {F : Int} {kds : List Int} {ts : List (List Int)} {ns xs ys : List Int} (h : ListC F kds ts ns xs) (k : ListC F kds ts ns ys) : xs = ys := by
  rcases h with ⟨a, b⟩ | ⟨a, f, b, c, d, e⟩
  · rcases k with ⟨a', b'⟩ | ⟨a', _⟩
    · rw [b, b']
    · exact absurd a a'
  · rcases k with ⟨a', b'⟩ | ⟨a', f', b', c', d', e'⟩
    · exact absurd a' a
    · obtain rfl : f = f' := Option.some.inj (b.symm.trans b')
      exact sorted_perm e e' (d.trans d'.symm)
theorem ListC.len {F : Int} {kds : List Int} {ts : List (List Int)} {ns ys : List Int} (h : ListC F kds ts ns ys) (hF : F ≤ 12) (ht : ts.length ≤ 30) : ys.length ≤ 30 := by
  rcases h with ⟨a, b⟩ | ⟨a, f, b, c, d, e⟩
  · rw [b]
    exact Nat.le_trans (List.length_filter_le _ _) (by rw [rngL_len]; omega)
  · rw [d.length_eq, List.length_map]
    exact Nat.le_trans (List.length_filter_le _ _) ht
theorem names_fst {us : List (List Int)} (h : us.Pairwise lexLe) : (us.map fun r => r.getD 0 0).Pairwise (· ≤ ·) := by
  rw [List.pairwise_map]
  refine List.Pairwise.imp (fun {a b} z => ?_) h
  rcases z with z | ⟨z, _⟩ <;> omega
theorem names_perm {F E B : Int} {kds : List Int} {rk : Int → Nat} {ts R : List (List Int)} (h : Drw F E B kds rk ts R) {f : Int} {us : List (List Int)} (hu : us.Perm (((usedM F E R).filter fun u => decide (u.getD 1 0 = f)).map fun u => [u.getD 2 0, u.getD 3 0])) : (us.map fun r => r.getD 0 0).Perm ((ts.filter fun r => decide (r.getD 0 0 = f)).map fun r => r.getD 1 0) := by
  obtain ⟨tl, ht, e, hK⟩ := h.tl
  have h1 := (hu.trans (within_perm ht hK)).map fun r => r.getD 0 0
  rw [List.map_map] at h1
  rw [← e, List.filter_map, List.map_map]
  exact h1
def RefC (F : Int) (kds : List Int) (ts : List (List Int)) (ns : List Int) (e : Str) : Prop := (e = "path" ∧ ¬ ns = [0] ∧ pathM F kds ts ns = none) ∨ (e = "folder" ∧ ∃ f, pathM F kds ts ns = some f ∧ ¬ kd kds f = 2)
def top (i : Nat) : Stmt := PySem.Challenge.pw_volumemend_k63_folders_listed.main.body.getD i (.Pass ⟨0, 0, 0, 0⟩)
abbrev s_Layout_names_at : Stmt := inClass (top 19) 3
theorem sc_Layout_names_at : FnScope ["self", "number"] ["self", "number"] (defScope s_Layout_names_at) := ⟨rfl, rfl, rfl, by decide +kernel, rfl, by decide +kernel, by decide +kernel⟩
abbrev s_slot_at : Stmt := top 12
theorem sc_slot_at : FnScope ["layout", "s", "number", "half"] ["layout", "s"] (defScope s_slot_at) := ⟨rfl, rfl, rfl, by decide +kernel, rfl, by decide +kernel, by decide +kernel⟩
abbrev s_slot : Stmt := top 13
theorem sc_slot : FnScope ["layout", "volume", "s", "block", "place"] ["layout", "volume", "s"] (defScope s_slot) := ⟨rfl, rfl, rfl, by decide +kernel, rfl, by decide +kernel, by decide +kernel⟩
abbrev s_used_slots : Stmt := top 14
theorem sc_used_slots : FnScope ["layout", "volume", "found", "s", "used", "folder", "name", "file"] ["layout", "volume"] (defScope s_used_slots) := ⟨rfl, rfl, rfl, by decide +kernel, rfl, by decide +kernel, by decide +kernel⟩
abbrev s_names_in : Stmt := top 16
theorem sc_names_in : FnScope ["layout", "volume", "folder", "s", "where", "word", "file"] ["layout", "volume", "folder"] (defScope s_names_in) := ⟨rfl, rfl, rfl, by decide +kernel, rfl, by decide +kernel, by decide +kernel⟩
abbrev s_Layout_record_at : Stmt := inClass (top 19) 2
theorem sc_Layout_record_at : FnScope ["self", "number"] ["self", "number"] (defScope s_Layout_record_at) := ⟨rfl, rfl, rfl, by decide +kernel, rfl, by decide +kernel, by decide +kernel⟩
abbrev s_is_folder : Stmt := top 21
theorem sc_is_folder : FnScope ["layout", "volume", "number"] ["layout", "volume", "number"] (defScope s_is_folder) := ⟨rfl, rfl, rfl, by decide +kernel, rfl, by decide +kernel, by decide +kernel⟩
abbrev s_slot_of : Stmt := top 15
theorem sc_slot_of : FnScope ["layout", "volume", "folder", "name", "s", "where", "word", "file"] ["layout", "volume", "folder", "name"] (defScope s_slot_of) := ⟨rfl, rfl, rfl, by decide +kernel, rfl, by decide +kernel, by decide +kernel⟩
abbrev s_step_down : Stmt := top 23
theorem sc_step_down : FnScope ["layout", "volume", "number", "name", "at"] ["layout", "volume", "number", "name"] (defScope s_step_down) := ⟨rfl, rfl, rfl, by decide +kernel, rfl, by decide +kernel, by decide +kernel⟩
abbrev s_found_records : Stmt := top 22
theorem sc_found_records : FnScope ["layout", "volume", "found", "number", "row"] ["layout", "volume"] (defScope s_found_records) := ⟨rfl, rfl, rfl, by decide +kernel, rfl, by decide +kernel, by decide +kernel⟩
abbrev s_find_path : Stmt := top 24
theorem sc_find_path : FnScope ["layout", "volume", "path", "number", "names", "name"] ["layout", "volume", "path"] (defScope s_find_path) := ⟨rfl, rfl, rfl, by decide +kernel, rfl, by decide +kernel, by decide +kernel⟩
abbrev s_listed : Stmt := top 25
theorem sc_listed : FnScope ["layout", "volume", "path", "number", "name", "file"] ["layout", "volume", "path"] (defScope s_listed) := ⟨rfl, rfl, rfl, by decide +kernel, rfl, by decide +kernel, by decide +kernel⟩
abbrev s__law_refusal : Stmt := top 41
theorem sc__law_refusal : FnScope ["_law_e", "_law_words"] ["_law_e"] (defScope s__law_refusal) := ⟨rfl, rfl, rfl, by decide +kernel, rfl, by decide +kernel, by decide +kernel⟩
abbrev s__law_refused : Stmt := top 42
theorem sc__law_refused : FnScope ["_law_layout_here", "_law_volume", "_law_path_here", "_law_e"] ["_law_layout_here", "_law_volume", "_law_path_here"] (defScope s__law_refused) := ⟨rfl, rfl, rfl, by decide +kernel, rfl, by decide +kernel, by decide +kernel⟩
abbrev s__law_list : Stmt := top 43
theorem sc__law_list : FnScope ["_law_layout_here", "_law_volume", "_law_path_here", "_law_due", "_law_found", "_law_one"] ["_law_layout_here", "_law_volume", "_law_path_here", "_law_due"] (defScope s__law_list) := ⟨rfl, rfl, rfl, by decide +kernel, rfl, by decide +kernel, by decide +kernel⟩
abbrev s__law_path : Stmt := top 40
theorem sc__law_path : FnScope ["_law_slots_here", "_law_f", "_law_cell_here", "_law_names", "_law_turn", "_law_own", "_law_one"] ["_law_slots_here", "_law_f", "_law_cell_here"] (defScope s__law_path) := ⟨rfl, rfl, rfl, by decide +kernel, rfl, by decide +kernel, by decide +kernel⟩
abbrev s__law_mixed : Stmt := top 28
theorem sc__law_mixed : FnScope ["_law_cell_here", "_law_k", "_law_number"] ["_law_cell_here", "_law_k"] (defScope s__law_mixed) := ⟨rfl, rfl, rfl, by decide +kernel, rfl, by decide +kernel, by decide +kernel⟩
abbrev s__law_cell : Stmt := top 27
theorem sc__law_cell : FnScope ["_law_script", "_law_k"] ["_law_script", "_law_k"] (defScope s__law_cell) := ⟨rfl, rfl, rfl, by decide +kernel, rfl, by decide +kernel, by decide +kernel⟩
abbrev s__law_check : Stmt := top 34
theorem sc__law_check : FnScope ["_law_numbers", "_law_k"] ["_law_numbers"] (defScope s__law_check) := ⟨rfl, rfl, rfl, by decide +kernel, rfl, by decide +kernel, by decide +kernel⟩
abbrev s__law_take : Stmt := top 35
theorem sc__law_take : FnScope ["_law_cell_here", "_law_k", "_law_wanted", "_law_free"] ["_law_cell_here", "_law_k", "_law_wanted", "_law_free"] (defScope s__law_take) := ⟨rfl, rfl, rfl, by decide +kernel, rfl, by decide +kernel, by decide +kernel⟩
abbrev s__law_pieces : Stmt := top 36
theorem sc__law_pieces : FnScope ["_law_cell_here", "_law_f", "_law_size_here", "_law_volume", "_law_free", "_law_found", "_law_more", "_law_k"] ["_law_cell_here", "_law_f", "_law_size_here", "_law_volume", "_law_free"] (defScope s__law_pieces) := ⟨rfl, rfl, rfl, by decide +kernel, rfl, by decide +kernel, by decide +kernel⟩
abbrev s__law_size : Stmt := top 37
theorem sc__law_size : FnScope ["_law_cell_here", "_law_f", "_law_some"] ["_law_cell_here", "_law_f"] (defScope s__law_size) := ⟨rfl, rfl, rfl, by decide +kernel, rfl, by decide +kernel, by decide +kernel⟩
abbrev s__law_records : Stmt := top 38
theorem sc__law_records : FnScope ["_law_cell_here", "_law_kinds_here", "_law_slots_here", "_law_volume", "_law_free", "_law_f", "_law_row", "_law_names", "_law_one"] ["_law_cell_here", "_law_kinds_here", "_law_slots_here", "_law_volume", "_law_free"] (defScope s__law_records) := ⟨rfl, rfl, rfl, by decide +kernel, rfl, by decide +kernel, by decide +kernel⟩
abbrev s__law_stands : Stmt := top 31
theorem sc__law_stands : FnScope ["_law_slots_here", "_law_folder", "_law_name", "_law_one"] ["_law_slots_here", "_law_folder", "_law_name"] (defScope s__law_stands) := ⟨rfl, rfl, rfl, by decide +kernel, rfl, by decide +kernel, by decide +kernel⟩
abbrev s__law_new_name : Stmt := top 32
theorem sc__law_new_name : FnScope ["_law_cell_here", "_law_k", "_law_slots_here", "_law_folder", "_law_name"] ["_law_cell_here", "_law_k", "_law_slots_here", "_law_folder"] (defScope s__law_new_name) := ⟨rfl, rfl, rfl, by decide +kernel, rfl, by decide +kernel, by decide +kernel⟩
abbrev s__law_slots : Stmt := top 33
theorem sc__law_slots : FnScope ["_law_cell_here", "_law_kinds_here", "_law_most", "_law_slots_here", "_law_folders", "_law_order", "_law_f", "_law_folder"] ["_law_cell_here", "_law_kinds_here", "_law_most"] (defScope s__law_slots) := ⟨rfl, rfl, rfl, by decide +kernel, rfl, by decide +kernel, by decide +kernel⟩
abbrev s__law_kinds : Stmt := top 30
theorem sc__law_kinds : FnScope ["_law_cell_here", "_law_files", "_law_f"] ["_law_cell_here", "_law_files"] (defScope s__law_kinds) := ⟨rfl, rfl, rfl, by decide +kernel, rfl, by decide +kernel, by decide +kernel⟩
abbrev s__law_sound : Stmt := top 39
theorem sc__law_sound : FnScope ["_law_layout_here", "_law_cell_here", "_law_many", "_law_first", "_law_volume", "_law_block", "_law_kinds_here", "_law_slots_here", "_law_free", "_law_head", "_law_bits", "_law_k", "_law_i", "_law_spots", "_law_s", "_law_one"] ["_law_layout_here", "_law_cell_here"] (defScope s__law_sound) := ⟨rfl, rfl, rfl, by decide +kernel, rfl, by decide +kernel, by decide +kernel⟩
abbrev s_Layout___init__ : Stmt := inClass (top 19) 0
theorem sc_Layout___init__ : FnScope ["self", "files", "slots", "data"] ["self", "files", "slots", "data"] (defScope s_Layout___init__) := ⟨rfl, rfl, rfl, by decide +kernel, rfl, by decide +kernel, by decide +kernel⟩
abbrev s__law_layout : Stmt := top 29
theorem sc__law_layout : FnScope ["_law_script", "_law_files", "_law_slots_here", "_law_data"] ["_law_script"] (defScope s__law_layout) := ⟨rfl, rfl, rfl, by decide +kernel, rfl, by decide +kernel, by decide +kernel⟩
abbrev s_law : Stmt := top 44
theorem sc_law : FnScope ["_law_script", "_law_layout_here", "_law_volume", "_law_kinds_here", "_law_slots_here", "_law_handed", "_law_f", "_law_path_here", "_law_names", "_law_kept", "_law_due", "_law_row", "_law_one"] ["_law_script"] (defScope s_law) := ⟨rfl, rfl, rfl, by decide +kernel, rfl, by decide +kernel, by decide +kernel⟩
def sp_Layout_names_at (K : PySem.W.Frag) : LSp := sp2 fun a n L Q => ∃ p dx F E B m, a = .ref p ∧ n = .int m ∧ layC K p dx F E B ∈ L ∧ Q (.int (10 + F + m)) L
theorem c_names_at {K : PySem.W.Frag} {p dx : Addr} {F E B m : Int} {L : Lg} {Q : LVK} {X : LXK} (h1 : layC K p dx F E B ∈ L) (h : Q (.int (10 + F + m)) L) : sp_Layout_names_at K [.ref p, .int m] L Q X := ⟨_, _, rfl, p, dx, F, E, B, m, rfl, rfl, h1, h⟩
local macro_rules | `(tactic| walk_at "c") => `(tactic| ((with_reducible refine' c_names_at ?h1 ?_); (case h1 => walk_at "mem")))
def sp_slot_at (K : PySem.W.Frag) : LSp := sp2 fun a n L Q => ∃ p dx F E B s, a = .ref p ∧ n = .int s ∧ layC K p dx F E B ∈ L ∧ ∀ r, Q (.ref r) ([(r, .tup [.int (10 + F + s / 2), .int (s % 2 * 4)])] :: L)
theorem c_slot_at {K : PySem.W.Frag} {p dx : Addr} {F E B s : Int} {L : Lg} {Q : LVK} {X : LXK} (h1 : layC K p dx F E B ∈ L) (h : ∀ r, Q (.ref r) ([(r, .tup [.int (10 + F + s / 2), .int (s % 2 * 4)])] :: L)) : sp_slot_at K [.ref p, .int s] L Q X := ⟨_, _, rfl, p, dx, F, E, B, s, rfl, rfl, h1, h⟩
local macro_rules | `(tactic| walk_at "c") => `(tactic| ((with_reducible refine' c_slot_at ?h1 (fun _ => ?_)); (case h1 => walk_at "mem")))
def sp_slot (K : PySem.W.Frag) : LSp := sp3 fun a v n L Q => ∃ p dx F E B s q bs rows, a = .ref p ∧ v = .ref q ∧ n = .int s ∧ layC K p dx F E B ∈ L ∧ volC q bs rows ∈ L ∧ bs.length = rows.length ∧ 0 ≤ 10 + F + s / 2 ∧ 10 + F + s / 2 < rows.length ∧ ∀ r, Q (.ref r) ([(r, .tup ((slotM F rows s).map V.int))] :: L)
theorem c_slot {K : PySem.W.Frag} {p dx q : Addr} {F E B s : Int} {bs : List Addr} {rows : List (List Int)} {L : Lg} {Q : LVK} {X : LXK} (h1 : layC K p dx F E B ∈ L) (h2 : volC q bs rows ∈ L) (h3 : bs.length = rows.length) (h4 : 0 ≤ 10 + F + s / 2) (h5 : 10 + F + s / 2 < rows.length) (h6 : ∀ r ∈ rows, r.length = 8) (h : ∀ r, Q (.ref r) ([(r, .tup [.int (slG F rows s 0), .int (slG F rows s 1), .int (slG F rows s 2), .int (slG F rows s 3)])] :: L)) : sp_slot K [.ref p, .ref q, .int s] L Q X := ⟨_, _, _, rfl, p, dx, F, E, B, s, q, bs, rows, rfl, rfl, rfl, h1, h2, h3, h4, h5, fun r => by rw [slotM_eq h6 h4 h5]; exact h r⟩
local macro_rules | `(tactic| walk_at "c") => `(tactic| ((with_reducible refine' c_slot ?h1 ?h2 ?h3 ?h4 ?h5 ?h6 (fun _ => ?_)); (case h1 => walk_at "mem"); (case h2 => walk_at "mem"); (case h3 => walk_at "ln"); (case h4 => omega); (case h5 => omega); (case h6 => walk_at "a8")))
def sp_used_slots (K : PySem.W.Frag) : LSp := sp2 fun x0_ x1_ L Q => ∃ (q : Addr) (dx : Addr) (F : Int) (E : Int) (B : Int) (p : Addr) (as : List Addr) (rows : List (List Int)), x0_ = .ref q ∧ x1_ = .ref p ∧ inB F E B ∧ layC K q dx F E B ∈ L ∧ volC p as rows ∈ L ∧ as.length = rows.length ∧ (rows.length : Int) = 10 + F + E + B ∧ (∀ r ∈ rows, r.length = 8) ∧ (∀ r c, LdT c r (usedM F E rows) → Q (.ref r) (c :: L))
theorem c_used_slots {K : PySem.W.Frag} {q : Addr} {dx : Addr} {F : Int} {E : Int} {B : Int} {p : Addr} {as : List Addr} {rows : List (List Int)} {L : Lg} {Q : LVK} {X : LXK} (hb : inB F E B) (hm : layC K q dx F E B ∈ L) (hv : volC p as rows ∈ L) (hl : as.length = rows.length) (hn : (rows.length : Int) = 10 + F + E + B) (h8 : ∀ r ∈ rows, r.length = 8) (h_ : ∀ r c, LdT c r (usedM F E rows) → Q (.ref r) (c :: L)) : sp_used_slots K [.ref q, .ref p] L Q X := ⟨_, _, rfl, q, dx, F, E, B, p, as, rows, rfl, rfl, hb, hm, hv, hl, hn, h8, h_⟩
local macro_rules | `(tactic| walk_at "c") => `(tactic| ((with_reducible refine' c_used_slots ?p0_ ?p1_ ?p2_ ?p3_ ?p4_ ?p5_ (fun _ _ _ => ?_)); (case p0_ => first | assumption | (unfold inB; omega)); (case p1_ => walk_at "mem"); (case p2_ => walk_at "mem"); (case p3_ => walk_at "ln"); (case p4_ => walk_at "lt"); (case p5_ => walk_at "a8")))
def sp_names_in (K : PySem.W.Frag) : LSp := sp3 fun x0_ x1_ x2_ L Q => ∃ (q : Addr) (dx : Addr) (F : Int) (E : Int) (B : Int) (p : Addr) (as : List Addr) (rows : List (List Int)) (f : Int), x0_ = .ref q ∧ x1_ = .ref p ∧ x2_ = .int f ∧ inB F E B ∧ layC K q dx F E B ∈ L ∧ volC p as rows ∈ L ∧ as.length = rows.length ∧ (rows.length : Int) = 10 + F + E + B ∧ (∀ r ∈ rows, r.length = 8) ∧ (∀ (r : Addr) (c : Chunk) (us : List (List Int)), us.Perm (((usedM F E rows).filter fun u => decide (u.getD 1 0 = f)).map fun u => [u.getD 2 0, u.getD 3 0]) → us.Pairwise lexLe → LdT c r us → Q (.ref r) (c :: L))
theorem c_names_in {K : PySem.W.Frag} {q : Addr} {dx : Addr} {F : Int} {E : Int} {B : Int} {p : Addr} {as : List Addr} {rows : List (List Int)} {f : Int} {L : Lg} {Q : LVK} {X : LXK} (hb : inB F E B) (hm : layC K q dx F E B ∈ L) (hv : volC p as rows ∈ L) (hl : as.length = rows.length) (hn : (rows.length : Int) = 10 + F + E + B) (h8 : ∀ r ∈ rows, r.length = 8) (h_ : ∀ (r : Addr) (c : Chunk) (us : List (List Int)), us.Perm (((usedM F E rows).filter fun u => decide (u.getD 1 0 = f)).map fun u => [u.getD 2 0, u.getD 3 0]) → us.Pairwise lexLe → LdT c r us → Q (.ref r) (c :: L)) : sp_names_in K [.ref q, .ref p, .int f] L Q X := ⟨_, _, _, rfl, q, dx, F, E, B, p, as, rows, f, rfl, rfl, rfl, hb, hm, hv, hl, hn, h8, h_⟩
local macro_rules | `(tactic| walk_at "c") => `(tactic| ((with_reducible refine' c_names_in ?p0_ ?p1_ ?p2_ ?p3_ ?p4_ ?p5_ (fun _ _ _ _ _ _ => ?_)); (case p0_ => first | assumption | (unfold inB; omega)); (case p1_ => walk_at "mem"); (case p2_ => walk_at "mem"); (case p3_ => walk_at "ln"); (case p4_ => walk_at "lt"); (case p5_ => walk_at "a8")))
def sp_Layout_record_at (K : PySem.W.Frag) : LSp := sp2 fun a n L Q => ∃ m, n = .int m ∧ Q (.int (10 + m)) L
theorem c_record_at {K : PySem.W.Frag} {a : V} {m : Int} {L : Lg} {Q : LVK} {X : LXK} (h : Q (.int (10 + m)) L) : sp_Layout_record_at K [a, .int m] L Q X := ⟨_, _, rfl, m, rfl, h⟩
local macro_rules | `(tactic| walk_at "c") => `(tactic| with_reducible refine c_record_at ?_)
def sp_is_folder (K : PySem.W.Frag) : LSp := sp3 fun x0_ x1_ x2_ L Q => ∃ (q : Addr) (dx : Addr) (F : Int) (E : Int) (B : Int) (p : Addr) (as : List Addr) (rows : List (List Int)) (f : Int) (kds : (List Int)) (rk : (Int → Nat)) (ts : List (List Int)), x0_ = .ref q ∧ x1_ = .ref p ∧ x2_ = .int f ∧ inB F E B ∧ layC K q dx F E B ∈ L ∧ volC p as rows ∈ L ∧ as.length = rows.length ∧ Drw F E B kds rk ts rows ∧ (0 ≤ f ∧ f < F) ∧ (Q (.bl (decide (kd kds f = 2))) L)
theorem c_is_folder {K : PySem.W.Frag} {q : Addr} {dx : Addr} {F : Int} {E : Int} {B : Int} {p : Addr} {as : List Addr} {rows : List (List Int)} {f : Int} {kds : (List Int)} {rk : (Int → Nat)} {ts : List (List Int)} {L : Lg} {Q : LVK} {X : LXK} (hb : inB F E B) (hm : layC K q dx F E B ∈ L) (hv : volC p as rows ∈ L) (hl : as.length = rows.length) (hD : Drw F E B kds rk ts rows) (hf : 0 ≤ f ∧ f < F) (h_ : Q (.bl (decide (kd kds f = 2))) L) : sp_is_folder K [.ref q, .ref p, .int f] L Q X := ⟨_, _, _, rfl, q, dx, F, E, B, p, as, rows, f, kds, rk, ts, rfl, rfl, rfl, hb, hm, hv, hl, hD, hf, h_⟩
local macro_rules | `(tactic| walk_at "c") => `(tactic| ((with_reducible refine' c_is_folder ?p0_ ?p1_ ?p2_ ?p3_ ?p4_ ?p5_ ?_); (case p0_ => first | assumption | (unfold inB; omega)); (case p1_ => walk_at "mem"); (case p2_ => walk_at "mem"); (case p3_ => walk_at "ln"); (case p4_ => assumption); (case p5_ => omega)))
def sp_slot_of (K : PySem.W.Frag) : LSp := sp4 fun x0_ x1_ x2_ x3_ L Q => ∃ (q : Addr) (dx : Addr) (F : Int) (E : Int) (B : Int) (p : Addr) (as : List Addr) (rows : List (List Int)) (f : Int) (x : Int), x0_ = .ref q ∧ x1_ = .ref p ∧ x2_ = .int f ∧ x3_ = .int x ∧ inB F E B ∧ layC K q dx F E B ∈ L ∧ volC p as rows ∈ L ∧ as.length = rows.length ∧ (rows.length : Int) = 10 + F + E + B ∧ (∀ r ∈ rows, r.length = 8) ∧ (Q (optV (sofM (usedM F E rows) f x)) L)
theorem c_slot_of {K : PySem.W.Frag} {q : Addr} {dx : Addr} {F : Int} {E : Int} {B : Int} {p : Addr} {as : List Addr} {rows : List (List Int)} {f : Int} {x : Int} {L : Lg} {Q : LVK} {X : LXK} (hb : inB F E B) (hm : layC K q dx F E B ∈ L) (hv : volC p as rows ∈ L) (hl : as.length = rows.length) (hn : (rows.length : Int) = 10 + F + E + B) (h8 : ∀ r ∈ rows, r.length = 8) (h_ : Q (optV (sofM (usedM F E rows) f x)) L) : sp_slot_of K [.ref q, .ref p, .int f, .int x] L Q X := ⟨_, _, _, _, rfl, q, dx, F, E, B, p, as, rows, f, x, rfl, rfl, rfl, rfl, hb, hm, hv, hl, hn, h8, h_⟩
local macro_rules | `(tactic| walk_at "c") => `(tactic| ((with_reducible refine' c_slot_of ?p0_ ?p1_ ?p2_ ?p3_ ?p4_ ?p5_ ?_); (case p0_ => first | assumption | (unfold inB; omega)); (case p1_ => walk_at "mem"); (case p2_ => walk_at "mem"); (case p3_ => walk_at "ln"); (case p4_ => walk_at "lt"); (case p5_ => walk_at "a8")))
def sp_step_down (K : PySem.W.Frag) : LSp := sp4X fun x0_ x1_ x2_ x3_ L Q Ex => ∃ (q : Addr) (dx : Addr) (F : Int) (E : Int) (B : Int) (p : Addr) (as : List Addr) (rows : List (List Int)) (f : Int) (x : Int) (kds : (List Int)) (rk : (Int → Nat)) (ts : List (List Int)), x0_ = .ref q ∧ x1_ = .ref p ∧ x2_ = .int f ∧ x3_ = .int x ∧ inB F E B ∧ layC K q dx F E B ∈ L ∧ volC p as rows ∈ L ∧ as.length = rows.length ∧ Drw F E B kds rk ts rows ∧ (0 ≤ f ∧ f < F) ∧ ((∀ g, stepM kds ts f x = some g → Q (.int g) L) ∧ (stepM kds ts f x = none → Ex (.ref (He.ga K "NoPath")) none L))
theorem c_step_down {K : PySem.W.Frag} {q : Addr} {dx : Addr} {F : Int} {E : Int} {B : Int} {p : Addr} {as : List Addr} {rows : List (List Int)} {f : Int} {x : Int} {kds : (List Int)} {rk : (Int → Nat)} {ts : List (List Int)} {L : Lg} {Q : LVK} {Ex : LXK} (hb : inB F E B) (hm : layC K q dx F E B ∈ L) (hv : volC p as rows ∈ L) (hl : as.length = rows.length) (hD : Drw F E B kds rk ts rows) (hf : 0 ≤ f ∧ f < F) (h_ : (∀ g, stepM kds ts f x = some g → Q (.int g) L) ∧ (stepM kds ts f x = none → Ex (.ref (He.ga K "NoPath")) none L)) : sp_step_down K [.ref q, .ref p, .int f, .int x] L Q Ex := ⟨_, _, _, _, rfl, q, dx, F, E, B, p, as, rows, f, x, kds, rk, ts, rfl, rfl, rfl, rfl, hb, hm, hv, hl, hD, hf, h_⟩
local macro_rules | `(tactic| walk_at "c") => `(tactic| ((with_reducible refine' c_step_down ?p0_ ?p1_ ?p2_ ?p3_ ?p4_ ?p5_ ?_); (case p0_ => first | assumption | (unfold inB; omega)); (case p1_ => walk_at "mem"); (case p2_ => walk_at "mem"); (case p3_ => walk_at "ln"); (case p4_ => assumption); (case p5_ => first | assumption | omega)))
def sp_found_records (K : PySem.W.Frag) : LSp := sp2 fun x0_ x1_ L Q => ∃ (q : Addr) (dx : Addr) (F : Int) (E : Int) (B : Int) (p : Addr) (as : List Addr) (rows : List (List Int)) (kds : (List Int)) (rk : (Int → Nat)) (ts : List (List Int)), x0_ = .ref q ∧ x1_ = .ref p ∧ inB F E B ∧ layC K q dx F E B ∈ L ∧ volC p as rows ∈ L ∧ as.length = rows.length ∧ Drw F E B kds rk ts rows ∧ (∀ r, Q (.ref r) ([(r, .lst (((rngL 1 (F - 1).toNat).filter (fndM F kds ts)).map V.int))] :: L))
theorem c_found_records {K : PySem.W.Frag} {q : Addr} {dx : Addr} {F : Int} {E : Int} {B : Int} {p : Addr} {as : List Addr} {rows : List (List Int)} {kds : (List Int)} {rk : (Int → Nat)} {ts : List (List Int)} {L : Lg} {Q : LVK} {X : LXK} (hb : inB F E B) (hm : layC K q dx F E B ∈ L) (hv : volC p as rows ∈ L) (hl : as.length = rows.length) (hD : Drw F E B kds rk ts rows) (h_ : ∀ r, Q (.ref r) ([(r, .lst (((rngL 1 (F - 1).toNat).filter (fndM F kds ts)).map V.int))] :: L)) : sp_found_records K [.ref q, .ref p] L Q X := ⟨_, _, rfl, q, dx, F, E, B, p, as, rows, kds, rk, ts, rfl, rfl, hb, hm, hv, hl, hD, h_⟩
local macro_rules | `(tactic| walk_at "c") => `(tactic| ((with_reducible refine' c_found_records ?p0_ ?p1_ ?p2_ ?p3_ ?p4_ (fun _ => ?_)); (case p0_ => first | assumption | (unfold inB; omega)); (case p1_ => walk_at "mem"); (case p2_ => walk_at "mem"); (case p3_ => walk_at "ln"); (case p4_ => assumption)))
def sp_find_path (K : PySem.W.Frag) : LSp := sp3X fun x0_ x1_ x2_ L Q Ex => ∃ (q : Addr) (dx : Addr) (F : Int) (E : Int) (B : Int) (p : Addr) (as : List Addr) (rows : List (List Int)) (w : Addr) (ns : (List Int)) (kds : (List Int)) (rk : (Int → Nat)) (ts : List (List Int)), x0_ = .ref q ∧ x1_ = .ref p ∧ x2_ = .ref w ∧ inB F E B ∧ layC K q dx F E B ∈ L ∧ volC p as rows ∈ L ∧ as.length = rows.length ∧ Drw F E B kds rk ts rows ∧ At L w (.tup (ns.map V.int)) ∧ ns.length ≤ 1000 ∧ ((∀ g, pathM F kds ts ns = some g → Q (.int g) L) ∧ (pathM F kds ts ns = none → Ex (.ref (He.ga K "NoPath")) none L))
theorem c_find_path {K : PySem.W.Frag} {q : Addr} {dx : Addr} {F : Int} {E : Int} {B : Int} {p : Addr} {as : List Addr} {rows : List (List Int)} {w : Addr} {ns : (List Int)} {kds : (List Int)} {rk : (Int → Nat)} {ts : List (List Int)} {L : Lg} {Q : LVK} {Ex : LXK} (hb : inB F E B) (hm : layC K q dx F E B ∈ L) (hv : volC p as rows ∈ L) (hl : as.length = rows.length) (hD : Drw F E B kds rk ts rows) (hw : At L w (.tup (ns.map V.int))) (hz : ns.length ≤ 1000) (h_ : (∀ g, pathM F kds ts ns = some g → Q (.int g) L) ∧ (pathM F kds ts ns = none → Ex (.ref (He.ga K "NoPath")) none L)) : sp_find_path K [.ref q, .ref p, .ref w] L Q Ex := ⟨_, _, _, rfl, q, dx, F, E, B, p, as, rows, w, ns, kds, rk, ts, rfl, rfl, rfl, hb, hm, hv, hl, hD, hw, hz, h_⟩
local macro_rules | `(tactic| walk_at "c") => `(tactic| ((with_reducible refine' c_find_path ?p0_ ?p1_ ?p2_ ?p3_ ?p4_ ?p5_ ?p6_ ?_); (case p0_ => first | assumption | (unfold inB; omega)); (case p1_ => walk_at "mem"); (case p2_ => walk_at "mem"); (case p3_ => walk_at "ln"); (case p4_ => assumption); (case p5_ => first | walk_at "at" | walk_at "atm"); (case p6_ => omega)))
def sp_listed (K : PySem.W.Frag) : LSp := sp3X fun x0_ x1_ x2_ L Q Ex => ∃ (q : Addr) (dx : Addr) (F : Int) (E : Int) (B : Int) (p : Addr) (as : List Addr) (rows : List (List Int)) (w : Addr) (ns : (List Int)) (kds : (List Int)) (rk : (Int → Nat)) (ts : List (List Int)), x0_ = .ref q ∧ x1_ = .ref p ∧ x2_ = .ref w ∧ inB F E B ∧ layC K q dx F E B ∈ L ∧ volC p as rows ∈ L ∧ as.length = rows.length ∧ Drw F E B kds rk ts rows ∧ At L w (.tup (ns.map V.int)) ∧ ns.length ≤ 1000 ∧ ((∀ ys r, ListC F kds ts ns ys → Q (.ref r) ([(r, .lst (ys.map V.int))] :: L)) ∧ (¬ ns = [0] → pathM F kds ts ns = none → Ex (.ref (He.ga K "NoPath")) none L) ∧ (∀ f, pathM F kds ts ns = some f → ¬ kd kds f = 2 → Ex (.ref (He.ga K "NotFolder")) none L))
theorem c_listed {K : PySem.W.Frag} {q : Addr} {dx : Addr} {F : Int} {E : Int} {B : Int} {p : Addr} {as : List Addr} {rows : List (List Int)} {w : Addr} {ns : (List Int)} {kds : (List Int)} {rk : (Int → Nat)} {ts : List (List Int)} {L : Lg} {Q : LVK} {Ex : LXK} (hb : inB F E B) (hm : layC K q dx F E B ∈ L) (hv : volC p as rows ∈ L) (hl : as.length = rows.length) (hD : Drw F E B kds rk ts rows) (hw : At L w (.tup (ns.map V.int))) (hz : ns.length ≤ 1000) (h_ : (∀ ys r, ListC F kds ts ns ys → Q (.ref r) ([(r, .lst (ys.map V.int))] :: L)) ∧ (¬ ns = [0] → pathM F kds ts ns = none → Ex (.ref (He.ga K "NoPath")) none L) ∧ (∀ f, pathM F kds ts ns = some f → ¬ kd kds f = 2 → Ex (.ref (He.ga K "NotFolder")) none L)) : sp_listed K [.ref q, .ref p, .ref w] L Q Ex := ⟨_, _, _, rfl, q, dx, F, E, B, p, as, rows, w, ns, kds, rk, ts, rfl, rfl, rfl, hb, hm, hv, hl, hD, hw, hz, h_⟩
local macro_rules | `(tactic| walk_at "c") => `(tactic| ((with_reducible refine' c_listed ?p0_ ?p1_ ?p2_ ?p3_ ?p4_ ?p5_ ?p6_ ?_); (case p0_ => first | assumption | (unfold inB; omega)); (case p1_ => walk_at "mem"); (case p2_ => walk_at "mem"); (case p3_ => walk_at "ln"); (case p4_ => assumption); (case p5_ => first | walk_at "at" | walk_at "atm"); (case p6_ => omega)))
def sp__law_refusal (K : PySem.W.Frag) : Value → LSp := fun cls => sp1 fun _ L Q => (cls = .ref (He.ga K "NoPath") ∧ Q (.str "path") L) ∨ (cls = .ref (He.ga K "NotFolder") ∧ Q (.str "folder") L)
theorem c_lrefusalP {K : PySem.W.Frag} {a : Addr} {L : Lg} {Q : LVK} {X : LXK} (h : Q (.str "path") L) : sp__law_refusal K (.ref (He.ga K "NoPath")) [.ref a] L Q X := ⟨_, rfl, .inl ⟨rfl, h⟩⟩
theorem c_lrefusalF {K : PySem.W.Frag} {a : Addr} {L : Lg} {Q : LVK} {X : LXK} (h : Q (.str "folder") L) : sp__law_refusal K (.ref (He.ga K "NotFolder")) [.ref a] L Q X := ⟨_, rfl, .inr ⟨rfl, h⟩⟩
local macro_rules | `(tactic| walk_at "c") => `(tactic| first | with_reducible refine c_lrefusalP ?_ | with_reducible refine c_lrefusalF ?_)
def sp__law_refused (K : PySem.W.Frag) : LSp := sp3 fun x0_ x1_ x2_ L Q => ∃ (q : Addr) (dx : Addr) (F : Int) (E : Int) (B : Int) (p : Addr) (as : List Addr) (rows : List (List Int)) (w : Addr) (ns : (List Int)) (kds : (List Int)) (rk : (Int → Nat)) (ts : List (List Int)) (e : Str), x0_ = .ref q ∧ x1_ = .ref p ∧ x2_ = .ref w ∧ inB F E B ∧ layC K q dx F E B ∈ L ∧ volC p as rows ∈ L ∧ as.length = rows.length ∧ Drw F E B kds rk ts rows ∧ At L w (.tup (ns.map V.int)) ∧ ns.length ≤ 1000 ∧ RefC F kds ts ns e ∧ (Q (.str e) L)
theorem c__law_refused {K : PySem.W.Frag} {q : Addr} {dx : Addr} {F : Int} {E : Int} {B : Int} {p : Addr} {as : List Addr} {rows : List (List Int)} {w : Addr} {ns : (List Int)} {kds : (List Int)} {rk : (Int → Nat)} {ts : List (List Int)} {e : Str} {L : Lg} {Q : LVK} {X : LXK} (hb : inB F E B) (hm : layC K q dx F E B ∈ L) (hv : volC p as rows ∈ L) (hl : as.length = rows.length) (hD : Drw F E B kds rk ts rows) (hw : At L w (.tup (ns.map V.int))) (hz : ns.length ≤ 1000) (hno : RefC F kds ts ns e) (h_ : Q (.str e) L) : sp__law_refused K [.ref q, .ref p, .ref w] L Q X := ⟨_, _, _, rfl, q, dx, F, E, B, p, as, rows, w, ns, kds, rk, ts, e, rfl, rfl, rfl, hb, hm, hv, hl, hD, hw, hz, hno, h_⟩
local macro_rules | `(tactic| walk_at "c") => `(tactic| ((with_reducible refine' c__law_refused ?p0_ ?p1_ ?p2_ ?p3_ ?p4_ ?p5_ ?p6_ ?p7_ ?_); (case p0_ => first | assumption | (unfold inB; omega)); (case p1_ => walk_at "mem"); (case p2_ => walk_at "mem"); (case p3_ => walk_at "ln"); (case p4_ => assumption); (case p5_ => first | walk_at "at" | walk_at "atm"); (case p6_ => omega); (case p7_ => first | assumption | exact hno)))
def sp__law_list (K : PySem.W.Frag) : LSp := sp4 fun x0_ x1_ x2_ x3_ L Q => ∃ (q : Addr) (dx : Addr) (F : Int) (E : Int) (B : Int) (p : Addr) (as : List Addr) (rows : List (List Int)) (w : Addr) (z : Addr) (ns : (List Int)) (ys : (List Int)) (kds : (List Int)) (rk : (Int → Nat)) (ts : List (List Int)), x0_ = .ref q ∧ x1_ = .ref p ∧ x2_ = .ref w ∧ x3_ = .ref z ∧ inB F E B ∧ layC K q dx F E B ∈ L ∧ volC p as rows ∈ L ∧ as.length = rows.length ∧ Drw F E B kds rk ts rows ∧ At L w (.tup (ns.map V.int)) ∧ ns.length ≤ 1000 ∧ At L z (.lst (ys.map V.int)) ∧ ListC F kds ts ns ys ∧ (Q (.bl true) L)
theorem c__law_list {K : PySem.W.Frag} {q : Addr} {dx : Addr} {F : Int} {E : Int} {B : Int} {p : Addr} {as : List Addr} {rows : List (List Int)} {w : Addr} {z : Addr} {ns : (List Int)} {ys : (List Int)} {kds : (List Int)} {rk : (Int → Nat)} {ts : List (List Int)} {L : Lg} {Q : LVK} {X : LXK} (hb : inB F E B) (hm : layC K q dx F E B ∈ L) (hv : volC p as rows ∈ L) (hl : as.length = rows.length) (hD : Drw F E B kds rk ts rows) (hw : At L w (.tup (ns.map V.int))) (hz : ns.length ≤ 1000) (hu : At L z (.lst (ys.map V.int))) (hlc : ListC F kds ts ns ys) (h_ : Q (.bl true) L) : sp__law_list K [.ref q, .ref p, .ref w, .ref z] L Q X := ⟨_, _, _, _, rfl, q, dx, F, E, B, p, as, rows, w, z, ns, ys, kds, rk, ts, rfl, rfl, rfl, rfl, hb, hm, hv, hl, hD, hw, hz, hu, hlc, h_⟩
local macro_rules | `(tactic| walk_at "c") => `(tactic| ((with_reducible refine' c__law_list ?p0_ ?p1_ ?p2_ ?p3_ ?p4_ ?p5_ ?p6_ ?p7_ ?p8_ ?_); (case p0_ => first | assumption | (unfold inB; omega)); (case p1_ => walk_at "mem"); (case p2_ => walk_at "mem"); (case p3_ => walk_at "ln"); (case p4_ => assumption); (case p5_ => first | walk_at "at" | walk_at "atm"); (case p6_ => omega); (case p7_ => first | walk_at "at" | walk_at "atm"); (case p8_ => first | assumption | exact hlc)))
def sp__law_path (K : PySem.W.Frag) : LSp := sp3 fun x0_ x1_ x2_ L Q => ∃ (F : Int) (p : Addr) (d : Chunk) (ts : List (List Int)) (f : Int) (n : Int) (kds : (List Int)) (rk : (Int → Nat)), x0_ = .ref p ∧ x1_ = .int f ∧ x2_ = .int n ∧ LdT d p ts ∧ d ∈ L ∧ SlOk F kds rk ts ∧ (∀ f, rk f ≤ 13) ∧ ts.length ≤ 30 ∧ (0 ≤ f ∧ f < F) ∧ (∀ t ns, (0 < kd kds f → pathM F kds ts ns = some f) → ns.length ≤ 20 → Q (.ref t) ([(t, .tup (ns.map V.int))] :: L))
theorem c__law_path {K : PySem.W.Frag} {F : Int} {p : Addr} {d : Chunk} {ts : List (List Int)} {f : Int} {n : Int} {kds : (List Int)} {rk : (Int → Nat)} {L : Lg} {Q : LVK} {X : LXK} (hd : LdT d p ts) (hdm : d ∈ L) (h3 : SlOk F kds rk ts) (hrk : ∀ f, rk f ≤ 13) (hz : ts.length ≤ 30) (hf : 0 ≤ f ∧ f < F) (h_ : ∀ t ns, (0 < kd kds f → pathM F kds ts ns = some f) → ns.length ≤ 20 → Q (.ref t) ([(t, .tup (ns.map V.int))] :: L)) : sp__law_path K [.ref p, .int f, .int n] L Q X := ⟨_, _, _, rfl, F, p, d, ts, f, n, kds, rk, rfl, rfl, rfl, hd, hdm, h3, hrk, hz, hf, h_⟩
local macro_rules | `(tactic| walk_at "c") => `(tactic| ((with_reducible refine' c__law_path ?p0_ ?p1_ ?p2_ ?p3_ ?p4_ ?p5_ (fun _ _ _ _ => ?_)); (case p0_ => assumption); (case p1_ => walk_at "mem"); (case p2_ => assumption); (case p3_ => assumption); (case p4_ => omega); (case p5_ => first | assumption | omega)))
def sp__law_mixed (K : PySem.W.Frag) : LSp := sp2 fun a b L Q => ∃ c k, a = .int c ∧ b = .int k ∧ Q (.int (mixM c k)) L
theorem c_mixed {K : PySem.W.Frag} {c k : Int} {L : Lg} {Q : LVK} {E : LXK} (h : 0 ≤ mixM c k ∧ mixM c k < 2147483647 → Q (.int (mixM c k)) L) : sp__law_mixed K [.int c, .int k] L Q E := ⟨_, _, rfl, c, k, rfl, rfl, h (mixM_b c k)⟩
local macro_rules | `(tactic| walk_at "c") => `(tactic| with_reducible refine c_mixed (fun _ => ?_))
def sp__law_cell (K : PySem.W.Frag) : LSp := sp2 fun a b L Q => ∃ c p ns k, a = .ref p ∧ b = .int k ∧ Scr K c p ns ∧ c ∈ L ∧ 0 ≤ k ∧ Q (.int (cellM ns k)) L
theorem c_cell {K : PySem.W.Frag} {c : Chunk} {p : Addr} {ns : List Int} {k : Int} {L : Lg} {Q : LVK} {E : LXK} (h1 : Scr K c p ns) (h2 : c ∈ L) (h3 : 0 ≤ k) (h : Q (.int (cellM ns k)) L) : sp__law_cell K [.ref p, .int k] L Q E := ⟨_, _, rfl, c, p, ns, k, rfl, rfl, h1, h2, h3, h⟩
local macro_rules | `(tactic| walk_at "c") => `(tactic| ((with_reducible refine' c_cell ?h1 ?h2 ?h3 ?_); (case h1 => assumption); (case h2 => walk_at "mem"); (case h3 => walk_at "ar")))
def sp__law_check (K : PySem.W.Frag) : LSp := sp1 fun x0_ L Q => ∃ (p : Addr) (ns : List Int) (xs : (List V)), x0_ = .ref p ∧ At L p (.lst xs) ∧ IntsV xs ns ∧ ns.length ≤ 1000 ∧ (∀ x, Q (.int x) L)
theorem c__law_check {K : PySem.W.Frag} {p : Addr} {ns : List Int} {xs : (List V)} {L : Lg} {Q : LVK} {X : LXK} (h1 : At L p (.lst xs)) (h2 : IntsV xs ns) (h3 : ns.length ≤ 1000) (h_ : ∀ x, Q (.int x) L) : sp__law_check K [.ref p] L Q X := ⟨_, rfl, p, ns, xs, rfl, h1, h2, h3, h_⟩
local macro_rules | `(tactic| walk_at "c") => `(tactic| ((with_reducible refine' c__law_check ?p0_ ?p1_ ?p2_ (fun _ => ?_)); (case p0_ => first | walk_at "at" | walk_at "atm"); (case p1_ => walk_at "iv"); (case p2_ => walk_at "le")))
def sp__law_take (K : PySem.W.Frag) : LSp := sp4 fun x0_ x1_ x2_ x3_ L Q => ∃ (n : Int) (k : Int) (w : Bool) (fp : Addr) (fr : (List Int)) (L1 : Lg), x0_ = .int n ∧ x1_ = .int k ∧ x2_ = .bl w ∧ x3_ = .ref fp ∧ L = [(fp, .lst (fr.map V.int))] :: L1 ∧ fr.length ≤ 40 ∧ (∀ (x : Int) (fr' : List Int), ((x = 0 ∧ fr' = fr) ∨ (w = true ∧ fr = fr' ++ [x])) → Q (.int x) ([(fp, .lst (fr'.map V.int))] :: L1))
theorem c__law_take {K : PySem.W.Frag} {n : Int} {k : Int} {w : Bool} {fp : Addr} {fr : (List Int)} {L L1 : Lg} {Q : LVK} {X : LXK} (u0 : Pull ([(fp, .lst (fr.map V.int))]) L L1) (hz : fr.length ≤ 40) (h_ : ∀ (x : Int) (fr' : List Int), ((x = 0 ∧ fr' = fr) ∨ (w = true ∧ fr = fr' ++ [x])) → Q (.int x) ([(fp, .lst (fr'.map V.int))] :: L1)) : Wk (fun L0 => sp__law_take K [.int n, .int k, .bl w, .ref fp] L0 Q X) L := Wk.by_ (LicS.lic (LicS.pull u0 LicS.refl)) ⟨_, _, _, _, rfl, n, k, w, fp, fr, L1, rfl, rfl, rfl, rfl, rfl, hz, h_⟩
local macro_rules | `(tactic| walk_at "c") => `(tactic| ((with_reducible refine' c__law_take ?u0_ ?p0_ (fun _ _ _ => ?_)); (case u0_ => walk_at "pull"); (case p0_ => omega)))
def sp__law_pieces (K : PySem.W.Frag) : LSp := sp5 fun x0_ x1_ x2_ x3_ x4_ L Q => ∃ (n : Int) (f : Int) (x : Int) (p : Addr) (as : List Addr) (rows : List (List Int)) (fp : Addr) (fr : (List Int)) (lo : Int) (hi : Int) (L1 : Lg), x0_ = .int n ∧ x1_ = .int f ∧ x2_ = .int x ∧ x3_ = .ref p ∧ x4_ = .ref fp ∧ L = volC p as rows :: [(fp, .lst (fr.map V.int))] :: L1 ∧ as.length = rows.length ∧ (∀ r ∈ rows, r.length = 8) ∧ (∀ x ∈ fr, lo ≤ x ∧ x < hi) ∧ (0 < lo ∧ hi ≤ rows.length) ∧ fr.length ≤ 40 ∧ (∀ (r : Addr) (as' : List Addr) (rows' : List (List Int)) (fr' ps ms : List Int), ps.length = 4 → Tk lo hi fr fr' (ps ++ ms) → ((ps.getD 3 0 = 0 ∧ ms = [] ∧ rows' = rows) ∨ ((lo ≤ ps.getD 3 0 ∧ ps.getD 3 0 < hi) ∧ ms.length = 8 ∧ rows' = rows.set (ps.getD 3 0).toNat ms)) → as'.length = rows'.length → (∀ j, 0 ≤ j → j < lo → adrAt as' j = adrAt as j) → Q (.ref r) ([(r, .lst (ps.map V.int))] :: volC p as' rows' :: [(fp, .lst (fr'.map V.int))] :: L1))
theorem c__law_pieces {K : PySem.W.Frag} {n : Int} {f : Int} {x : Int} {p : Addr} {as : List Addr} {rows : List (List Int)} {fp : Addr} {fr : (List Int)} {lo : Int} {hi : Int} {L La1 L1 : Lg} {Q : LVK} {X : LXK} (u0 : Pull (volC p as rows) L La1) (u1 : Pull ([(fp, .lst (fr.map V.int))]) La1 L1) (hl : as.length = rows.length) (h8 : ∀ r ∈ rows, r.length = 8) (hfr : ∀ x ∈ fr, lo ≤ x ∧ x < hi) (h0 : 0 < lo ∧ hi ≤ rows.length) (hz : fr.length ≤ 40) (h_ : ∀ (r : Addr) (as' : List Addr) (rows' : List (List Int)) (fr' ps ms : List Int), ps.length = 4 → Tk lo hi fr fr' (ps ++ ms) → ((ps.getD 3 0 = 0 ∧ ms = [] ∧ rows' = rows) ∨ ((lo ≤ ps.getD 3 0 ∧ ps.getD 3 0 < hi) ∧ ms.length = 8 ∧ rows' = rows.set (ps.getD 3 0).toNat ms)) → as'.length = rows'.length → (∀ j, 0 ≤ j → j < lo → adrAt as' j = adrAt as j) → Q (.ref r) ([(r, .lst (ps.map V.int))] :: volC p as' rows' :: [(fp, .lst (fr'.map V.int))] :: L1)) : Wk (fun L0 => sp__law_pieces K [.int n, .int f, .int x, .ref p, .ref fp] L0 Q X) L := Wk.by_ (LicS.lic (LicS.pull u0 (LicS.pull u1 LicS.refl))) ⟨_, _, _, _, _, rfl, n, f, x, p, as, rows, fp, fr, lo, hi, L1, rfl, rfl, rfl, rfl, rfl, rfl, hl, h8, hfr, h0, hz, h_⟩
local macro_rules | `(tactic| walk_at "c") => `(tactic| ((with_reducible refine' c__law_pieces ?u0_ ?u1_ ?p0_ ?p1_ ?p2_ ?p3_ ?p4_ (fun _ _ _ _ _ _ _ _ _ _ _ => ?_)); (case u0_ => walk_at "pull"); (case u1_ => walk_at "pull"); (case p0_ => walk_at "ln"); (case p1_ => walk_at "a8"); (case p2_ => assumption); (case p3_ => first | omega | (simp only [putAt_len]; omega)); (case p4_ => omega)))
def sp__law_size (K : PySem.W.Frag) : LSp := sp2 fun x0_ x1_ L Q => ∃ (n : Int) (f : Int), x0_ = .int n ∧ x1_ = .int f ∧ (∀ x, 0 ≤ x ∧ x ≤ 88 → Q (.int x) L)
theorem c__law_size {K : PySem.W.Frag} {n : Int} {f : Int} {L : Lg} {Q : LVK} {X : LXK}  (h_ : ∀ x, 0 ≤ x ∧ x ≤ 88 → Q (.int x) L) : sp__law_size K [.int n, .int f] L Q X := ⟨_, _, rfl, n, f, rfl, rfl, h_⟩
local macro_rules | `(tactic| walk_at "c") => `(tactic| ((with_reducible refine' c__law_size  (fun _ _ => ?_))))
def sp__law_records (K : PySem.W.Frag) : LSp := sp5 fun x0_ x1_ x2_ x3_ x4_ L Q => ∃ (n : Int) (kp : Addr) (sp : Addr) (p : Addr) (as : List Addr) (rows : List (List Int)) (fp : Addr) (fr : (List Int)) (lo : Int) (hi : Int) (F : Int) (kds : (List Int)) (d : Chunk) (ts : List (List Int)) (rk : (Int → Nat)) (L1 : Lg), x0_ = .int n ∧ x1_ = .ref kp ∧ x2_ = .ref sp ∧ x3_ = .ref p ∧ x4_ = .ref fp ∧ L = volC p as rows :: [(fp, .lst (fr.map V.int))] :: L1 ∧ KdOk F kds ∧ (2 ≤ F ∧ F ≤ 12) ∧ At L1 kp (.lst (kds.map V.int)) ∧ LdT d sp ts ∧ d ∈ L1 ∧ SlOk F kds rk ts ∧ ts.length ≤ 30 ∧ as.length = rows.length ∧ (∀ r ∈ rows, r.length = 8) ∧ (∀ x ∈ fr, lo ≤ x ∧ x < hi) ∧ (10 + F ≤ lo ∧ lo ≤ hi ∧ hi ≤ rows.length) ∧ fr.length ≤ 40 ∧ (∀ (as' : List Addr) (rows' : List (List Int)) (fr' : List Int), as'.length = rows'.length → rows'.length = rows.length → (∀ r ∈ rows', r.length = 8) → (∀ x ∈ fr', lo ≤ x ∧ x < hi) → fr'.length ≤ fr.length → (∀ f, 0 ≤ f → f < F → RecOk lo hi kds ts rows' f) → (∀ j, 0 ≤ j → j < lo → j < 10 ∨ 10 + F ≤ j → rowAt rows' j = rowAt rows j) → Q .non (volC p as' rows' :: [(fp, .lst (fr'.map V.int))] :: L1))
theorem c__law_records {K : PySem.W.Frag} {n : Int} {kp : Addr} {sp : Addr} {p : Addr} {as : List Addr} {rows : List (List Int)} {fp : Addr} {fr : (List Int)} {lo : Int} {hi : Int} {F : Int} {kds : (List Int)} {d : Chunk} {ts : List (List Int)} {rk : (Int → Nat)} {L La1 L1 : Lg} {Q : LVK} {X : LXK} (u0 : Pull (volC p as rows) L La1) (u1 : Pull ([(fp, .lst (fr.map V.int))]) La1 L1) (hk : KdOk F kds) (hF : 2 ≤ F ∧ F ≤ 12) (hkp : At L1 kp (.lst (kds.map V.int))) (hd : LdT d sp ts) (hdm : d ∈ L1) (h3 : SlOk F kds rk ts) (hts : ts.length ≤ 30) (hl : as.length = rows.length) (h8 : ∀ r ∈ rows, r.length = 8) (hfr : ∀ x ∈ fr, lo ≤ x ∧ x < hi) (h0 : 10 + F ≤ lo ∧ lo ≤ hi ∧ hi ≤ rows.length) (hz : fr.length ≤ 40) (h_ : ∀ (as' : List Addr) (rows' : List (List Int)) (fr' : List Int), as'.length = rows'.length → rows'.length = rows.length → (∀ r ∈ rows', r.length = 8) → (∀ x ∈ fr', lo ≤ x ∧ x < hi) → fr'.length ≤ fr.length → (∀ f, 0 ≤ f → f < F → RecOk lo hi kds ts rows' f) → (∀ j, 0 ≤ j → j < lo → j < 10 ∨ 10 + F ≤ j → rowAt rows' j = rowAt rows j) → Q .non (volC p as' rows' :: [(fp, .lst (fr'.map V.int))] :: L1)) : Wk (fun L0 => sp__law_records K [.int n, .ref kp, .ref sp, .ref p, .ref fp] L0 Q X) L := Wk.by_ (LicS.lic (LicS.pull u0 (LicS.pull u1 LicS.refl))) ⟨_, _, _, _, _, rfl, n, kp, sp, p, as, rows, fp, fr, lo, hi, F, kds, d, ts, rk, L1, rfl, rfl, rfl, rfl, rfl, rfl, hk, hF, hkp, hd, hdm, h3, hts, hl, h8, hfr, h0, hz, h_⟩
local macro_rules | `(tactic| walk_at "c") => `(tactic| ((with_reducible refine' c__law_records ?u0_ ?u1_ ?p0_ ?p1_ ?p2_ ?p3_ ?p4_ ?p5_ ?p6_ ?p7_ ?p8_ ?p9_ ?p10_ ?p11_ (fun _ _ _ _ _ _ _ _ _ _ => ?_)); (case u0_ => walk_at "pull"); (case u1_ => walk_at "pull"); (case p0_ => assumption); (case p1_ => omega); (case p2_ => first | walk_at "at" | walk_at "atm"); (case p3_ => assumption); (case p4_ => walk_at "mem"); (case p5_ => assumption); (case p6_ => omega); (case p7_ => walk_at "ln"); (case p8_ => walk_at "a8"); (case p9_ => assumption); (case p10_ => omega); (case p11_ => omega)))
def sp__law_stands (K : PySem.W.Frag) : LSp := sp3 fun x0_ x1_ x2_ L Q => ∃ (p : Addr) (d : Chunk) (ts : List (List Int)) (f : Int) (x : Int), x0_ = .ref p ∧ x1_ = .int f ∧ x2_ = .int x ∧ LdT d p ts ∧ d ∈ L ∧ (∀ r ∈ ts, r.length = 3) ∧ ts.length ≤ 30 ∧ (Q (.bl (decide ([f, x] ∈ ts.map pr2))) L)
theorem c__law_stands {K : PySem.W.Frag} {p : Addr} {d : Chunk} {ts : List (List Int)} {f : Int} {x : Int} {L : Lg} {Q : LVK} {X : LXK} (hd : LdT d p ts) (hdm : d ∈ L) (h3 : ∀ r ∈ ts, r.length = 3) (hz : ts.length ≤ 30) (h_ : Q (.bl (decide ([f, x] ∈ ts.map pr2))) L) : sp__law_stands K [.ref p, .int f, .int x] L Q X := ⟨_, _, _, rfl, p, d, ts, f, x, rfl, rfl, rfl, hd, hdm, h3, hz, h_⟩
local macro_rules | `(tactic| walk_at "c") => `(tactic| ((with_reducible refine' c__law_stands ?p0_ ?p1_ ?p2_ ?p3_ ?_); (case p0_ => assumption); (case p1_ => walk_at "mem"); (case p2_ => assumption); (case p3_ => omega)))
def sp__law_new_name (K : PySem.W.Frag) : LSp := sp4 fun x0_ x1_ x2_ x3_ L Q => ∃ (n : Int) (k : Int) (p : Addr) (d : Chunk) (ts : List (List Int)) (f : Int), x0_ = .int n ∧ x1_ = .int k ∧ x2_ = .ref p ∧ x3_ = .int f ∧ LdT d p ts ∧ d ∈ L ∧ (∀ r ∈ ts, r.length = 3) ∧ ts.length ≤ 30 ∧ (∀ x, (1 ≤ x ∧ x ≤ MM) → [f, x] ∉ ts.map pr2 → Q (.int x) L)
theorem c__law_new_name {K : PySem.W.Frag} {n : Int} {k : Int} {p : Addr} {d : Chunk} {ts : List (List Int)} {f : Int} {L : Lg} {Q : LVK} {X : LXK} (hd : LdT d p ts) (hdm : d ∈ L) (h3 : ∀ r ∈ ts, r.length = 3) (hz : ts.length ≤ 30) (h_ : ∀ x, (1 ≤ x ∧ x ≤ MM) → [f, x] ∉ ts.map pr2 → Q (.int x) L) : sp__law_new_name K [.int n, .int k, .ref p, .int f] L Q X := ⟨_, _, _, _, rfl, n, k, p, d, ts, f, rfl, rfl, rfl, rfl, hd, hdm, h3, hz, h_⟩
local macro_rules | `(tactic| walk_at "c") => `(tactic| ((with_reducible refine' c__law_new_name ?p0_ ?p1_ ?p2_ ?p3_ (fun _ _ _ => ?_)); (case p0_ => assumption); (case p1_ => walk_at "mem"); (case p2_ => assumption); (case p3_ => omega)))
def sp__law_slots (K : PySem.W.Frag) : LSp := sp3 fun a b z L Q => ∃ (kp : Addr) (n F E : Int) (kds : List Int) (C : Chunk) (R : Lg), a = .int n ∧ b = .ref kp ∧ z = .int (2 * E) ∧ L = C :: R ∧ KdOk F kds ∧ (2 ≤ F ∧ F ≤ 12) ∧ (1 ≤ E ∧ E ≤ 8) ∧ At R kp (.lst (kds.map V.int)) ∧ TabP (He.cT K ("_law_slots", none)).2 (lamQ "_law_slots") C ∧
  ∀ (C' : Chunk) (r : Addr) (c : Chunk) (ts : List (List Int)) (rk : Int → Nat), TabP (He.cT K ("_law_slots", none)).2 (lamQ "_law_slots") C' → LdT c r ts → SlOk F kds rk ts → (∀ f, rk f ≤ 13) → (ts.length : Int) ≤ 2 * E → Q (.ref r) (c :: C' :: R)
theorem c_law_slots {K : PySem.W.Frag} {kp : Addr} {n F E : Int} {kds : List Int} {C : Chunk} {L R : Lg} {Q : LVK} {X : LXK} (hT : TabP (He.cT K ("_law_slots", none)).2 (lamQ "_law_slots") C) (hp : Pull C L R) (hk : KdOk F kds) (hF : 2 ≤ F ∧ F ≤ 12) (hE : 1 ≤ E ∧ E ≤ 8) (hkp : At R kp (.lst (kds.map V.int)))
    (h : ∀ (C' : Chunk) (r : Addr) (c : Chunk) (ts : List (List Int)) (rk : Int → Nat), TabP (He.cT K ("_law_slots", none)).2 (lamQ "_law_slots") C' → LdT c r ts → SlOk F kds rk ts → (∀ f, rk f ≤ 13) → (ts.length : Int) ≤ 2 * E → Q (.ref r) (c :: C' :: R)) : Wk (fun L0 => sp__law_slots K [.int n, .ref kp, .int (2 * E)] L0 Q X) L :=
  Wk.by_ (LicS.lic (LicS.pull hp LicS.refl)) ⟨_, _, _, rfl, kp, n, F, E, kds, C, R, rfl, rfl, rfl, rfl, hk, hF, hE, hkp, hT, h⟩
def sp__law_kinds (K : PySem.W.Frag) : LSp := sp2 fun x0_ x1_ L Q => ∃ (n : Int) (F : Int), x0_ = .int n ∧ x1_ = .int F ∧ (2 ≤ F ∧ F ≤ 12) ∧ (∀ p, Q (.ref p) ([(p, .lst ((kindsM n (F - 1).toNat).map V.int))] :: L))
theorem c__law_kinds {K : PySem.W.Frag} {n : Int} {F : Int} {L : Lg} {Q : LVK} {X : LXK} (h0 : 2 ≤ F ∧ F ≤ 12) (h_ : ∀ p, Q (.ref p) ([(p, .lst ((kindsM n (F - 1).toNat).map V.int))] :: L)) : sp__law_kinds K [.int n, .int F] L Q X := ⟨_, _, rfl, n, F, rfl, rfl, h0, h_⟩
local macro_rules | `(tactic| walk_at "c") => `(tactic| ((with_reducible refine' c__law_kinds ?p0_ (fun _ => ?_)); (case p0_ => omega)))
def sp__law_sound (K : PySem.W.Frag) : LSp := sp2 fun a b L Q => ∃ (q dx : Addr) (F E B n : Int) (C C2 : Chunk) (R : Lg), a = .ref q ∧ b = .int n ∧ L = C :: C2 :: R ∧ inB F E B ∧ layC K q dx F E B ∈ R ∧ TabP (tabA K) (lamQ "_law_sound") C ∧ TabP (tabB K) (lamQ "_law_slots") C2 ∧
  ∀ (C' C2' : Chunk) (T p kp sp : Addr) (as : List Addr) (rows : List (List Int)) (kds : List Int) (d : Chunk) (ts : List (List Int)) (rk : Int → Nat), TabP (tabA K) (lamQ "_law_sound") C' → TabP (tabB K) (lamQ "_law_slots") C2' → as.length = rows.length → LdT d sp ts → Drw F E B kds rk ts rows →
    Q (.ref T) ([(T, .tup [.ref p, .ref kp, .ref sp])] :: volC p as rows :: [(kp, .lst (kds.map V.int))] :: d :: C' :: C2' :: R)
def sp_Layout___init__ (K : PySem.W.Frag) : LSp := sp4 fun a x y z L Q => ∃ p dx F E B L1, a = .ref p ∧ x = .int F ∧ y = .int E ∧ z = .int B ∧ inB F E B ∧ L = [(p, .ins (He.ga K "Layout") dx [])] :: L1 ∧ Q .non (layC K p dx F E B :: L1)
theorem c_layout {K : PySem.W.Frag} {p dx : Addr} {F E B : Int} {L1 : Lg} {Q : LVK} {X : LXK} (h1 : inB F E B) (h : Q .non (layC K p dx F E B :: L1)) : sp_Layout___init__ K [.ref p, .int F, .int E, .int B] ([(p, .ins (He.ga K "Layout") dx [])] :: L1) Q X := ⟨_, _, _, _, rfl, p, dx, F, E, B, L1, rfl, rfl, rfl, rfl, h1, rfl, h⟩
local macro_rules | `(tactic| walk_at "c") => `(tactic| ((with_reducible refine' c_layout ?h1 ?_); (case h1 => first | assumption | (unfold inB; omega))))
def sp__law_layout (K : PySem.W.Frag) : LSp := sp1 fun a L Q => ∃ c p ns, a = .ref p ∧ Scr K c p ns ∧ c ∈ L ∧ ∀ q dx F E B, inB F E B → (2 ≤ F ∧ F ≤ 12 ∧ 1 ≤ E ∧ E ≤ 8 ∧ 2 ≤ B ∧ B ≤ 40) → Q (.ref q) (layC K q dx F E B :: L)
theorem c_lawlayout {K : PySem.W.Frag} {c : Chunk} {p : Addr} {ns : List Int} {L : Lg} {Q : LVK} {X : LXK} (h1 : Scr K c p ns) (h2 : c ∈ L) (h : ∀ q dx F E B, inB F E B → (2 ≤ F ∧ F ≤ 12 ∧ 1 ≤ E ∧ E ≤ 8 ∧ 2 ≤ B ∧ B ≤ 40) → Q (.ref q) (layC K q dx F E B :: L)) : sp__law_layout K [.ref p] L Q X := ⟨_, rfl, c, p, ns, rfl, h1, h2, h⟩
local macro_rules | `(tactic| walk_at "c") => `(tactic| ((with_reducible refine' c_lawlayout ?h1 ?h2 (fun _ _ _ _ _ _ _ => ?_)); (case h1 => assumption); (case h2 => walk_at "mem")))
def sp_law (K : PySem.W.Frag) : LSp := spTrueT K 63 [(He.cT K ("_law_slots", none)).2, (He.cT K ("_law_sound", none)).2]
structure Txt (K : PySem.W.Frag) (mg : Str → Option Value) : Prop where
  i_RECORDS : ∃ t, mg "RECORDS" = some (.int (10) t)
  cl_Layout : Cls K (He.ga K "Layout")
  na_Layout_files : NoAttr K (He.ga K "Layout") "files"
  f_slot_at : ∃ fd, FunD K "slot_at" "slot_at" (defArgs s_slot_at) (defBody s_slot_at) (defScope s_slot_at) ([] : List V) [] (He.fAd K ("slot_at", none)) fd
  g_slot_at : mg "slot_at" = some (.ref (He.ga K "slot_at"))
  f_Layout_names_at : ∃ fd, FunD K "names_at" "Layout.names_at" (defArgs s_Layout_names_at) (defBody s_Layout_names_at) (defScope s_Layout_names_at) ([] : List V) [] (He.fAd K ("Layout", some "names_at")) fd
  n_divmod : mg "divmod" = none
  i_WIDTH : ∃ t, mg "WIDTH" = some (.int (4) t)
  me_Layout_names_at : Meth K (He.ga K "Layout") "names_at" (He.ma K (He.ga K "Layout") "names_at")
  f_slot : ∃ fd, FunD K "slot" "slot" (defArgs s_slot) (defBody s_slot) (defScope s_slot) ([] : List V) [] (He.fAd K ("slot", none)) fd
  g_slot : mg "slot" = some (.ref (He.ga K "slot"))
  n_tuple : mg "tuple" = none
  f_used_slots : ∃ fd, FunD K "used_slots" "used_slots" (defArgs s_used_slots) (defBody s_used_slots) (defScope s_used_slots) ([] : List V) [] (He.fAd K ("used_slots", none)) fd
  g_used_slots : mg "used_slots" = some (.ref (He.ga K "used_slots"))
  n_range : mg "range" = none
  na_Layout_slots : NoAttr K (He.ga K "Layout") "slots"
  f_names_in : ∃ fd, FunD K "names_in" "names_in" (defArgs s_names_in) (defBody s_names_in) (defScope s_names_in) ([] : List V) [] (He.fAd K ("names_in", none)) fd
  g_names_in : mg "names_in" = some (.ref (He.ga K "names_in"))
  n_sorted : mg "sorted" = none
  f_is_folder : ∃ fd, FunD K "is_folder" "is_folder" (defArgs s_is_folder) (defBody s_is_folder) (defScope s_is_folder) ([] : List V) [] (He.fAd K ("is_folder", none)) fd
  g_is_folder : mg "is_folder" = some (.ref (He.ga K "is_folder"))
  f_Layout_record_at : ∃ fd, FunD K "record_at" "Layout.record_at" (defArgs s_Layout_record_at) (defBody s_Layout_record_at) (defScope s_Layout_record_at) ([] : List V) [] (He.fAd K ("Layout", some "record_at")) fd
  me_Layout_record_at : Meth K (He.ga K "Layout") "record_at" (He.ma K (He.ga K "Layout") "record_at")
  f_slot_of : ∃ fd, FunD K "slot_of" "slot_of" (defArgs s_slot_of) (defBody s_slot_of) (defScope s_slot_of) ([] : List V) [] (He.fAd K ("slot_of", none)) fd
  g_slot_of : mg "slot_of" = some (.ref (He.ga K "slot_of"))
  f_step_down : ∃ fd, FunD K "step_down" "step_down" (defArgs s_step_down) (defBody s_step_down) (defScope s_step_down) ([] : List V) [] (He.fAd K ("step_down", none)) fd
  g_step_down : mg "step_down" = some (.ref (He.ga K "step_down"))
  gc_NoPath : mg "NoPath" = some (.ref (He.ga K "NoPath"))
  xB_NoPath : ExcB K (He.ga K "NoPath") = true
  f_found_records : ∃ fd, FunD K "found_records" "found_records" (defArgs s_found_records) (defBody s_found_records) (defScope s_found_records) ([] : List V) [] (He.fAd K ("found_records", none)) fd
  g_found_records : mg "found_records" = some (.ref (He.ga K "found_records"))
  f_find_path : ∃ fd, FunD K "find_path" "find_path" (defArgs s_find_path) (defBody s_find_path) (defScope s_find_path) ([] : List V) [] (He.fAd K ("find_path", none)) fd
  g_find_path : mg "find_path" = some (.ref (He.ga K "find_path"))
  n_len : mg "len" = none
  n_list : mg "list" = none
  f_listed : ∃ fd, FunD K "listed" "listed" (defArgs s_listed) (defBody s_listed) (defScope s_listed) ([] : List V) [] (He.fAd K ("listed", none)) fd
  g_listed : mg "listed" = some (.ref (He.ga K "listed"))
  gc_NotFolder : mg "NotFolder" = some (.ref (He.ga K "NotFolder"))
  xB_NotFolder : ExcB K (He.ga K "NotFolder") = true
  f__law_refusal : ∃ fd, FunD K "_law_refusal" "_law_refusal" (defArgs s__law_refusal) (defBody s__law_refusal) (defScope s__law_refusal) ([] : List V) [] (He.fAd K ("_law_refusal", none)) fd
  g__law_refusal : mg "_law_refusal" = some (.ref (He.ga K "_law_refusal"))
  n_isinstance : mg "isinstance" = none
  n_ValueError : mg "ValueError" = none
  gc_Full : mg "Full" = some (.ref (He.ga K "Full"))
  gc_TooFar : mg "TooFar" = some (.ref (He.ga K "TooFar"))
  gc_NotFile : mg "NotFile" = some (.ref (He.ga K "NotFile"))
  gc_BadNumber : mg "BadNumber" = some (.ref (He.ga K "BadNumber"))
  f__law_refused : ∃ fd, FunD K "_law_refused" "_law_refused" (defArgs s__law_refused) (defBody s__law_refused) (defScope s__law_refused) ([] : List V) [] (He.fAd K ("_law_refused", none)) fd
  g__law_refused : mg "_law_refused" = some (.ref (He.ga K "_law_refused"))
  gc_VolumeError : mg "VolumeError" = some (.ref (He.ga K "VolumeError"))
  f__law_list : ∃ fd, FunD K "_law_list" "_law_list" (defArgs s__law_list) (defBody s__law_list) (defScope s__law_list) ([] : List V) [] (He.fAd K ("_law_list", none)) fd
  g__law_list : mg "_law_list" = some (.ref (He.ga K "_law_list"))
  n_bool : mg "bool" = none
  f__law_path : ∃ fd, FunD K "_law_path" "_law_path" (defArgs s__law_path) (defBody s__law_path) (defScope s__law_path) ([] : List V) [] (He.fAd K ("_law_path", none)) fd
  g__law_path : mg "_law_path" = some (.ref (He.ga K "_law_path"))
  f__law_mixed : ∃ fd, FunD K "_law_mixed" "_law_mixed" (defArgs s__law_mixed) (defBody s__law_mixed) (defScope s__law_mixed) ([] : List V) [] (He.fAd K ("_law_mixed", none)) fd
  g__law_mixed : mg "_law_mixed" = some (.ref (He.ga K "_law_mixed"))
  f__law_cell : ∃ fd, FunD K "_law_cell" "_law_cell" (defArgs s__law_cell) (defBody s__law_cell) (defScope s__law_cell) ([] : List V) [] (He.fAd K ("_law_cell", none)) fd
  g__law_cell : mg "_law_cell" = some (.ref (He.ga K "_law_cell"))
  f__law_check : ∃ fd, FunD K "_law_check" "_law_check" (defArgs s__law_check) (defBody s__law_check) (defScope s__law_check) ([] : List V) [] (He.fAd K ("_law_check", none)) fd
  g__law_check : mg "_law_check" = some (.ref (He.ga K "_law_check"))
  n_sum : mg "sum" = none
  f__law_take : ∃ fd, FunD K "_law_take" "_law_take" (defArgs s__law_take) (defBody s__law_take) (defScope s__law_take) ([] : List V) [] (He.fAd K ("_law_take", none)) fd
  g__law_take : mg "_law_take" = some (.ref (He.ga K "_law_take"))
  f__law_pieces : ∃ fd, FunD K "_law_pieces" "_law_pieces" (defArgs s__law_pieces) (defBody s__law_pieces) (defScope s__law_pieces) ([] : List V) [] (He.fAd K ("_law_pieces", none)) fd
  g__law_pieces : mg "_law_pieces" = some (.ref (He.ga K "_law_pieces"))
  f__law_size : ∃ fd, FunD K "_law_size" "_law_size" (defArgs s__law_size) (defBody s__law_size) (defScope s__law_size) ([] : List V) [] (He.fAd K ("_law_size", none)) fd
  g__law_size : mg "_law_size" = some (.ref (He.ga K "_law_size"))
  f__law_records : ∃ fd, FunD K "_law_records" "_law_records" (defArgs s__law_records) (defBody s__law_records) (defScope s__law_records) ([] : List V) [] (He.fAd K ("_law_records", none)) fd
  g__law_records : mg "_law_records" = some (.ref (He.ga K "_law_records"))
  n_int : mg "int" = none
  f__law_stands : ∃ fd, FunD K "_law_stands" "_law_stands" (defArgs s__law_stands) (defBody s__law_stands) (defScope s__law_stands) ([] : List V) [] (He.fAd K ("_law_stands", none)) fd
  g__law_stands : mg "_law_stands" = some (.ref (He.ga K "_law_stands"))
  f__law_new_name : ∃ fd, FunD K "_law_new_name" "_law_new_name" (defArgs s__law_new_name) (defBody s__law_new_name) (defScope s__law_new_name) ([] : List V) [] (He.fAd K ("_law_new_name", none)) fd
  g__law_new_name : mg "_law_new_name" = some (.ref (He.ga K "_law_new_name"))
  f__law_slots : ∃ fd, FunD K "_law_slots" "_law_slots" (defArgs s__law_slots) (defBody s__law_slots) (defScope s__law_slots) ([] : List V) [] (He.fAd K ("_law_slots", none)) fd
  g__law_slots : mg "_law_slots" = some (.ref (He.ga K "_law_slots"))
  f__law_kinds : ∃ fd, FunD K "_law_kinds" "_law_kinds" (defArgs s__law_kinds) (defBody s__law_kinds) (defScope s__law_kinds) ([] : List V) [] (He.fAd K ("_law_kinds", none)) fd
  g__law_kinds : mg "_law_kinds" = some (.ref (He.ga K "_law_kinds"))
  f__law_sound : ∃ fd, FunD K "_law_sound" "_law_sound" (defArgs s__law_sound) (defBody s__law_sound) (defScope s__law_sound) ([] : List V) [] (He.fAd K ("_law_sound", none)) fd
  g__law_sound : mg "_law_sound" = some (.ref (He.ga K "_law_sound"))
  n_zip : mg "zip" = none
  na_Layout_data : NoAttr K (He.ga K "Layout") "data"
  f__law_layout : ∃ fd, FunD K "_law_layout" "_law_layout" (defArgs s__law_layout) (defBody s__law_layout) (defScope s__law_layout) ([] : List V) [] (He.fAd K ("_law_layout", none)) fd
  g__law_layout : mg "_law_layout" = some (.ref (He.ga K "_law_layout"))
  f_Layout___init__ : ∃ fd, FunD K "__init__" "Layout.__init__" (defArgs s_Layout___init__) (defBody s_Layout___init__) (defScope s_Layout___init__) ([] : List V) [] (He.fAd K ("Layout", some "__init__")) fd
  gc_Layout : mg "Layout" = some (.ref (He.ga K "Layout"))
  mk_Layout : Mk K (He.ga K "Layout") (He.ma K (He.ga K "Layout") "__init__")
  f_law : ∃ fd, FunD K "law" "law" (defArgs s_law) (defBody s_law) (defScope s_law) ([] : List V) [] (He.fAd K ("law", none)) fd
  g_law : mg "law" = some (.ref (He.ga K "law"))
  xc_NoPath : ExcCB K (He.ga K "NoPath") = true
  em_NoPath_VolumeError : PySem.W.exmOne K (.ref (He.ga K "NoPath")) (.ref (He.ga K "VolumeError")) = some true
  kx_NoPath_ValueError : PySem.W.kitOne K (.ref (He.ga K "NoPath")) (.type "ValueError") = some true
  kx_NoPath_Full : PySem.W.kitOne K (.ref (He.ga K "NoPath")) (.ref (He.ga K "Full")) = some false
  kx_NoPath_TooFar : PySem.W.kitOne K (.ref (He.ga K "NoPath")) (.ref (He.ga K "TooFar")) = some false
  kx_NoPath_NotFolder : PySem.W.kitOne K (.ref (He.ga K "NoPath")) (.ref (He.ga K "NotFolder")) = some false
  kx_NoPath_NotFile : PySem.W.kitOne K (.ref (He.ga K "NoPath")) (.ref (He.ga K "NotFile")) = some false
  kx_NoPath_NoPath : PySem.W.kitOne K (.ref (He.ga K "NoPath")) (.ref (He.ga K "NoPath")) = some true
  kx_NoPath_BadNumber : PySem.W.kitOne K (.ref (He.ga K "NoPath")) (.ref (He.ga K "BadNumber")) = some false
  xc_NotFolder : ExcCB K (He.ga K "NotFolder") = true
  em_NotFolder_VolumeError : PySem.W.exmOne K (.ref (He.ga K "NotFolder")) (.ref (He.ga K "VolumeError")) = some true
  kx_NotFolder_ValueError : PySem.W.kitOne K (.ref (He.ga K "NotFolder")) (.type "ValueError") = some true
  kx_NotFolder_Full : PySem.W.kitOne K (.ref (He.ga K "NotFolder")) (.ref (He.ga K "Full")) = some false
  kx_NotFolder_TooFar : PySem.W.kitOne K (.ref (He.ga K "NotFolder")) (.ref (He.ga K "TooFar")) = some false
  kx_NotFolder_NotFolder : PySem.W.kitOne K (.ref (He.ga K "NotFolder")) (.ref (He.ga K "NotFolder")) = some true
  kx_NotFolder_NotFile : PySem.W.kitOne K (.ref (He.ga K "NotFolder")) (.ref (He.ga K "NotFile")) = some false
  kx_NotFolder_NoPath : PySem.W.kitOne K (.ref (He.ga K "NotFolder")) (.ref (He.ga K "NoPath")) = some false
  kx_NotFolder_BadNumber : PySem.W.kitOne K (.ref (He.ga K "NotFolder")) (.ref (He.ga K "BadNumber")) = some false
namespace Hd
def d_slot_at : He.DefD := ⟨("slot_at", none), "slot_at", "slot_at", defArgs s_slot_at, defBody s_slot_at, defScope s_slot_at, ([] : List He.Dv), []⟩
def d_Layout_names_at : He.DefD := ⟨("Layout", some "names_at"), "names_at", "Layout.names_at", defArgs s_Layout_names_at, defBody s_Layout_names_at, defScope s_Layout_names_at, ([] : List He.Dv), []⟩
def d_slot : He.DefD := ⟨("slot", none), "slot", "slot", defArgs s_slot, defBody s_slot, defScope s_slot, ([] : List He.Dv), []⟩
def d_used_slots : He.DefD := ⟨("used_slots", none), "used_slots", "used_slots", defArgs s_used_slots, defBody s_used_slots, defScope s_used_slots, ([] : List He.Dv), []⟩
def d_names_in : He.DefD := ⟨("names_in", none), "names_in", "names_in", defArgs s_names_in, defBody s_names_in, defScope s_names_in, ([] : List He.Dv), []⟩
def d_is_folder : He.DefD := ⟨("is_folder", none), "is_folder", "is_folder", defArgs s_is_folder, defBody s_is_folder, defScope s_is_folder, ([] : List He.Dv), []⟩
def d_Layout_record_at : He.DefD := ⟨("Layout", some "record_at"), "record_at", "Layout.record_at", defArgs s_Layout_record_at, defBody s_Layout_record_at, defScope s_Layout_record_at, ([] : List He.Dv), []⟩
def d_slot_of : He.DefD := ⟨("slot_of", none), "slot_of", "slot_of", defArgs s_slot_of, defBody s_slot_of, defScope s_slot_of, ([] : List He.Dv), []⟩
def d_step_down : He.DefD := ⟨("step_down", none), "step_down", "step_down", defArgs s_step_down, defBody s_step_down, defScope s_step_down, ([] : List He.Dv), []⟩
def d_found_records : He.DefD := ⟨("found_records", none), "found_records", "found_records", defArgs s_found_records, defBody s_found_records, defScope s_found_records, ([] : List He.Dv), []⟩
def d_find_path : He.DefD := ⟨("find_path", none), "find_path", "find_path", defArgs s_find_path, defBody s_find_path, defScope s_find_path, ([] : List He.Dv), []⟩
def d_listed : He.DefD := ⟨("listed", none), "listed", "listed", defArgs s_listed, defBody s_listed, defScope s_listed, ([] : List He.Dv), []⟩
def d__law_refusal : He.DefD := ⟨("_law_refusal", none), "_law_refusal", "_law_refusal", defArgs s__law_refusal, defBody s__law_refusal, defScope s__law_refusal, ([] : List He.Dv), []⟩
def d__law_refused : He.DefD := ⟨("_law_refused", none), "_law_refused", "_law_refused", defArgs s__law_refused, defBody s__law_refused, defScope s__law_refused, ([] : List He.Dv), []⟩
def d__law_list : He.DefD := ⟨("_law_list", none), "_law_list", "_law_list", defArgs s__law_list, defBody s__law_list, defScope s__law_list, ([] : List He.Dv), []⟩
def d__law_path : He.DefD := ⟨("_law_path", none), "_law_path", "_law_path", defArgs s__law_path, defBody s__law_path, defScope s__law_path, ([] : List He.Dv), []⟩
def d__law_mixed : He.DefD := ⟨("_law_mixed", none), "_law_mixed", "_law_mixed", defArgs s__law_mixed, defBody s__law_mixed, defScope s__law_mixed, ([] : List He.Dv), []⟩
def d__law_cell : He.DefD := ⟨("_law_cell", none), "_law_cell", "_law_cell", defArgs s__law_cell, defBody s__law_cell, defScope s__law_cell, ([] : List He.Dv), []⟩
def d__law_check : He.DefD := ⟨("_law_check", none), "_law_check", "_law_check", defArgs s__law_check, defBody s__law_check, defScope s__law_check, ([] : List He.Dv), []⟩
def d__law_take : He.DefD := ⟨("_law_take", none), "_law_take", "_law_take", defArgs s__law_take, defBody s__law_take, defScope s__law_take, ([] : List He.Dv), []⟩
def d__law_pieces : He.DefD := ⟨("_law_pieces", none), "_law_pieces", "_law_pieces", defArgs s__law_pieces, defBody s__law_pieces, defScope s__law_pieces, ([] : List He.Dv), []⟩
def d__law_size : He.DefD := ⟨("_law_size", none), "_law_size", "_law_size", defArgs s__law_size, defBody s__law_size, defScope s__law_size, ([] : List He.Dv), []⟩
def d__law_records : He.DefD := ⟨("_law_records", none), "_law_records", "_law_records", defArgs s__law_records, defBody s__law_records, defScope s__law_records, ([] : List He.Dv), []⟩
def d__law_stands : He.DefD := ⟨("_law_stands", none), "_law_stands", "_law_stands", defArgs s__law_stands, defBody s__law_stands, defScope s__law_stands, ([] : List He.Dv), []⟩
def d__law_new_name : He.DefD := ⟨("_law_new_name", none), "_law_new_name", "_law_new_name", defArgs s__law_new_name, defBody s__law_new_name, defScope s__law_new_name, ([] : List He.Dv), []⟩
def d__law_slots : He.DefD := ⟨("_law_slots", none), "_law_slots", "_law_slots", defArgs s__law_slots, defBody s__law_slots, defScope s__law_slots, ([] : List He.Dv), []⟩
def d__law_kinds : He.DefD := ⟨("_law_kinds", none), "_law_kinds", "_law_kinds", defArgs s__law_kinds, defBody s__law_kinds, defScope s__law_kinds, ([] : List He.Dv), []⟩
def d__law_sound : He.DefD := ⟨("_law_sound", none), "_law_sound", "_law_sound", defArgs s__law_sound, defBody s__law_sound, defScope s__law_sound, ([] : List He.Dv), []⟩
def d__law_layout : He.DefD := ⟨("_law_layout", none), "_law_layout", "_law_layout", defArgs s__law_layout, defBody s__law_layout, defScope s__law_layout, ([] : List He.Dv), []⟩
def d_Layout___init__ : He.DefD := ⟨("Layout", some "__init__"), "__init__", "Layout.__init__", defArgs s_Layout___init__, defBody s_Layout___init__, defScope s_Layout___init__, ([] : List He.Dv), []⟩
def d_law : He.DefD := ⟨("law", none), "law", "law", defArgs s_law, defBody s_law, defScope s_law, ([] : List He.Dv), []⟩
def fn : List He.DefD := [d_slot_at, d_Layout_names_at, d_slot, d_used_slots, d_names_in, d_is_folder, d_Layout_record_at, d_slot_of, d_step_down, d_found_records, d_find_path, d_listed, d__law_refusal, d__law_refused, d__law_list, d__law_path, d__law_mixed, d__law_cell, d__law_check, d__law_take, d__law_pieces, d__law_size, d__law_records, d__law_stands, d__law_new_name, d__law_slots, d__law_kinds, d__law_sound, d__law_layout, d_Layout___init__, d_law]
def fa : List He.Fa := [.int "RECORDS" (10), .cls "Layout", .noat "Layout" "files", .glo "slot_at", .free "divmod", .int "WIDTH" (4), .meth "Layout" "names_at", .glo "slot", .free "tuple", .glo "used_slots", .free "range", .noat "Layout" "slots", .glo "names_in", .free "sorted", .glo "is_folder", .meth "Layout" "record_at", .glo "slot_of", .glo "step_down", .glo "NoPath", .glo "found_records", .glo "find_path", .free "len", .free "list", .glo "listed", .glo "NotFolder", .glo "_law_refusal", .free "isinstance", .free "ValueError", .glo "Full", .glo "TooFar", .glo "NotFile", .glo "BadNumber", .glo "_law_refused", .glo "VolumeError", .glo "_law_list", .free "bool", .glo "_law_path", .glo "_law_mixed", .glo "_law_cell", .glo "_law_check", .free "sum", .glo "_law_take", .glo "_law_pieces", .glo "_law_size", .glo "_law_records", .free "int", .glo "_law_stands", .glo "_law_new_name", .glo "_law_slots", .glo "_law_kinds", .glo "_law_sound", .free "zip", .noat "Layout" "data", .glo "_law_layout", .glo "Layout", .mkr "Layout", .glo "law"]
abbrev R : PySem.W.OpenRow := PySem.W.OpenLaw.row PySem.Challenge.rw_volumemend_k63_folders_listed
def tf : List He.Defn := [("_law_slots", none), ("_law_sound", none)]
def tabsOk (K : PySem.W.Frag) : Bool := decide ((tf.map fun p => (He.cT K p).2).Nodup)
def ex (K : PySem.W.Frag) : Bool := ExcB K (He.ga K "NoPath") && (ExcB K (He.ga K "NotFolder") && (ExcCB K (He.ga K "NoPath") && (decide (PySem.W.exmOne K (.ref (He.ga K "NoPath")) (.ref (He.ga K "VolumeError")) = some true) && (decide (PySem.W.kitOne K (.ref (He.ga K "NoPath")) (.type "ValueError") = some true) && (decide (PySem.W.kitOne K (.ref (He.ga K "NoPath")) (.ref (He.ga K "Full")) = some false) && (decide (PySem.W.kitOne K (.ref (He.ga K "NoPath")) (.ref (He.ga K "TooFar")) = some false) && (decide (PySem.W.kitOne K (.ref (He.ga K "NoPath")) (.ref (He.ga K "NotFolder")) = some false) && (decide (PySem.W.kitOne K (.ref (He.ga K "NoPath")) (.ref (He.ga K "NotFile")) = some false) && (decide (PySem.W.kitOne K (.ref (He.ga K "NoPath")) (.ref (He.ga K "NoPath")) = some true) && (decide (PySem.W.kitOne K (.ref (He.ga K "NoPath")) (.ref (He.ga K "BadNumber")) = some false) && (ExcCB K (He.ga K "NotFolder") && (decide (PySem.W.exmOne K (.ref (He.ga K "NotFolder")) (.ref (He.ga K "VolumeError")) = some true) && (decide (PySem.W.kitOne K (.ref (He.ga K "NotFolder")) (.type "ValueError") = some true) && (decide (PySem.W.kitOne K (.ref (He.ga K "NotFolder")) (.ref (He.ga K "Full")) = some false) && (decide (PySem.W.kitOne K (.ref (He.ga K "NotFolder")) (.ref (He.ga K "TooFar")) = some false) && (decide (PySem.W.kitOne K (.ref (He.ga K "NotFolder")) (.ref (He.ga K "NotFolder")) = some true) && (decide (PySem.W.kitOne K (.ref (He.ga K "NotFolder")) (.ref (He.ga K "NotFile")) = some false) && (decide (PySem.W.kitOne K (.ref (He.ga K "NotFolder")) (.ref (He.ga K "NoPath")) = some false) && (decide (PySem.W.kitOne K (.ref (He.ga K "NotFolder")) (.ref (He.ga K "BadNumber")) = some false) && (tabsOk K))))))))))))))))))))
abbrev hk : PySem.W.Hook := He.hookX 6 fa fn [] tf ex
def ob (s : PySem.W.SharedT) : He.AlX := He.obsX 6 fa fn [] tf ex (HandSHeadRun.getT s)
theorem ob_eq (s : PySem.W.SharedT) : ob s = hk.obs s.abs := He.obsX_eq (HandSHeadRun.getT_eq s)
def loose : List Str := (["_wall", "VolumeError", "NoLayout", "BadNumber", "NoPath", "NotFolder", "NotFile", "TooFar", "Full", "WIDTH", "slot_at", "slot", "used_slots", "slot_of", "names_in", "RECORDS", "Layout", "is_folder", "found_records", "step_down"] : List Str) ++ (["find_path", "listed", "_law_cell", "_law_mixed", "_law_layout", "_law_kinds", "_law_stands", "_law_new_name", "_law_slots", "_law_check", "_law_take", "_law_pieces", "_law_size", "_law_records", "_law_sound", "_law_path", "_law_refusal", "_law_refused", "_law_list"] : List Str)
set_option maxHeartbeats 0 in
theorem run (w : World) : HandSHeadRun.RunEq R (PySem.W.view R.prog [44]) hk ob 20000 loose w := by
  intro os
  kernel_rfl
end Hd
section
variable {P : Program} {w : World} {K : PySem.W.Frag} {mg : Str → Option Value} {base : Heap}
theorem ok_Layout_names_at (T : Txt K mg) {f : Addr} (FF : ∃ fd, FunD K "names_at" "Layout.names_at" (defArgs s_Layout_names_at) (defBody s_Layout_names_at) (defScope s_Layout_names_at) ([] : List V) [] f fd) : OkM P w K mg base 1 f ["self", "number"] (sp_Layout_names_at K) := by
  obtain ⟨fd, F⟩ := FF
  refine ⟨fd, fn_ok2 F sc_Layout_names_at (len2 rfl) (fun cdv A outer s H E hr => have hu := hr.units; ⟨_, ((lss_one (ls_ret (lop (ko_add K) (lop (ko_add K) (lglobI rfl T.i_RECORDS) (kfld K (lv 0))) (lv 1))))), fun vs L Q EL σ h hσ => ?_⟩), F.bindsN (fun _ _ _ _ _ _ us hl => match us, hl with | [_, _], _ => rfl), F.kp⟩
  obtain ⟨x0, x1, rfl, h⟩ := h
  have hσ : ([some x0, some x1] : St) = σ := hσ
  subst hσ
  clear hσ hu hr F
  have t_cl_Layout := T.cl_Layout
  have t_na_Layout_files := T.na_Layout_files
  have t_na_Layout_slots := T.na_Layout_slots
  have t_na_Layout_data := T.na_Layout_data
  obtain ⟨p, dx, F, E, B, m, rfl, rfl, hm, h⟩ := h
  walk_at "w"
  exact Wk.go h
theorem ok_slot_at (T : Txt K mg) (G_Layout_names_at : OkM P w K mg base 1 (He.ma K (He.ga K "Layout") "names_at") ["self", "number"] (sp_Layout_names_at K)) : OkF P w K mg base 2 "slot_at" ["layout", "s"] (sp_slot_at K) := by
  obtain ⟨fd, F⟩ := T.f_slot_at
  refine ⟨T.g_slot_at, fd, fn_ok2 F sc_slot_at (len2 rfl) (fun cdv A outer s H E hr => have hu := hr.units; ⟨_, ((lss_cons (ls_asg (lcallB lk_divmod (by rfl) T.n_divmod (by decide +kernel) (la_cons (lv 1) (la_cons lint la_nil))) (kg_tup K (n := 2) rfl (lgs_cons (lg_name 2 sc_slot_at.nd) (lgs_cons (lg_name 3 sc_slot_at.nd) lgs_nil))))
      (lss_one (ls_ret (ltup (la_cons (lmethO T.cl_Layout T.me_Layout_names_at G_Layout_names_at (hr.mono (by decide)) (lv 0) (la_cons (lv 2) la_nil)) (la_cons (lop lo_mul (lv 3) (lglobI rfl T.i_WIDTH)) la_nil))))))), fun vs L Q EL σ h hσ => ?_⟩), F.bindsN (fun _ _ _ _ _ _ us hl => match us, hl with | [_, _], _ => rfl), F.kp⟩
  obtain ⟨x0, x1, rfl, h⟩ := h
  have hσ : ([some x0, some x1, none, none] : St) = σ := hσ
  subst hσ
  clear hσ hu hr F
  clear G_Layout_names_at
  obtain ⟨p, dx, F, E, B, s, rfl, rfl, hm, h⟩ := h
  walk_at "w"
  exact Wk.by_ (by walk_at "lic") (h _)
theorem ok_slot (T : Txt K mg) (G_slot_at : OkF P w K mg base 2 "slot_at" ["layout", "s"] (sp_slot_at K)) : OkF P w K mg base 3 "slot" ["layout", "volume", "s"] (sp_slot K) := by
  obtain ⟨fd, F⟩ := T.f_slot
  refine ⟨T.g_slot, fd, fn_ok2 F sc_slot (len3 rfl) (fun cdv A outer s H E hr => have hu := hr.units; ⟨_, ((lss_cons (ls_asg (lcallO G_slot_at (hr.mono (by decide)) rfl (la_cons (lv 0) (la_cons (lv 2) la_nil))) (kg_tup K (n := 2) rfl (lgs_cons (lg_name 3 sc_slot.nd) (lgs_cons (lg_name 4 sc_slot.nd) lgs_nil))))
      (lss_one (ls_ret (lcallTy (kk_tuple K) (by rfl) T.n_tuple (by decide +kernel) (la_cons (lslice (ksl_ok K) (lix (kx_ix K hu) (lv 1) (lv 3) (fun _ _ => rfl)) (lo_some (lv 4)) (lo_some (lop (ko_add K) (lv 4) (lglobI rfl T.i_WIDTH)))) la_nil)))))), fun vs L Q EL σ h hσ => ?_⟩), F.bindsN (fun _ _ _ _ _ _ us hl => match us, hl with | [_, _, _], _ => rfl), F.kp⟩
  obtain ⟨x0, x1, x2, rfl, h⟩ := h
  have hσ : ([some x0, some x1, some x2, none, none] : St) = σ := hσ
  subst hσ
  clear hσ hu hr F
  clear G_slot_at
  obtain ⟨p, dx, F, E, B, s, q, bs, rows, rfl, rfl, rfl, hm, hv, hl, h0, h1, h⟩ := h
  walk_at "w"
  exact Wk.by_ (by walk_at "lic") (h _)
theorem ok_used_slots (T : Txt K mg) (G_slot : OkF P w K mg base 3 "slot" ["layout", "volume", "s"] (sp_slot K)) : OkF P w K mg base 4 "used_slots" ["layout", "volume"] (sp_used_slots K) := by
  obtain ⟨fd, F⟩ := T.f_used_slots
  refine ⟨T.g_used_slots, fd, fn_ok2 F sc_used_slots (len2 rfl) (fun cdv A outer s H E hr => have hu := hr.units; ⟨_, ((lss_cons (ls_set 2 sc_used_slots.nd (llst la_nil))
      (lss_cons (ls_for PassesOwn.never rfl (li_range1 rfl T.n_range (la_cons (lop lo_mul lint (kfld K (lv 0))) la_nil)) (lg_name 3 sc_used_slots.nd) (lss_cons (ls_asg (lcallO G_slot (hr.mono (by decide)) rfl (la_cons (lv 0) (la_cons (lv 1) (la_cons (lv 3) la_nil)))) (kg_tup K (n := 4) rfl (lgs_cons (lg_name 4 sc_used_slots.nd) (lgs_cons (lg_name 5 sc_used_slots.nd) (lgs_cons (lg_name 6 sc_used_slots.nd) (lgs_cons (lg_name 7 sc_used_slots.nd) lgs_nil))))))
      (lss_one (ls_if (lt_cmp (ko_eq K hu) (lv 4) lint (nomark _)) (lss_one (ls_expr (kbm K PySem.F.plainAttrs_list PySem.F.slot_list_append PySem.F.type_list_append lm_append (lv 2) (la_cons (ltup (la_cons (lv 3) (la_cons (lv 5) (la_cons (lv 6) (la_cons (lv 7) la_nil))))) la_nil)))) lss_nil))))
      (lss_one (ls_ret (lv 2)))))), fun vs L Q EL σ h hσ => ?_⟩), F.bindsN (fun _ _ _ _ _ _ us hl => match us, hl with | [_, _], _ => rfl), F.kp⟩
  obtain ⟨x0, x1, rfl, h⟩ := h
  have hσ : ([some x0, some x1, none, none, none, none, none, none] : St) = σ := hσ
  subst hσ
  clear hσ hu hr F
  clear G_slot
  have t_cl_Layout := T.cl_Layout
  have t_na_Layout_files := T.na_Layout_files
  have t_na_Layout_slots := T.na_Layout_slots
  have t_na_Layout_data := T.na_Layout_data
  obtain ⟨q, dx, F, E, B, p, as, rows, rfl, rfl, hb, hm, hv, hl, hn, h8, h⟩ := h
  have hb' := hb
  unfold inB at hb'
  walk_at "w"
  rename_i D
  refine' fr_5 (k0 := 3) (k1 := 4) (k2 := 5) (k3 := 6) (k4 := 7) (fun i L' => ∃ c, LdT c D (accM (ust F rows) i) ∧ L' = c :: L) ?i0 ?is ?id
  case i0 => exact Wk.go ⟨_, LdT.nil, rfl⟩
  case is =>
    rintro i a0 a1 a2 a3 a4 L' hi ⟨c, hc, rfl⟩
    have hz := accM_len (g := ust F rows) (fun s => ust_len F rows s) i
    have e := accM_succ (ust F rows) i
    rw [show ust F rows i = if slG F rows i 0 = 1 then [[(i : Int), slG F rows i 1, slG F rows i 2, slG F rows i 3]] else [] from rfl] at e
    walk_at "sl"
    walk_at "w"
    all_goals walk_at "g1"
    all_goals first
      | (rw [if_pos (by assumption)] at e; exact Wk.by_ (by walk_at "lic") ⟨rfl, _, LdT.to (by assumption) e, rfl⟩)
      | (rw [if_neg (by assumption), List.append_nil] at e; exact Wk.by_ (L' := c :: L) (by walk_at "lic") ⟨rfl, c, LdT.to hc e, rfl⟩)
  rintro a0 a1 a2 a3 a4 L' ⟨c, hc, rfl⟩
  walk_at "sl"
  walk_at "w"
  walk_at "g1"
  exact Wk.go (h _ _ hc)
theorem ok_names_in (T : Txt K mg) (G_used_slots : OkF P w K mg base 4 "used_slots" ["layout", "volume"] (sp_used_slots K)) : OkF P w K mg base 5 "names_in" ["layout", "volume", "folder"] (sp_names_in K) := by
  obtain ⟨fd, F⟩ := T.f_names_in
  refine ⟨T.g_names_in, fd, fn_ok2 F sc_names_in (len3 rfl) (fun cdv A outer s H E hr => have hu := hr.units; ⟨_, ((lss_one (ls_ret (lcallB lk_sortedP (by rfl) T.n_sorted (by decide +kernel) (la_cons (llc (vs := [3, 4, 5, 6]) rfl sc_names_in.nd (ki_list K (lcallO G_used_slots (hr.mono (by decide)) rfl (la_cons (lv 0) (la_cons (lv 1) la_nil)))) (blkOk_by (own := [("s", 3), ("where", 4), ("word", 5), ("file", 6)]) (N := ["layout", "volume", "folder", "s", "where", "word", "file"]) (sc := defScope s_names_in) (by decide +kernel)) (fun _ _ _ _ _ => (kg_tup K (n := 4) rfl (lgs_cons (lg_name 3 sc_names_in.nd) (lgs_cons (lg_name 4 sc_names_in.nd) (lgs_cons (lg_name 5 sc_names_in.nd) (lgs_cons (lg_name 6 sc_names_in.nd) lgs_nil)))))) (fun _ _ _ _ _ => (lts_one (lt_cmp (ko_eq K hu) (lv 4) (lv 2) (nomark _)))) (fun _ _ _ _ _ => (ltup (la_cons (lv 5) (la_cons (lv 6) la_nil))))) la_nil))))), fun vs L Q EL σ h hσ => ?_⟩), F.bindsN (fun _ _ _ _ _ _ us hl => match us, hl with | [_, _, _], _ => rfl), F.kp⟩
  obtain ⟨x0, x1, x2, rfl, h⟩ := h
  have hσ : ([some x0, some x1, some x2, none, none, none, none] : St) = σ := hσ
  subst hσ
  clear hσ hu hr F
  clear G_used_slots
  obtain ⟨q, dx, F, E, B, p, as, rows, f, rfl, rfl, rfl, hb, hm, hv, hl, hn, h8, h⟩ := h
  have hb' := hb
  unfold inB at hb'
  walk_at "w"
  rename_i UL cu hcu xs hxs hall
  have hul := usedM_len (F := F) (E := E) (R := rows)
  have hxl : xs.length = (usedM F E rows).length := by rw [hall.len, List.length_map]
  refine' a_telL (fun i => ((((usedM F E rows).take i).filter fun u => decide (u.getD 1 0 = f)).map fun u => [u.getD 2 0, u.getD 3 0]).map dT) ?g1 rfl rfl ?g3 ?g4
  case g1 => exact IsL.at_ (At.mem (by simp) hxs)
  case g3 =>
    intro i z acc C Dl hi hacl htl
    obtain ⟨r, t, hr, rfl, m⟩ := hall.tup hi
    have hr4 := usedM_4 _ (List.mem_of_getElem? hr)
    obtain ⟨n0, n1, n2, n3, rfl⟩ := list4' hr4
    have hu0 : At ([(Dl, HO.lst acc)] :: C :: cu :: L) t (.tup [.int n0, .int n1, .int n2, .int n3]) := At.mem (by simp) m
    have hz16 : acc.length < 1000000 := by
      rw [hacl, List.length_map, List.length_map]
      have := List.length_filter_le (fun u => decide (u.getD 1 0 = f)) ((usedM F E rows).take i)
      rw [List.length_take] at this
      omega
    walk_at "w"
    · rename_i hnf q9
      refine s_lcyT (r := [n2, n3]) (by walk_at "iv") .hd LicS.refl htl hz16 ?_
      rw [List.take_succ, hr, List.filter_append, List.map_append, List.map_append]
      simp [hnf]
    · rename_i hnf
      refine s_lcnD LicS.refl htl ?_
      rw [List.take_succ, hr, List.filter_append, List.map_append, List.map_append]
      simp [hnf]
  intro D2 c2 hc2
  have hc3 : LdD c2 D2 (((((usedM F E rows).take xs.length).filter fun u => decide (u.getD 1 0 = f)).map fun u => [u.getD 2 0, u.getD 3 0]).map dT) := hc2
  rw [hxl, List.take_length] at hc3
  have hc4 : LdT c2 D2 (((usedM F E rows).filter fun u => decide (u.getD 1 0 = f)).map fun u => [u.getD 2 0, u.getD 3 0]) := hc3
  walk_at "w"
  refine s_sortedP hc4 (fun r hr => by obtain ⟨u, _, rfl⟩ := List.mem_map.mp hr; rfl) .hd (fun q d us h1 h2 h3 => ?_)
  walk_at "g1"
  exact Wk.by_ (by walk_at "lic") (h _ _ _ h1 h2 h3)
theorem ok_Layout_record_at (T : Txt K mg) {f : Addr} (FF : ∃ fd, FunD K "record_at" "Layout.record_at" (defArgs s_Layout_record_at) (defBody s_Layout_record_at) (defScope s_Layout_record_at) ([] : List V) [] f fd) : OkM P w K mg base 1 f ["self", "number"] (sp_Layout_record_at K) := by
  obtain ⟨fd, F⟩ := FF
  refine ⟨fd, fn_ok2 F sc_Layout_record_at (len2 rfl) (fun cdv A outer s H E hr => have hu := hr.units; ⟨_, ((lss_one (ls_ret (lop (ko_add K) (lglobI rfl T.i_RECORDS) (lv 1))))), fun vs L Q EL σ h hσ => ?_⟩), F.bindsN (fun _ _ _ _ _ _ us hl => match us, hl with | [_, _], _ => rfl), F.kp⟩
  obtain ⟨x0, x1, rfl, h⟩ := h
  have hσ : ([some x0, some x1] : St) = σ := hσ
  subst hσ
  clear hσ hu hr F
  obtain ⟨m, rfl, h⟩ := h
  walk_at "w"
  exact Wk.go h
theorem ok_is_folder (T : Txt K mg) (G_Layout_record_at : OkM P w K mg base 1 (He.ma K (He.ga K "Layout") "record_at") ["self", "number"] (sp_Layout_record_at K)) : OkF P w K mg base 2 "is_folder" ["layout", "volume", "number"] (sp_is_folder K) := by
  obtain ⟨fd, F⟩ := T.f_is_folder
  refine ⟨T.g_is_folder, fd, fn_ok2 F sc_is_folder (len3 rfl) (fun cdv A outer s H E hr => have hu := hr.units; ⟨_, ((lss_one (ls_ret (lor (lcmp (ko_eq K hu) (lv 2) lint (nomark _)) (lone (lcmp (ko_eq K hu) (lix (kx_ix K hu) (lix (kx_ix K hu) (lv 1) (lmethO T.cl_Layout T.me_Layout_record_at G_Layout_record_at (hr.mono (by decide)) (lv 0) (la_cons (lv 2) la_nil)) (fun _ _ => rfl)) lint (fun _ _ => rfl)) lint (nomark _))))))), fun vs L Q EL σ h hσ => ?_⟩), F.bindsN (fun _ _ _ _ _ _ us hl => match us, hl with | [_, _, _], _ => rfl), F.kp⟩
  obtain ⟨x0, x1, x2, rfl, h⟩ := h
  have hσ : ([some x0, some x1, some x2] : St) = σ := hσ
  subst hσ
  clear hσ hu hr F
  clear G_Layout_record_at
  obtain ⟨q, dx, F, E, B, p, as, rows, f, kds, rk, ts, rfl, rfl, rfl, hb, hm, hv, hl, hD, hf, h⟩ := h
  have hb' := hb
  unfold inB at hb'
  have hn := hD.len
  have h8 := hD.e8
  have hk := hD.kind0 hf
  have hr := rowAt_len h8 (j := 10 + f) (by omega) (by omega)
  have ht := hD.ko.top
  walk_at "w"
  all_goals walk_at "g1"
  · rename_i h0
    rw [h0, ht] at h
    exact Wk.go h
  · rw [hk]
    exact Wk.go h
theorem ok_slot_of (T : Txt K mg) (G_used_slots : OkF P w K mg base 4 "used_slots" ["layout", "volume"] (sp_used_slots K)) : OkF P w K mg base 5 "slot_of" ["layout", "volume", "folder", "name"] (sp_slot_of K) := by
  obtain ⟨fd, F⟩ := T.f_slot_of
  refine ⟨T.g_slot_of, fd, fn_ok2 F sc_slot_of (len4 rfl) (fun cdv A outer s H E hr => have hu := hr.units; ⟨_, ((lss_cons (ls_for PassesOwn.never rfl (ki_list K (lcallO G_used_slots (hr.mono (by decide)) rfl (la_cons (lv 0) (la_cons (lv 1) la_nil)))) (kg_tup K (n := 4) rfl (lgs_cons (lg_name 4 sc_slot_of.nd) (lgs_cons (lg_name 5 sc_slot_of.nd) (lgs_cons (lg_name 6 sc_slot_of.nd) (lgs_cons (lg_name 7 sc_slot_of.nd) lgs_nil))))) (lss_one (ls_if (LW.pt (lw_and (lt_cmp (ko_eq K hu) (lv 5) (lv 2) (nomark _)) (lw_and1 (lt_cmp (ko_eq K hu) (lv 6) (lv 3) (nomark _))))) (lss_one (ls_ret (lv 4))) lss_nil)))
      (lss_one (ls_ret lnon)))), fun vs L Q EL σ h hσ => ?_⟩), F.bindsN (fun _ _ _ _ _ _ us hl => match us, hl with | [_, _, _, _], _ => rfl), F.kp⟩
  obtain ⟨x0, x1, x2, x3, rfl, h⟩ := h
  have hσ : ([some x0, some x1, some x2, some x3, none, none, none, none] : St) = σ := hσ
  subst hσ
  clear hσ hu hr F
  clear G_used_slots
  obtain ⟨q, dx, F, E, B, p, as, rows, f, x, rfl, rfl, rfl, rfl, hb, hm, hv, hl, hn, h8, h⟩ := h
  have hb' := hb
  unfold inB at hb'
  walk_at "w"
  rename_i UL cu hcu xs hxs hall
  refine' fq_4 (k0 := 4) (k1 := 5) (k2 := 6) (k3 := 7) (fun i L' => L' = cu :: L ∧ ∀ r ∈ (usedM F E rows).take i, ¬ (r.getD 1 0 = f ∧ r.getD 2 0 = x)) hall ?i0 ?iG ?is ?id
  case i0 => exact Wk.go ⟨rfl, by simp⟩
  case iG => rintro i L' ⟨rfl, _⟩; exact IsL.at_ (At.hd hxs)
  case is =>
    rintro i r t a0 a1 a2 a3 L' hi m ⟨rfl, hno⟩
    have hr4 := usedM_4 _ (List.mem_of_getElem? hi)
    obtain ⟨n0, n1, n2, n3, rfl⟩ := list4' hr4
    have hu0 : At (cu :: L) t (.tup [.int n0, .int n1, .int n2, .int n3]) := At.mem (by simp) m
    have hnx : ¬ (n1 = f ∧ n2 = x) → ∀ r ∈ (usedM F E rows).take (i + 1), ¬ (r.getD 1 0 = f ∧ r.getD 2 0 = x) := fun hn r hr => by
      rw [List.take_succ, hi] at hr
      rcases List.mem_append.mp hr with hr | hr
      · exact hno r hr
      · rw [Option.toList_some, List.mem_singleton] at hr
        subst hr
        exact hn
    walk_at "sl"
    walk_at "w"
    · walk_at "g1"
      rw [sofM_some hi ⟨by assumption, by assumption⟩ hno] at h
      exact Wk.by_ (by walk_at "lic") h
    all_goals walk_at "g1"
    all_goals exact Wk.go ⟨rfl, rfl, hnx (by omega)⟩
  rintro a0 a1 a2 a3 L' ⟨rfl, hno⟩
  rw [List.take_length] at hno
  walk_at "sl"
  walk_at "w"
  rw [sofM_none hno] at h
  walk_at "g1"
  exact Wk.by_ (by walk_at "lic") h
theorem ok_step_down (T : Txt K mg) (G_slot : OkF P w K mg base 3 "slot" ["layout", "volume", "s"] (sp_slot K)) (G_slot_of : OkF P w K mg base 5 "slot_of" ["layout", "volume", "folder", "name"] (sp_slot_of K)) (G_is_folder : OkF P w K mg base 2 "is_folder" ["layout", "volume", "number"] (sp_is_folder K)) : OkFX P w K mg base 6 "step_down" ["layout", "volume", "number", "name"] ([] : List V) (sp_step_down K) := by
  obtain ⟨fd, F⟩ := T.f_step_down
  refine ⟨T.g_step_down, fd, fn_okX F sc_step_down (len4X rfl) (fun cdv A outer s H E hr => have hu := hr.units; have tk := takes_ofD (E := E) rfl rfl rfl rfl; ⟨_, ((lss_cons (ls_if (LT.nox (lt_not (kt_truth K (lcallO G_is_folder (hr.mono (by decide)) rfl (la_cons (lv 0) (la_cons (lv 1) (la_cons (lv 2) la_nil))))))) (lss_one (ls_raise tk T.xB_NoPath T.gc_NoPath rfl)) lss_nil)
      (lss_cons (LS.nox (ls_set 4 sc_step_down.nd (lcallO G_slot_of (hr.mono (by decide)) rfl (la_cons (lv 0) (la_cons (lv 1) (la_cons (lv 2) (la_cons (lv 3) la_nil)))))))
      (lss_cons (ls_if (LT.nox (lt_cmp lo_is (lv 4) lnon (nomark _))) (lss_one (ls_raise tk T.xB_NoPath T.gc_NoPath rfl)) lss_nil)
      (lss_one (LS.nox (ls_ret (lix (kx_ix K hu) (lcallO G_slot (hr.mono (by decide)) rfl (la_cons (lv 0) (la_cons (lv 1) (la_cons (lv 4) la_nil)))) lint (fun _ _ => rfl))))))))), fun vs L Q EL σ hE h hσ => ?_⟩), bindsX0 (F.bindsN (fun _ _ _ _ _ _ us hl => match us, hl with | [_, _, _, _], _ => rfl)), F.kp⟩
  obtain ⟨x0, x1, x2, x3, rfl, h⟩ := h
  have hσ : ([some x0, some x1, some x2, some x3, none] : St) = σ := hσ
  subst hσ
  clear hσ hu hr F
  clear G_slot G_slot_of G_is_folder
  obtain ⟨q, dx, F, E, B, p, as, rows, f, x, kds, rk, ts, rfl, rfl, rfl, rfl, hb, hm, hv, hl, hD, hf, h⟩ := h
  have hb' := hb
  unfold inB at hb'
  have hn := hD.len
  have h8 := hD.e8
  have hs := hD.slot_of f x
  walk_at "w"
  · rename_i h2 h3
    refine hE _ _ _ _ (h.2 ?_)
    unfold stepM
    rw [if_pos h2]
    rcases hs with ⟨_, z⟩ | ⟨s, g, z, _⟩
    · exact z
    · rw [h3] at z; cases z
  · rename_i h2 h3
    rcases hs with ⟨z, _⟩ | ⟨s, g, z, hs1, hg, hs2⟩
    · exact absurd z h3
    have e : stepM kds ts f x = some g := by
      unfold stepM
      rw [if_pos h2]
      exact hg
    rw [z]
    change Wk (fun L1 => sp_slot K [V.ref q, V.ref p, V.int s] L1 _ noX) L
    walk_at "w"
    rw [hs2]
    exact Wk.by_ (by walk_at "lic") (h.1 g e)
  · rename_i h2
    refine hE _ _ _ _ (h.2 ?_)
    unfold stepM
    rw [if_neg h2]
theorem ok_found_records (T : Txt K mg) (G_Layout_record_at : OkM P w K mg base 1 (He.ma K (He.ga K "Layout") "record_at") ["self", "number"] (sp_Layout_record_at K)) : OkF P w K mg base 2 "found_records" ["layout", "volume"] (sp_found_records K) := by
  obtain ⟨fd, F⟩ := T.f_found_records
  refine ⟨T.g_found_records, fd, fn_ok2 F sc_found_records (len2 rfl) (fun cdv A outer s H E hr => have hu := hr.units; ⟨_, ((lss_cons (ls_set 2 sc_found_records.nd (llst la_nil))
      (lss_cons (ls_for PassesOwn.never rfl (li_range2 rfl T.n_range (la_cons lint (la_cons (kfld K (lv 0)) la_nil))) (lg_name 3 sc_found_records.nd) (lss_cons (ls_set 4 sc_found_records.nd (lix (kx_ix K hu) (lv 1) (lmethO T.cl_Layout T.me_Layout_record_at G_Layout_record_at (hr.mono (by decide)) (lv 0) (la_cons (lv 3) la_nil)) (fun _ _ => rfl)))
      (lss_one (ls_if (LW.pt (lw_and (lt_cmp (ko_in K hu) (lix (kx_ix K hu) (lv 4) lint (fun _ _ => rfl)) (ltup (la_cons lint (la_cons lint la_nil))) (by rfl)) (lw_and1 (lt_cmp (ko_eq K hu) (lix (kx_ix K hu) (lv 4) lint (fun _ _ => rfl)) lint (nomark _))))) (lss_one (ls_expr (kbm K PySem.F.plainAttrs_list PySem.F.slot_list_append PySem.F.type_list_append lm_append (lv 2) (la_cons (lv 3) la_nil)))) lss_nil))))
      (lss_one (ls_ret (lv 2)))))), fun vs L Q EL σ h hσ => ?_⟩), F.bindsN (fun _ _ _ _ _ _ us hl => match us, hl with | [_, _], _ => rfl), F.kp⟩
  obtain ⟨x0, x1, rfl, h⟩ := h
  have hσ : ([some x0, some x1, none, none, none] : St) = σ := hσ
  subst hσ
  clear hσ hu hr F
  clear G_Layout_record_at
  have t_cl_Layout := T.cl_Layout
  have t_na_Layout_files := T.na_Layout_files
  have t_na_Layout_slots := T.na_Layout_slots
  have t_na_Layout_data := T.na_Layout_data
  obtain ⟨q, dx, F, E, B, p, as, rows, kds, rk, ts, rfl, rfl, hb, hm, hv, hl, hD, h⟩ := h
  have hb' := hb
  unfold inB at hb'
  have hn := hD.len
  have h8 := hD.e8
  walk_at "w"
  rename_i D
  refine' frn_2 (k0 := 3) (k1 := 4) (fun i L' => L' = [(D, HO.lst (((rngL 1 i).filter (fndM F kds ts)).map V.int))] :: L) ?h0 ?hs ?hd
  case h0 => exact Wk.go rfl
  case hs =>
    rintro i a0 a1 L' hi rfl
    have hk := hD.kind0 (f := 1 + (i : Int)) (by omega)
    have hr := rowAt_len h8 (j := 10 + (1 + (i : Int))) (by omega) (by omega)
    have hnm := (hD.recs (1 + (i : Int)) (by omega) (by omega)).names (by omega)
    have hkv := hD.ko.v (1 + (i : Int))
    have hle : ((rngL 1 i).filter (fndM F kds ts)).length ≤ i := Nat.le_trans (List.length_filter_le _ _) (by rw [rngL_len]; exact Nat.le_refl _)
    have e : (rngL 1 (i + 1)).filter (fndM F kds ts) = (rngL 1 i).filter (fndM F kds ts) ++ (if fndM F kds ts (1 + (i : Int)) = true then [1 + (i : Int)] else []) := by
      rw [rngL_succ, List.filter_append]
      cases hf : fndM F kds ts (1 + (i : Int)) <;> simp [hf]
    have yes : 0 < kd kds (1 + (i : Int)) → (rowAt rows (10 + (1 + (i : Int)))).getD 3 0 = 1 → fndM F kds ts (1 + (i : Int)) = true := fun h1 h2 => by
      rw [(hnm h1).2] at h2
      refine decide_eq_true ⟨by omega, h1, ?_⟩
      by_cases z : cntM ts (1 + (i : Int)) = 0
      · exact z
      · rw [if_neg z] at h2; cases h2
    have no : ¬ (0 < kd kds (1 + (i : Int)) ∧ (rowAt rows (10 + (1 + (i : Int)))).getD 3 0 = 1) → ¬ fndM F kds ts (1 + (i : Int)) = true := fun h1 h2 => by
      obtain ⟨_, h3, h4⟩ := of_decide_eq_true h2
      refine h1 ⟨h3, ?_⟩
      rw [(hnm h3).2, if_pos h4]
    walk_at "sl"
    walk_at "w"
    all_goals walk_at "g1"
    · rename_i T hin h3
      have hkp : 0 < kd kds (1 + (i : Int)) := by
        rw [hk] at hin
        simp at hin
        omega
      rw [if_pos (yes hkp h3)] at e
      refine Wk.by_ (L' := [(D, HO.lst (((rngL 1 (i + 1)).filter (fndM F kds ts)).map V.int))] :: L) ?_ ⟨rfl, rfl⟩
      rw [e, List.map_append]
      walk_at "lic"
    · rename_i T hin h3
      rw [if_neg (no fun z => h3 z.2), List.append_nil] at e
      refine Wk.by_ (L' := [(D, HO.lst (((rngL 1 (i + 1)).filter (fndM F kds ts)).map V.int))] :: L) ?_ ⟨rfl, rfl⟩
      rw [e]
      walk_at "lic"
    · rename_i T hin
      rw [hk] at hin
      have hk0 : ¬ 0 < kd kds (1 + (i : Int)) := by
        simp at hin
        omega
      rw [if_neg (no fun z => hk0 z.1), List.append_nil] at e
      refine Wk.by_ (L' := [(D, HO.lst (((rngL 1 (i + 1)).filter (fndM F kds ts)).map V.int))] :: L) ?_ ⟨rfl, rfl⟩
      rw [e]
      walk_at "lic"
  rintro a0 a1 L' rfl
  walk_at "sl"
  walk_at "w"
  walk_at "g1"
  exact Wk.go (h _)
theorem ok_find_path (T : Txt K mg) (G_step_down : OkFX P w K mg base 6 "step_down" ["layout", "volume", "number", "name"] ([] : List V) (sp_step_down K)) (G_found_records : OkF P w K mg base 2 "found_records" ["layout", "volume"] (sp_found_records K)) : OkFX P w K mg base 7 "find_path" ["layout", "volume", "path"] ([] : List V) (sp_find_path K) := by
  obtain ⟨fd, F⟩ := T.f_find_path
  refine ⟨T.g_find_path, fd, fn_okX F sc_find_path (len3X rfl) (fun cdv A outer s H E hr => have hu := hr.units; have tk := takes_ofD (E := E) rfl rfl rfl rfl; ⟨_, ((lss_cons (LS.nox (ls_set 3 sc_find_path.nd lint))
      (lss_cons (LS.nox (ls_set 4 sc_find_path.nd (lcallTy (kk_list K) (by rfl) T.n_list (by decide +kernel) (la_cons (lv 2) la_nil))))
      (lss_cons (ls_if (LT.nox (lt_cmp (ko_eq K hu) (lslice (ksl_ok K) (lv 4) lo_none (lo_some lint)) (llst (la_cons lint la_nil)) (nomark _))) (lss_cons (ls_if (LT.nox (LW.pt (lw_or (lt_cmp (ko_eq K hu) (lcallB (kk_len K) (by rfl) T.n_len (by decide +kernel) (la_cons (lv 4) la_nil)) lint (nomark _)) (lw_or1 (lt_cmp (ko_notIn K hu) (lix (kx_ix K hu) (lv 4) lint (fun _ _ => rfl)) (lcallO G_found_records (hr.mono (by decide)) rfl (la_cons (lv 0) (la_cons (lv 1) la_nil))) (by rfl)))))) (lss_one (ls_raise tk T.xB_NoPath T.gc_NoPath rfl)) lss_nil)
      (lss_cons (LS.nox (ls_set 3 sc_find_path.nd (lix (kx_ix K hu) (lv 4) lint (fun _ _ => rfl))))
      (lss_one (LS.nox (ls_set 4 sc_find_path.nd (lslice (ksl_ok K) (lv 4) (lo_some lint) lo_none)))))) lss_nil)
      (lss_cons (ls_for (passes_of rfl) rfl (ki_list K (lv 4)) (lg_name 5 sc_find_path.nd) (lss_one (ls_set 3 sc_find_path.nd (lcallOX (dl := ([] : List V)) tk G_step_down 0 (by decide) rfl (hr.mono (by decide)) rfl (la_cons (lv 0) (la_cons (lv 1) (la_cons (lv 3) (la_cons (lv 5) la_nil))))))))
      (lss_one (LS.nox (ls_ret (lv 3))))))))), fun vs L Q EL σ hE h hσ => ?_⟩), bindsX0 (F.bindsN (fun _ _ _ _ _ _ us hl => match us, hl with | [_, _, _], _ => rfl)), F.kp⟩
  obtain ⟨x0, x1, x2, rfl, h⟩ := h
  have hσ : ([some x0, some x1, some x2, none, none, none] : St) = σ := hσ
  subst hσ
  clear hσ hu hr F
  clear G_step_down G_found_records
  obtain ⟨q, dx, F, E, B, p, as, rows, w, ns, kds, rk, ts, rfl, rfl, rfl, hb, hm, hv, hl, hD, hw, hz, h⟩ := h
  have hb' := hb
  unfold inB at hb'
  have hn := hD.len
  have h8 := hD.e8
  have hcut : cutG ns none (some 1) = ns.take 1 := cutG_hi (by decide)
  walk_at "w"
  · rename_i h1 h2
    refine WL.by_ (by walk_at "lic") (hE _ _ _ _ (h.2 ?_))
    rw [hcut] at h1
    have e : ns = [0] := by
      rw [← h1, List.take_of_length_le (by omega)]
    rw [e, path_one]
  · rename_i h1 h2
    rw [hcut] at h1
    have hl2 : 2 ≤ ns.length := by
      cases ns with
      | nil => cases h1
      | cons a b => cases b with
        | nil => exact absurd rfl h2
        | cons c d => simp
    have hcl : cutG ns (some 2) none = ns.drop 2 := cutG_lo (by decide)
    walk_at "w"
    rotate_left
    · rename_i D h3
      refine WL.by_ (by walk_at "lic") (hE _ _ _ _ (h.2 ?_))
      unfold pathM
      rw [if_pos h1, if_neg]
      intro z
      refine h3 (List.mem_filter.mpr ⟨?_, z⟩)
      obtain ⟨z1, _⟩ := of_decide_eq_true z
      exact mem_rngL.mpr (by omega)
    rename_i D h3 NM
    rw [hcl]
    obtain ⟨h4, h5⟩ := List.mem_filter.mp h3
    have h6 := mem_rngL.mp h4
    obtain ⟨h7, h8', _⟩ := of_decide_eq_true h5
    have hpm : walkM kds ts (ns.getD 1 0) (ns.drop 2) = pathM F kds ts ns := by
      unfold pathM
      rw [if_pos h1, if_pos h5]
    refine f_ints (ns := ns.drop 2) (fun i σ' L' => ∃ g a5, σ' = [some (.ref q), some (.ref p), some (.ref w), some (.int g), some (.ref NM), a5] ∧ ((0 ≤ g ∧ g < F) ∧ 0 < kd kds g) ∧ walkM kds ts g ((ns.drop 2).drop i) = pathM F kds ts ns ∧ L' = [(NM, HO.lst ((ns.drop 2).map V.int))] :: L) IntsV.map ?_ ?_ ?_ ?_
    · exact Wk.by_ (L' := [(NM, HO.lst ((ns.drop 2).map V.int))] :: L) (by walk_at "lic") ⟨_, _, rfl, ⟨by omega, h8'⟩, hpm, rfl⟩
    · rintro i σ' L' ⟨g, a5, _, _, _, rfl⟩; walk_at "isl"
    · rintro i x σ' L' hi ⟨g, a5, rfl, hg, hp, rfl⟩
      have hdr : (ns.drop 2).drop i = x :: (ns.drop 2).drop (i + 1) := by
        rw [List.drop_eq_getElem_cons (List.getElem?_eq_some_iff.mp hi).1]
        congr 1
        exact (List.getElem?_eq_some_iff.mp hi).2
      rw [hdr] at hp
      walk_at "sl"
      walk_at "w"
      refine ⟨fun g2 hg2 => ?_, fun hno => WL.by_ (by walk_at "lic") (hE _ _ _ _ (h.2 ?_))⟩
      · walk_at "w"
        have hw2 : (stepM kds ts g x).bind (fun g => walkM kds ts g ((ns.drop 2).drop (i + 1))) = pathM F kds ts ns := hp
        rw [hg2] at hw2
        exact Wk.go ⟨_, _, rfl, walkM_r hD hg (xs := [x]) (by show (stepM kds ts g x).bind _ = _; rw [hg2]; rfl), hw2, rfl⟩
      · have hw2 : (stepM kds ts g x).bind (fun g => walkM kds ts g ((ns.drop 2).drop (i + 1))) = pathM F kds ts ns := hp
        rw [hno] at hw2
        exact hw2.symm
    rintro σ' L' ⟨g, a5, rfl, _, hp, rfl⟩
    rw [List.drop_length] at hp
    walk_at "sl"
    walk_at "w"
    exact Wk.by_ (by walk_at "lic") (h.1 g hp.symm)
  · rename_i N1 N2 N3 h1
    rw [hcut] at h1
    have hpm : walkM kds ts 0 ns = pathM F kds ts ns := by
      unfold pathM
      rw [if_neg h1]
    refine f_ints (ns := ns) (fun i σ' L' => ∃ g a5, σ' = [some (.ref q), some (.ref p), some (.ref w), some (.int g), some (.ref N1), a5] ∧ ((0 ≤ g ∧ g < F) ∧ 0 < kd kds g) ∧ walkM kds ts g ((ns).drop i) = pathM F kds ts ns ∧ L' = [(N1, HO.lst ((ns).map V.int))] :: L) IntsV.map ?_ ?_ ?_ ?_
    · exact Wk.by_ (L' := [(N1, HO.lst ((ns).map V.int))] :: L) (by walk_at "lic") ⟨_, _, rfl, ⟨by omega, by rw [hD.ko.top]; decide⟩, hpm, rfl⟩
    · rintro i σ' L' ⟨g, a5, _, _, _, rfl⟩; walk_at "isl"
    · rintro i x σ' L' hi ⟨g, a5, rfl, hg, hp, rfl⟩
      have hdr : (ns).drop i = x :: (ns).drop (i + 1) := by
        rw [List.drop_eq_getElem_cons (List.getElem?_eq_some_iff.mp hi).1]
        congr 1
        exact (List.getElem?_eq_some_iff.mp hi).2
      rw [hdr] at hp
      walk_at "sl"
      walk_at "w"
      refine ⟨fun g2 hg2 => ?_, fun hno => WL.by_ (by walk_at "lic") (hE _ _ _ _ (h.2 ?_))⟩
      · walk_at "w"
        have hw2 : (stepM kds ts g x).bind (fun g => walkM kds ts g ((ns).drop (i + 1))) = pathM F kds ts ns := hp
        rw [hg2] at hw2
        exact Wk.go ⟨_, _, rfl, walkM_r hD hg (xs := [x]) (by show (stepM kds ts g x).bind _ = _; rw [hg2]; rfl), hw2, rfl⟩
      · have hw2 : (stepM kds ts g x).bind (fun g => walkM kds ts g ((ns).drop (i + 1))) = pathM F kds ts ns := hp
        rw [hno] at hw2
        exact hw2.symm
    rintro σ' L' ⟨g, a5, rfl, _, hp, rfl⟩
    rw [List.drop_length] at hp
    walk_at "sl"
    walk_at "w"
    exact Wk.by_ (by walk_at "lic") (h.1 g hp.symm)
theorem ok_listed (T : Txt K mg) (G_names_in : OkF P w K mg base 5 "names_in" ["layout", "volume", "folder"] (sp_names_in K)) (G_is_folder : OkF P w K mg base 2 "is_folder" ["layout", "volume", "number"] (sp_is_folder K)) (G_find_path : OkFX P w K mg base 7 "find_path" ["layout", "volume", "path"] ([] : List V) (sp_find_path K)) (G_found_records : OkF P w K mg base 2 "found_records" ["layout", "volume"] (sp_found_records K)) : OkFX P w K mg base 8 "listed" ["layout", "volume", "path"] ([] : List V) (sp_listed K) := by
  obtain ⟨fd, F⟩ := T.f_listed
  refine ⟨T.g_listed, fd, fn_okX F sc_listed (len3X rfl) (fun cdv A outer s H E hr => have hu := hr.units; have tk := takes_ofD (E := E) rfl rfl rfl rfl; ⟨_, ((lss_cons (LS.nox (ls_if (lt_cmp (ko_eq K hu) (lcallTy (kk_list K) (by rfl) T.n_list (by decide +kernel) (la_cons (lv 2) la_nil)) (llst (la_cons lint la_nil)) (nomark _)) (lss_one (ls_ret (lcallO G_found_records (hr.mono (by decide)) rfl (la_cons (lv 0) (la_cons (lv 1) la_nil))))) lss_nil))
      (lss_cons (ls_set 3 sc_listed.nd (lcallOX (dl := ([] : List V)) tk G_find_path 0 (by decide) rfl (hr.mono (by decide)) rfl (la_cons (lv 0) (la_cons (lv 1) (la_cons (lv 2) la_nil)))))
      (lss_cons (ls_if (LT.nox (lt_not (kt_truth K (lcallO G_is_folder (hr.mono (by decide)) rfl (la_cons (lv 0) (la_cons (lv 1) (la_cons (lv 3) la_nil))))))) (lss_one (ls_raise tk T.xB_NotFolder T.gc_NotFolder rfl)) lss_nil)
      (lss_one (LS.nox (ls_ret (llc (vs := [4, 5]) rfl sc_listed.nd (ki_list K (lcallO G_names_in (hr.mono (by decide)) rfl (la_cons (lv 0) (la_cons (lv 1) (la_cons (lv 3) la_nil))))) (blkOk_by (own := [("name", 4), ("file", 5)]) (N := ["layout", "volume", "path", "number", "name", "file"]) (sc := defScope s_listed) (by decide +kernel)) (fun _ _ _ _ _ => (kg_tup K (n := 2) rfl (lgs_cons (lg_name 4 sc_listed.nd) (lgs_cons (lg_name 5 sc_listed.nd) lgs_nil)))) (fun _ _ _ _ _ => lts_nil) (fun _ _ _ _ _ => (lv 4)))))))))), fun vs L Q EL σ hE h hσ => ?_⟩), bindsX0 (F.bindsN (fun _ _ _ _ _ _ us hl => match us, hl with | [_, _, _], _ => rfl)), F.kp⟩
  obtain ⟨x0, x1, x2, rfl, h⟩ := h
  have hσ : ([some x0, some x1, some x2, none, none, none] : St) = σ := hσ
  subst hσ
  clear hσ hu hr F
  clear G_names_in G_is_folder G_find_path G_found_records
  obtain ⟨q, dx, F, E, B, p, as, rows, w, ns, kds, rk, ts, rfl, rfl, rfl, hb, hm, hv, hl, hD, hw, hz, h⟩ := h
  have hb' := hb
  unfold inB at hb'
  have hn := hD.len
  have h8 := hD.e8
  walk_at "w"
  · rename_i e R
    exact Wk.by_ (by walk_at "lic") (Wk.go (h.1 _ _ (.inl ⟨e, rfl⟩)))
  rename_i N1 N2 hne
  refine ⟨fun g hg => ?_, fun hno => WL.by_ (by walk_at "lic") (hE _ _ _ _ (h.2.1 hne hno))⟩
  have hgr := hD.pathR hb hg
  walk_at "w"
  · rename_i hk NR cN us hus hul hld xs hxs hall
    have hul2 := usedM_len (F := F) (E := E) (R := rows)
    have hz3 : us.length ≤ 1000000 := by
      rw [hus.length_eq, List.length_map]
      refine Nat.le_trans (List.length_filter_le _ _) ?_
      omega
    refine' a_intsT (fun r => r.getD 0 0) ?b1 hxs hall rfl hz3 ?bs ?bd
    case b1 => walk_at "mem"
    case bs =>
      intro r t acc Dl hr m hacl
      obtain ⟨u, _, rfl⟩ := List.mem_map.mp (hus.mem_iff.mp hr)
      have hu0 : ∀ {L : Lg}, cN ∈ L → At L t (.tup [.int (u.getD 2 0), .int (u.getD 3 0)]) := fun hm => At.mem hm m
      walk_at "w"
      simp only [List.map_cons, List.map_nil]
      walk_at "w"
    intro Dl
    walk_at "w"
    exact Wk.by_ (by walk_at "lic") (Wk.go (h.1 _ _ (.inr ⟨hne, g, hg, hk, names_perm hD hus, names_fst hul⟩)))
  exact WL.by_ (by walk_at "lic") (hE _ _ _ _ (h.2.2 g hg (by assumption)))
theorem ok__law_refusal (T : Txt K mg) : OkE P w K mg base 1 "_law_refusal" (sp__law_refusal K) := by
  obtain ⟨fd, F⟩ := T.f__law_refusal
  refine ⟨T.g__law_refusal, fn_okE F sc__law_refusal rfl (F.bindsN (fun _ _ _ _ _ _ us hl => match us, hl with | [_], _ => rfl)) (fun cdv A outer s H E a_ oe_ cls_ hr hz_ hf_ => have hu := roomH_units hr; ⟨_, ((lss_cons (ls_set 1 sc__law_refusal.nd (llst la_nil))
      (lss_cons (ls_if (kt_truth K (lcallB (kk_isP K hz_ hf_) (by rfl) T.n_isinstance (by decide +kernel) (la_cons (lv 0) (la_cons (lglob (v := .ref (He.ga _ "BadNumber")) rfl T.gc_BadNumber rfl) la_nil)))) (lss_one (ls_expr (kbm K PySem.F.plainAttrs_list PySem.F.slot_list_append PySem.F.type_list_append lm_append (lv 1) (la_cons lstr la_nil)))) lss_nil)
      (lss_cons (ls_if (kt_truth K (lcallB (kk_isP K hz_ hf_) (by rfl) T.n_isinstance (by decide +kernel) (la_cons (lv 0) (la_cons (lglob (v := .ref (He.ga _ "NoPath")) rfl T.gc_NoPath rfl) la_nil)))) (lss_one (ls_expr (kbm K PySem.F.plainAttrs_list PySem.F.slot_list_append PySem.F.type_list_append lm_append (lv 1) (la_cons lstr la_nil)))) lss_nil)
      (lss_cons (ls_if (kt_truth K (lcallB (kk_isP K hz_ hf_) (by rfl) T.n_isinstance (by decide +kernel) (la_cons (lv 0) (la_cons (lglob (v := .ref (He.ga _ "NotFile")) rfl T.gc_NotFile rfl) la_nil)))) (lss_one (ls_expr (kbm K PySem.F.plainAttrs_list PySem.F.slot_list_append PySem.F.type_list_append lm_append (lv 1) (la_cons lstr la_nil)))) lss_nil)
      (lss_cons (ls_if (kt_truth K (lcallB (kk_isP K hz_ hf_) (by rfl) T.n_isinstance (by decide +kernel) (la_cons (lv 0) (la_cons (lglob (v := .ref (He.ga _ "NotFolder")) rfl T.gc_NotFolder rfl) la_nil)))) (lss_one (ls_expr (kbm K PySem.F.plainAttrs_list PySem.F.slot_list_append PySem.F.type_list_append lm_append (lv 1) (la_cons lstr la_nil)))) lss_nil)
      (lss_cons (ls_if (kt_truth K (lcallB (kk_isP K hz_ hf_) (by rfl) T.n_isinstance (by decide +kernel) (la_cons (lv 0) (la_cons (lglob (v := .ref (He.ga _ "TooFar")) rfl T.gc_TooFar rfl) la_nil)))) (lss_one (ls_expr (kbm K PySem.F.plainAttrs_list PySem.F.slot_list_append PySem.F.type_list_append lm_append (lv 1) (la_cons lstr la_nil)))) lss_nil)
      (lss_cons (ls_if (kt_truth K (lcallB (kk_isP K hz_ hf_) (by rfl) T.n_isinstance (by decide +kernel) (la_cons (lv 0) (la_cons (lglob (v := .ref (He.ga _ "Full")) rfl T.gc_Full rfl) la_nil)))) (lss_one (ls_expr (kbm K PySem.F.plainAttrs_list PySem.F.slot_list_append PySem.F.type_list_append lm_append (lv 1) (la_cons lstr la_nil)))) lss_nil)
      (lss_cons (ls_if (LW.pt (lw_or (lt_cmp (ko_ne K hu) (lcallB (kk_len K) (by rfl) T.n_len (by decide +kernel) (la_cons (lv 1) la_nil)) lint (nomark _)) (lw_or1 (lt_not (kt_truth K (lcallB (kk_isP K hz_ hf_) (by rfl) T.n_isinstance (by decide +kernel) (la_cons (lv 0) (la_cons (lbltn (v := .ty "ValueError") rfl T.n_ValueError (by decide +kernel) rfl) la_nil)))))))) (lss_one (ls_ret lstr)) lss_nil)
      (lss_one (ls_ret (lix (kx_ix K hu) (lv 1) lint (fun _ _ => rfl))))))))))))), fun L Q EL σ h hσ => ?_⟩), F.kp⟩
  obtain ⟨_, hx_, h⟩ := h
  cases hx_
  have hσ : ([some (.ref a_), none] : St) = σ := hσ
  subst hσ
  clear hσ hu hr F
  have t_xc_NoPath := T.xc_NoPath
  have t_em_NoPath_VolumeError := T.em_NoPath_VolumeError
  have t_kx_NoPath_ValueError := T.kx_NoPath_ValueError
  have t_kx_NoPath_Full := T.kx_NoPath_Full
  have t_kx_NoPath_TooFar := T.kx_NoPath_TooFar
  have t_kx_NoPath_NotFolder := T.kx_NoPath_NotFolder
  have t_kx_NoPath_NotFile := T.kx_NoPath_NotFile
  have t_kx_NoPath_NoPath := T.kx_NoPath_NoPath
  have t_kx_NoPath_BadNumber := T.kx_NoPath_BadNumber
  have t_xc_NotFolder := T.xc_NotFolder
  have t_em_NotFolder_VolumeError := T.em_NotFolder_VolumeError
  have t_kx_NotFolder_ValueError := T.kx_NotFolder_ValueError
  have t_kx_NotFolder_Full := T.kx_NotFolder_Full
  have t_kx_NotFolder_TooFar := T.kx_NotFolder_TooFar
  have t_kx_NotFolder_NotFolder := T.kx_NotFolder_NotFolder
  have t_kx_NotFolder_NotFile := T.kx_NotFolder_NotFile
  have t_kx_NotFolder_NoPath := T.kx_NotFolder_NoPath
  have t_kx_NotFolder_BadNumber := T.kx_NotFolder_BadNumber
  rcases h with ⟨hc, h⟩ | ⟨hc, h⟩
  all_goals obtain rfl := hc
  all_goals walk_at "w"
  all_goals first
    | exact Wk.by_ (by walk_at "lic") h
    | exact absurd rfl (by assumption)
theorem ok__law_refused (T : Txt K mg) (G_listed : OkFX P w K mg base 8 "listed" ["layout", "volume", "path"] ([] : List V) (sp_listed K)) (G__law_refusal : OkE P w K mg base 1 "_law_refusal" (sp__law_refusal K)) : OkF P w K mg base 9 "_law_refused" ["_law_layout_here", "_law_volume", "_law_path_here"] (sp__law_refused K) := by
  obtain ⟨fd, F⟩ := T.f__law_refused
  refine ⟨T.g__law_refused, fd, fn_ok2 F sc__law_refused (len3 rfl) (fun cdv A outer s H E hr => have hu := hr.units; ⟨_, ((lss_cons (kls_tryAs K (i := 3) sc__law_refused.nd rfl rfl ⟨rfl, by decide, .inl T.gc_VolumeError⟩ takes0 (fun _ _ _ tk_ hp_ => (lss_one (ls_expr (lcallOX (dl := ([] : List V)) tk_ G_listed 0 (by decide) rfl (hr.mono (by decide)) rfl (la_cons (lv 0) (la_cons (lv 1) (la_cons (lv 2) la_nil))))))) (fun _ _ _ _ _ hz_ hf_ => (lss_one (ls_ret (lcallE hz_ hf_ G__law_refusal (hr.mono (by decide)) rfl (la_cons (lv 3) la_nil))))))
      (lss_one (ls_ret lstr)))), fun vs L Q EL σ h hσ => ?_⟩), F.bindsN (fun _ _ _ _ _ _ us hl => match us, hl with | [_, _, _], _ => rfl), F.kp⟩
  obtain ⟨x0, x1, x2, rfl, h⟩ := h
  have hσ : ([some x0, some x1, some x2, none] : St) = σ := hσ
  subst hσ
  clear hσ hu hr F
  clear G_listed G__law_refusal
  have t_xc_NoPath := T.xc_NoPath
  have t_em_NoPath_VolumeError := T.em_NoPath_VolumeError
  have t_kx_NoPath_ValueError := T.kx_NoPath_ValueError
  have t_kx_NoPath_Full := T.kx_NoPath_Full
  have t_kx_NoPath_TooFar := T.kx_NoPath_TooFar
  have t_kx_NoPath_NotFolder := T.kx_NoPath_NotFolder
  have t_kx_NoPath_NotFile := T.kx_NoPath_NotFile
  have t_kx_NoPath_NoPath := T.kx_NoPath_NoPath
  have t_kx_NoPath_BadNumber := T.kx_NoPath_BadNumber
  have t_xc_NotFolder := T.xc_NotFolder
  have t_em_NotFolder_VolumeError := T.em_NotFolder_VolumeError
  have t_kx_NotFolder_ValueError := T.kx_NotFolder_ValueError
  have t_kx_NotFolder_Full := T.kx_NotFolder_Full
  have t_kx_NotFolder_TooFar := T.kx_NotFolder_TooFar
  have t_kx_NotFolder_NotFolder := T.kx_NotFolder_NotFolder
  have t_kx_NotFolder_NotFile := T.kx_NotFolder_NotFile
  have t_kx_NotFolder_NoPath := T.kx_NotFolder_NoPath
  have t_kx_NotFolder_BadNumber := T.kx_NotFolder_BadNumber
  obtain ⟨q, dx, F, E, B, p, as, rows, w, ns, kds, rk, ts, e, rfl, rfl, rfl, hb, hm, hv, hl, hD, hw, hz, hno, h⟩ := h
  have hb' := hb
  unfold inB at hb'
  have hn := hD.len
  have h8 := hD.e8
  walk_at "w"
  intro W' hW
  walk_at "w"
  rcases hno with ⟨rfl, hn0, hno⟩ | ⟨rfl, f, hno, hk⟩
  · refine ⟨fun ys r hc => ?_, fun _ _ => hW _ _ _ _ ⟨true, by assumption, fun _ a ha => ?_, fun z => nomatch z⟩, fun f hf => by rw [hno] at hf; cases hf⟩
    · rcases hc with ⟨z, _⟩ | ⟨_, f, z, _⟩
      · exact absurd z hn0
      · rw [hno] at z; cases z
    walk_at "sl"
    walk_at "w"
    exact Wk.go (Wk.go h)
  · refine ⟨fun ys r hc => ?_, fun _ z => (by rw [hno] at z; cases z), fun _ _ _ => hW _ _ _ _ ⟨true, by assumption, fun _ a ha => ?_, fun z => nomatch z⟩⟩
    · rcases hc with ⟨z, _⟩ | ⟨_, f', z, z2, _⟩
      · rw [z, path_one] at hno; cases hno
      · obtain rfl : f = f' := Option.some.inj (hno.symm.trans z)
        exact absurd z2 hk
    walk_at "sl"
    walk_at "w"
    exact Wk.go (Wk.go h)
theorem ok__law_list (T : Txt K mg) (G_listed : OkFX P w K mg base 8 "listed" ["layout", "volume", "path"] ([] : List V) (sp_listed K)) : OkF P w K mg base 9 "_law_list" ["_law_layout_here", "_law_volume", "_law_path_here", "_law_due"] (sp__law_list K) := by
  obtain ⟨fd, F⟩ := T.f__law_list
  refine ⟨T.g__law_list, fd, fn_ok2 F sc__law_list (len4 rfl) (fun cdv A outer s H E hr => have hu := hr.units; ⟨_, ((lss_cons (ls_set 4 sc__law_list.nd (lcallOX (dl := ([] : List V)) takes0 G_listed 0 (by decide) rfl (hr.mono (by decide)) rfl (la_cons (lv 0) (la_cons (lv 1) (la_cons (lv 2) la_nil)))))
      (lss_cons (ls_if (LW.pt (lw_or (lt_not (kt_truth K (lcallB (kk_isi K) (by rfl) T.n_isinstance (by decide +kernel) (la_cons (lv 4) (la_cons (lbltn (v := .ty "list") rfl T.n_list (by decide +kernel) rfl) la_nil))))) (lw_or (lt_cmp (ko_ne K hu) (lv 4) (lv 3) (nomark _)) (lw_or1 (lt_cmp (ko_ne K hu) (llc (vs := [5]) rfl sc__law_list.nd (ki_list K (lv 4)) (blkOk_by (own := [("_law_one", 5)]) (N := ["_law_layout_here", "_law_volume", "_law_path_here", "_law_due", "_law_found", "_law_one"]) (sc := defScope s__law_list) (by decide +kernel)) (fun _ _ _ _ _ => (lg_name 5 sc__law_list.nd)) (fun _ _ _ _ _ => (lts_one (kt_truth K (lcallB (kk_isi K) (by rfl) T.n_isinstance (by decide +kernel) (la_cons (lv 5) (la_cons (lbltn (v := .ty "bool") rfl T.n_bool (by decide +kernel) rfl) la_nil)))))) (fun _ _ _ _ _ => (lv 5))) (llst la_nil) (nomark _)))))) (lss_one (ls_ret lbl)) lss_nil)
      (lss_cons (ls_expr (kbm K PySem.F.plainAttrs_list PySem.F.slot_list_append PySem.F.type_list_append lm_append (lv 4) (la_cons lint la_nil)))
      (lss_one (ls_ret (lcmp (ko_eq K hu) (lcallOX (dl := ([] : List V)) takes0 G_listed 0 (by decide) rfl (hr.mono (by decide)) rfl (la_cons (lv 0) (la_cons (lv 1) (la_cons (lv 2) la_nil)))) (lv 3) (nomark _)))))))), fun vs L Q EL σ h hσ => ?_⟩), F.bindsN (fun _ _ _ _ _ _ us hl => match us, hl with | [_, _, _, _], _ => rfl), F.kp⟩
  obtain ⟨x0, x1, x2, x3, rfl, h⟩ := h
  have hσ : ([some x0, some x1, some x2, some x3, none, none] : St) = σ := hσ
  subst hσ
  clear hσ hu hr F
  clear G_listed
  obtain ⟨q, dx, F, E, B, p, as, rows, w, z, ns, ys, kds, rk, ts, rfl, rfl, rfl, rfl, hb, hm, hv, hl, hD, hw, hz, hu, hlc, h⟩ := h
  have hb' := hb
  unfold inB at hb'
  have hn := hD.len
  have h8 := hD.e8
  have htn := hD.tn
  have hyl := hlc.len (by omega) (by omega)
  have hx1 : ¬ ns = [0] → ¬ pathM F kds ts ns = none := fun h0 hno => by
    rcases hlc with ⟨z, _⟩ | ⟨_, f, z, _⟩
    · exact h0 z
    · rw [hno] at z; cases z
  have hx2 : ∀ f, pathM F kds ts ns = some f → kd kds f = 2 := fun f hf => by
    rcases hlc with ⟨z, _⟩ | ⟨_, f', z, z2, _⟩
    · rw [z, path_one] at hf; cases hf
    · obtain rfl : f = f' := Option.some.inj (hf.symm.trans z)
      exact z2
  walk_at "w"
  refine ⟨fun ys' r hc => ?_, fun h0 hno => absurd hno (hx1 h0), fun f hf hk => absurd (hx2 f hf) hk⟩
  obtain rfl := hlc.uniq hc
  walk_at "w"
  refine ⟨fun ys' r2 hc2 => ?_, fun h0 hno => absurd hno (hx1 h0), fun f hf hk => absurd (hx2 f hf) hk⟩
  obtain rfl := hlc.uniq hc2
  walk_at "w"
  refine wk_dec rfl ?_
  exact Wk.by_ (by walk_at "lic") h
theorem ok__law_path (T : Txt K mg) : OkF P w K mg base 1 "_law_path" ["_law_slots_here", "_law_f", "_law_cell_here"] (sp__law_path K) := by
  obtain ⟨fd, F⟩ := T.f__law_path
  refine ⟨T.g__law_path, fd, fn_ok2 F sc__law_path (len3 rfl) (fun cdv A outer s H E hr => have hu := hr.units; ⟨_, ((lss_cons (ls_set 3 sc__law_path.nd (llst la_nil))
      (lss_cons (ls_for PassesOwn.never rfl (li_range1 rfl T.n_range (la_cons lint la_nil)) (lg_name 4 sc__law_path.nd) (lss_cons (ls_setLc (vs := [6]) 5 rfl sc__law_path.nd rfl rfl (sw_true rfl rfl rfl (by decide +kernel)) (ki_list K (lv 0)) (blkOk_by (own := [("_law_one", 6)]) (N := ["_law_slots_here", "_law_f", "_law_cell_here", "_law_names", "_law_turn", "_law_own", "_law_one"]) (sc := defScope s__law_path) (by decide +kernel)) (fun _ _ _ _ _ => (lg_name 6 sc__law_path.nd)) (fun _ _ _ _ _ => (lts_one (lt_cmp (ko_eq K hu) (lix (kx_ix K hu) (lv 6) lint (fun _ _ => rfl)) (lv 1) (nomark _)))) (fun _ _ _ _ _ => (lv 6)))
      (lss_cons (ls_if (lt_cmp (ko_eq K hu) (lv 1) lint (nomark _)) (lss_one (ls_ret (lcallTy (kk_tuple K) (by rfl) T.n_tuple (by decide +kernel) (la_cons (lv 3) la_nil)))) lss_nil)
      (lss_cons (ls_if (lt_cmp (ko_eq K hu) (lv 5) (llst la_nil) (nomark _)) (lss_one (ls_ret (lop (ko_addA K) (ltup (la_cons lint (la_cons (lv 1) la_nil))) (lcallTy (kk_tuple K) (by rfl) T.n_tuple (by decide +kernel) (la_cons (lv 3) la_nil))))) lss_nil)
      (lss_cons (ls_set 6 sc__law_path.nd (lix (kx_ix K hu) (lv 5) (lop lo_mod (lv 2) (lcallB (kk_len K) (by rfl) T.n_len (by decide +kernel) (la_cons (lv 5) la_nil))) (fun _ _ => rfl)))
      (lss_cons (ls_set 3 sc__law_path.nd (lop (ko_addA K) (llst (la_cons (lix (kx_ix K hu) (lv 6) lint (fun _ _ => rfl)) la_nil)) (lv 3)))
      (lss_one (ls_set 1 sc__law_path.nd (lix (kx_ix K hu) (lv 6) lint (fun _ _ => rfl))))))))))
      (lss_one (ls_ret (ltup la_nil)))))), fun vs L Q EL σ h hσ => ?_⟩), F.bindsN (fun _ _ _ _ _ _ us hl => match us, hl with | [_, _, _], _ => rfl), F.kp⟩
  obtain ⟨x0, x1, x2, rfl, h⟩ := h
  have hσ : ([some x0, some x1, some x2, none, none, none, none] : St) = σ := hσ
  subst hσ
  clear hσ hu hr F
  obtain ⟨F, p, d, ts, f, n, kds, rk, rfl, rfl, rfl, hd, hdm, h3, hrk, hz, hf, h⟩ := h
  have h33 := h3.l3
  walk_at "w"
  rename_i NM
  refine f_range0 (fun i σ' L' => ∃ g ms N2 a4 a5 a6, σ' = [some (.ref p), some (.int g), some (.int n), some (.ref N2), a4, a5, a6] ∧ ((0 ≤ g ∧ g < F) ∧ (0 < kd kds f → 0 < kd kds g)) ∧ walkM kds ts g ms = some f ∧ (∀ x ∈ ms, 1 ≤ x) ∧ ms.length = i ∧ rk g + i ≤ 13 ∧ L' = [(N2, HO.lst (ms.map V.int))] :: L) ?_ ?_ ?_
  · exact Wk.go ⟨f, [], _, _, _, _, rfl, ⟨hf, id⟩, rfl, (fun x hx => by cases hx), rfl, hrk f, rfl⟩
  · rintro i σ' L' hi ⟨g, ms, N2, a4, a5, a6, rfl, hg, hw, hms, hml, hrg, rfl⟩
    walk_at "sl"
    walk_at "w"
    rename_i xs hxs hall
    refine' a_filtTT (fun r => decide (r.getD 2 0 = g)) ?g1 hxs hall rfl ?g3 ?g4
    case g1 => walk_at "mem"
    case g3 =>
      intro k r t acc Dl hk2 m hacl
      obtain ⟨n0, n1, n2, rfl⟩ := list3 (h33 r (List.mem_of_getElem? hk2))
      have hu0 : At ([(Dl, HO.lst acc)] :: [(N2, HO.lst (ms.map V.int))] :: L) t (.tup [.int n0, .int n1, .int n2]) := At.mem (by walk_at "mem") m
      walk_at "w"
      all_goals first
        | exact s_lcyTT (decide_eq_true (by assumption)) hacl hk2 m (by omega) (by walk_at "lic")
        | exact s_lcnTT (decide_eq_false (by assumption)) hacl hk2 (by walk_at "lic")
    intro Dl acc hacl
    have hlen : acc.length = (ts.filter fun r => decide (r.getD 2 0 = g)).length := by rw [hacl.len, List.length_map]
    have hal : acc.length ≤ 30 := by
      rw [hlen]
      exact Nat.le_trans (List.length_filter_le _ _) hz
    walk_at "w"
    · rename_i h0 T
      refine Wk.by_ (by walk_at "lic") (Wk.go (Wk.go (h T ms (fun _ => ?_) (by omega))))
      unfold pathM
      rw [if_neg, ← h0]
      · exact hw
      · intro z
        cases ms with
        | nil => cases z
        | cons a b =>
          have := hms a (by simp)
          have z2 : a = 0 := by simpa using z
          omega
    rename_i h0 N3
    refine s_eq_fil (by walk_at "at") (AtA.mem (by walk_at "mem")) hacl (by walk_at "at") ?_
    walk_at "w"
    · rename_i he A Tn
      have hfn : 0 < kd kds f → fndM F kds ts g = true := fun hk => decide_eq_true ⟨by omega, hg.2 hk, by unfold cntM; rw [he]; rfl⟩
      by_cases hm0 : ms = []
      · subst hm0
        refine s_addA_r (xs := [.int 0, .int g]) (IsT.at_ (by walk_at "at")) (IsT.at_ At.hd1) (by simp) (by simp) ?_
        have e : g = f := Option.some.inj hw
        refine Wk.by_ (by walk_at "lic") (Wk.go (Wk.go (h A [0, g] (fun hk => ?_) (by simp))))
        rw [path_fnd, if_pos (hfn hk), e]
      · refine s_addA_t (xs := [.int 0, .int g]) (ys := ms.map V.int) (IsT.at_ (by walk_at "at")) (IsT.at_ (by walk_at "at")) (by simp) (by simpa using hm0) (by simp only [List.length_map, List.length_cons, List.length_nil]; omega) (fun T => ?_)
        refine Wk.by_ (by walk_at "lic") (Wk.go (Wk.go (h T ([0, g] ++ ms) (fun hk => ?_) (by simp only [List.length_append, List.length_cons, List.length_nil]; omega))))
        rw [path_app (by simp) (by simp), path_fnd, if_pos (hfn hk)]
        exact hw
    · rename_i he
      have hpos : 0 < acc.length := by
        rw [hlen]
        exact List.length_pos_iff.mpr he
      have hix : 0 ≤ n % (acc.length : Int) ∧ n % (acc.length : Int) < acc.length := ⟨Int.emod_nonneg _ (by omega), Int.emod_lt_of_pos _ (by omega)⟩
      have hj : (n % (acc.length : Int)).toNat < acc.length := by omega
      obtain ⟨v, hv⟩ : ∃ v, acc[(n % (acc.length : Int)).toNat]? = some v := ⟨_, List.getElem?_eq_getElem hj⟩
      obtain ⟨r, tt, hr, rfl, m⟩ := hacl.tup hv
      have hrm := List.mem_filter.mp (List.mem_of_getElem? hr)
      obtain ⟨a, x, g', rfl, ha, hx, hg', hrk2⟩ := h3.all r hrm.1
      have e0 : g' = g := by simpa using hrm.2
      subst e0
      walk_at "w"
      refine s_ix_l (xs := acc) (v := .ref tt) (IsL.at_ ?_) ?_ ?_
      · walk_at "at"
      · rw [show n % (acc.length : Int) = ((n % (acc.length : Int)).toNat : Int) from by omega]
        exact atI_nat hv
      have hu0 : At ([(N3, HO.lst [])] :: [(Dl, HO.lst acc)] :: [(N2, HO.lst (List.map V.int ms))] :: L) tt (.tup [.int a, .int x, .int g']) := At.mem (by walk_at "mem") m
      walk_at "w"
      refine s_addA_o ?_
      walk_at "w"
      have hst : stepM kds ts a x = some g' := by
        unfold stepM
        rw [if_pos ha.2]
        exact h3.ch hrm.1
      have hw2 : walkM kds ts a (x :: ms) = some f := by
        show (stepM kds ts a x).bind _ = _
        rw [hst]
        exact hw
      refine Wk.by_ (by walk_at "lic") ⟨a, x :: ms, _, _, _, _, rfl, ⟨ha.1, fun _ => by rw [ha.2]; decide⟩, hw2, fun y hy => ?_, by rw [List.length_cons, hml], by omega, rfl⟩
      rcases List.mem_cons.mp hy with e | e
      · rw [e]; exact hx.1
      · exact hms y e
  rintro σ' L' ⟨g, ms, N2, a4, a5, a6, rfl, hg, hw, hms, hml, hrg, rfl⟩
  omega
theorem ok__law_mixed (T : Txt K mg) : OkF P w K mg base 1 "_law_mixed" ["_law_cell_here", "_law_k"] (sp__law_mixed K) := by
  obtain ⟨fd, F⟩ := T.f__law_mixed
  refine ⟨T.g__law_mixed, fd, fn_ok2 F sc__law_mixed (len2 rfl) (fun cdv A outer s H E hr => have hu := hr.units; ⟨_, ((lss_cons (ls_set 2 sc__law_mixed.nd (lop lo_mod (lop lo_mul (lop (ko_add K) (lop (ko_add K) (lv 0) (lop lo_mul lint (lv 1))) lint) lint) lint))
      (lss_one (ls_ret (lop lo_mod (lop lo_mul (lv 2) (lop (ko_add K) (lop lo_div (lv 2) lint) lint)) lint))))), fun vs L Q EL σ h hσ => ?_⟩), F.bindsN (fun _ _ _ _ _ _ us hl => match us, hl with | [_, _], _ => rfl), F.kp⟩
  obtain ⟨x0, x1, rfl, h⟩ := h
  have hσ : ([some x0, some x1, none] : St) = σ := hσ
  subst hσ
  clear hσ hu hr F
  obtain ⟨c, k, rfl, rfl, h⟩ := h
  have hN := mixN_b c k
  unfold mixN at hN
  walk_at "w"
  exact Wk.go h
theorem ok__law_cell (T : Txt K mg) : OkF P w K mg base 1 "_law_cell" ["_law_script", "_law_k"] (sp__law_cell K) := by
  obtain ⟨fd, F⟩ := T.f__law_cell
  refine ⟨T.g__law_cell, fd, fn_ok2 F sc__law_cell (len2 rfl) (fun cdv A outer s H E hr => have hu := hr.units; ⟨_, ((lss_cons (ls_if (lt_cmp lo_lt (lv 1) (lcallB (kk_len K) (by rfl) T.n_len (by decide +kernel) (la_cons (lv 0) la_nil)) (nomark _)) (lss_one (ls_ret (lix (kx_ix K hu) (lv 0) (lv 1) (fun _ _ => rfl)))) lss_nil)
      (lss_one (ls_ret lint)))), fun vs L Q EL σ h hσ => ?_⟩), F.bindsN (fun _ _ _ _ _ _ us hl => match us, hl with | [_, _], _ => rfl), F.kp⟩
  obtain ⟨x0, x1, rfl, h⟩ := h
  have hσ : ([some x0, some x1] : St) = σ := hσ
  subst hσ
  clear hσ hu hr F
  obtain ⟨c, p, ns, k, rfl, rfl, hS, hc, hk, h⟩ := h
  walk_at "w"
  · refine Wk.go (Wk.go ?_)
    have e : cellM ns k = ns.getD k.toNat 0 := if_pos (by assumption)
    rw [← e]
    exact h
  · have e : cellM ns k = 0 := if_neg (by assumption)
    rw [← e]
    exact Wk.go h
theorem ok__law_check (T : Txt K mg) : OkF P w K mg base 1 "_law_check" ["_law_numbers"] (sp__law_check K) := by
  obtain ⟨fd, F⟩ := T.f__law_check
  refine ⟨T.g__law_check, fd, fn_ok2 F sc__law_check (len1 rfl) (fun cdv A outer s H E hr => have hu := hr.units; ⟨_, ((lss_one (ls_ret (lop lo_mod (lcallB (kk_sum K) (by rfl) T.n_sum (by decide +kernel) (la_cons (llc (vs := [1]) rfl sc__law_check.nd (li_range1 rfl T.n_range (la_cons (lcallB (kk_len K) (by rfl) T.n_len (by decide +kernel) (la_cons (lv 0) la_nil)) la_nil)) (blkOk_by (own := [("_law_k", 1)]) (N := ["_law_numbers", "_law_k"]) (sc := defScope s__law_check) (by decide +kernel)) (fun _ _ _ _ _ => (lg_name 1 sc__law_check.nd)) (fun _ _ _ _ _ => lts_nil) (fun _ _ _ _ _ => (lop lo_mul (lop (ko_add K) (lv 1) lint) (lix (kx_ix K hu) (lv 0) (lv 1) (fun _ _ => rfl))))) la_nil)) lint)))), fun vs L Q EL σ h hσ => ?_⟩), F.bindsN (fun _ _ _ _ _ _ us hl => match us, hl with | [_], _ => rfl), F.kp⟩
  obtain ⟨x0, rfl, h⟩ := h
  have hσ : ([some x0, none] : St) = σ := hσ
  subst hσ
  clear hσ hu hr F
  obtain ⟨p, ns, xs, rfl, h1, h2, h3, h⟩ := h
  obtain rfl := h2.eq
  walk_at "w"
  walk_at "g1"
  exact Wk.by_ (by walk_at "lic") (h _)
theorem ok__law_take (T : Txt K mg) (G__law_mixed : OkF P w K mg base 1 "_law_mixed" ["_law_cell_here", "_law_k"] (sp__law_mixed K)) : OkF P w K mg base 2 "_law_take" ["_law_cell_here", "_law_k", "_law_wanted", "_law_free"] (sp__law_take K) := by
  obtain ⟨fd, F⟩ := T.f__law_take
  refine ⟨T.g__law_take, fd, fn_ok2 F sc__law_take (len4 rfl) (fun cdv A outer s H E hr => have hu := hr.units; ⟨_, ((lss_cons (ls_if (LW.pt (lw_and (kt_truth K (lv 2)) (lw_and (lt_cmp (ko_ne K hu) (lv 3) (llst la_nil) (nomark _)) (lw_and1 (lt_cmp lo_gt (lop lo_mod (lcallO G__law_mixed (hr.mono (by decide)) rfl (la_cons (lv 0) (la_cons (lop (ko_add K) lint (lv 1)) la_nil))) lint) lint (nomark _)))))) (lss_one (ls_ret (kbm0 K PySem.F.plainAttrs_list PySem.F.slot_list_pop PySem.F.type_list_pop lm_pop (lv 3)))) lss_nil)
      (lss_one (ls_ret lint)))), fun vs L Q EL σ h hσ => ?_⟩), F.bindsN (fun _ _ _ _ _ _ us hl => match us, hl with | [_, _, _, _], _ => rfl), F.kp⟩
  obtain ⟨x0, x1, x2, x3, rfl, h⟩ := h
  have hσ : ([some x0, some x1, some x2, some x3] : St) = σ := hσ
  subst hσ
  clear hσ hu hr F
  clear G__law_mixed
  obtain ⟨n, k, w, fp, fr, L1, rfl, rfl, rfl, rfl, rfl, hz, h⟩ := h
  walk_at "w"
  all_goals walk_at "g1"
  · exact Wk.by_ (by walk_at "lic") (h 0 _ (.inl ⟨rfl, rfl⟩))
  · rename_i hw S hne hm h9
    refine s_pop_i IntsV.map hne (by walk_at "wr") (fun y hy => ?_)
    have e : fr = fr.dropLast ++ [y] := by
      obtain ⟨gs, hg⟩ := List.getLast?_eq_some_iff.mp hy
      rw [hg]; simp
    walk_at "g1"
    exact Wk.by_ (by walk_at "lic") (h y _ (.inr ⟨hw, e⟩))
  · exact Wk.by_ (by walk_at "lic") (h 0 _ (.inl ⟨rfl, rfl⟩))
  · exact Wk.go (h 0 _ (.inl ⟨rfl, rfl⟩))
theorem ok__law_pieces (T : Txt K mg) (G__law_take : OkF P w K mg base 2 "_law_take" ["_law_cell_here", "_law_k", "_law_wanted", "_law_free"] (sp__law_take K)) : OkF P w K mg base 3 "_law_pieces" ["_law_cell_here", "_law_f", "_law_size_here", "_law_volume", "_law_free"] (sp__law_pieces K) := by
  obtain ⟨fd, F⟩ := T.f__law_pieces
  refine ⟨T.g__law_pieces, fd, fn_ok2 F sc__law_pieces (len5 rfl) (fun cdv A outer s H E hr => have hu := hr.units; ⟨_, ((lss_cons (ls_setLc (vs := [7]) 5 rfl sc__law_pieces.nd rfl rfl (sw_true rfl rfl rfl (by decide +kernel)) (li_range1 rfl T.n_range (la_cons lint la_nil)) (blkOk_by (own := [("_law_k", 7)]) (N := ["_law_cell_here", "_law_f", "_law_size_here", "_law_volume", "_law_free", "_law_found", "_law_more", "_law_k"]) (sc := defScope s__law_pieces) (by decide +kernel)) (fun _ _ _ _ _ => (lg_name 7 sc__law_pieces.nd)) (fun _ _ _ _ _ => lts_nil) (fun _ _ _ _ _ => (lcallO G__law_take (hr.mono (by decide)) rfl (la_cons (lv 0) (la_cons (lop (ko_add K) (lop lo_mul lint (lv 1)) (lv 7)) (la_cons (lcmp lo_lt (lop lo_mul lint (lv 7)) (lv 2) (nomark _)) (la_cons (lv 4) la_nil)))))))
      (lss_cons (ls_set 6 sc__law_pieces.nd (lcallO G__law_take (hr.mono (by decide)) rfl (la_cons (lv 0) (la_cons (lop (ko_add K) (lop lo_mul lint (lv 1)) lint) (la_cons (lcmp lo_gt (lv 2) lint (nomark _)) (la_cons (lv 4) la_nil))))))
      (lss_cons (ls_join (ls_if (lt_cmp (ko_ne K hu) (lv 6) lint (nomark _)) (lss_one (ls_asg (llc (vs := [7]) rfl sc__law_pieces.nd (li_range1 rfl T.n_range (la_cons lint la_nil)) (blkOk_by (own := [("_law_k", 7)]) (N := ["_law_cell_here", "_law_f", "_law_size_here", "_law_volume", "_law_free", "_law_found", "_law_more", "_law_k"]) (sc := defScope s__law_pieces) (by decide +kernel)) (fun _ _ _ _ _ => (lg_name 7 sc__law_pieces.nd)) (fun _ _ _ _ _ => lts_nil) (fun _ _ _ _ _ => (lcallO G__law_take (hr.mono (by decide)) rfl (la_cons (lv 0) (la_cons (lop (ko_add K) (lop (ko_add K) (lop lo_mul lint (lv 1)) lint) (lv 7)) (la_cons (lcmp lo_lt (lop (ko_add K) (lop lo_mul lint (lv 7)) lint) (lv 2) (nomark _)) (la_cons (lv 4) la_nil))))))) (lg_sub (lv 3) (lv 6) (lset_ok hu)))) lss_nil))
      (lss_one (ls_ret (lop (ko_add K) (lv 5) (llst (la_cons (lv 6) la_nil))))))))), fun vs L Q EL σ h hσ => ?_⟩), F.bindsN (fun _ _ _ _ _ _ us hl => match us, hl with | [_, _, _, _, _], _ => rfl), F.kp⟩
  obtain ⟨x0, x1, x2, x3, x4, rfl, h⟩ := h
  have hσ : ([some x0, some x1, some x2, some x3, some x4, none, none, none] : St) = σ := hσ
  subst hσ
  clear hσ hu hr F
  clear G__law_take
  obtain ⟨n, f, x, p, as, rows, fp, fr, lo, hi, L1, rfl, rfl, rfl, rfl, rfl, rfl, hl, h8, hfr, h0, hz, h⟩ := h
  walk_at "w"
  refine' a_takes lo hi fr (volC p as rows :: L1) ?a1 rfl ?a2 ?a3
  case a1 => walk_at "lic"
  case a2 =>
    intro i vs fr' Dl hi hv ht
    have hle := ht.le
    walk_at "w"
    rename_i y fr2 hy
    have ht2 := ht.snoc hfr h0.1 (hy.imp id (fun z => z.2))
    refine s_lcy (by rw [List.length_map, hv]; omega) (L5 := [(fp, HO.lst (fr2.map V.int))] :: volC p as rows :: L1) (by walk_at "lic") ⟨vs ++ [y], fr2, by rw [List.map_append]; rfl, by simp [hv], ht2, rfl⟩
  intro Dl vs fr1 hvl ht1
  have hvl : vs.length = 3 := hvl
  have hle1 := ht1.le
  have hin1 := ht1.in_ hfr
  walk_at "w"
  rename_i y fr2 hy
  have ht2 := ht1.snoc hfr h0.1 (hy.imp id (fun z => z.2))
  have hle2 := ht2.le
  have hin2 := ht2.in_ hfr
  have hyr : y = 0 ∨ (lo ≤ y ∧ y < hi) := by
    rcases hy with ⟨e, _⟩ | ⟨_, e⟩
    · exact .inl e
    · exact .inr (hin1 y (by rw [e]; simp))
  refine' s_joinU (fun L' => ∃ (as' : List Addr) (rows' : List (List Int)) (fr3 ms : List Int), L' = [(fp, HO.lst (fr3.map V.int))] :: [(Dl, HO.lst (vs.map V.int))] :: volC p as' rows' :: L1 ∧ Tk lo hi fr fr3 ((vs ++ [y]) ++ ms) ∧ ((y = 0 ∧ ms = [] ∧ rows' = rows) ∨ ((lo ≤ y ∧ y < hi) ∧ ms.length = 8 ∧ rows' = rows.set y.toNat ms)) ∧ as'.length = rows'.length ∧ ∀ j, 0 ≤ j → j < lo → adrAt as' j = adrAt as j) ?j1 ?j2
  case j1 =>
    walk_at "w"
    · rename_i he
      exact Wk.by_ (L' := [(fp, HO.lst (fr2.map V.int))] :: [(Dl, HO.lst (vs.map V.int))] :: volC p as rows :: L1) (by walk_at "lic") ⟨rfl, as, rows, fr2, [], rfl, by rw [List.append_nil]; exact ht2, .inl ⟨he, rfl, rfl⟩, hl, fun j _ _ => rfl⟩
    · rename_i hne
      have hyr2 := hyr.resolve_left hne
      refine' a_takes lo hi fr2 ([(Dl, HO.lst (vs.map V.int))] :: volC p as rows :: L1) ?b1 rfl ?b2 ?b3
      case b1 => walk_at "lic"
      case b2 =>
        intro i ws fr' D2 hi hv ht
        have hle := ht.le
        walk_at "w"
        rename_i z fr4 hz4
        have ht4 := ht.snoc hin2 h0.1 (hz4.imp id (fun z => z.2))
        refine s_lcy (by rw [List.length_map, hv]; omega) (L5 := [(fp, HO.lst (fr4.map V.int))] :: [(Dl, HO.lst (vs.map V.int))] :: volC p as rows :: L1) (by walk_at "lic") ⟨ws ++ [z], fr4, by rw [List.map_append]; rfl, by simp [hv], ht4, rfl⟩
      intro D2 ws fr5 hwl ht5
      have hwl : ws.length = 8 := hwl
      walk_at "w"
      walk_at "g1"
      exact Wk.by_ (L' := [(fp, HO.lst (fr5.map V.int))] :: [(Dl, HO.lst (vs.map V.int))] :: volC p (as.set y.toNat D2) (rows.set y.toNat ws) :: L1) (by walk_at "lic") ⟨rfl, _, _, fr5, ws, rfl, ht2.app ht5, .inr ⟨hyr2, hwl, rfl⟩, by simp [hl], fun j h1 h2 => by rw [adrAt_set (by omega) h1 (by omega), if_neg (by omega)]⟩
  rintro L' ⟨as', rows', fr3, ms, rfl, ht3, hcase, hl', hadr⟩
  walk_at "w"
  walk_at "g1"
  rename_i r1 r2
  have eg : (vs ++ [y]).getD 3 0 = y := by
    rw [List.getD_eq_getElem?_getD, List.getElem?_append_right (by omega), hvl]
    rfl
  refine Wk.by_ (L' := [(r2, HO.lst ((vs ++ [y]).map V.int))] :: volC p as' rows' :: [(fp, HO.lst (fr3.map V.int))] :: L1) (by walk_at "lic") (h r2 as' rows' fr3 (vs ++ [y]) ms (by simp [hvl]) ht3 (by rw [eg]; exact hcase) hl' hadr)
theorem ok__law_size (T : Txt K mg) (G__law_mixed : OkF P w K mg base 1 "_law_mixed" ["_law_cell_here", "_law_k"] (sp__law_mixed K)) : OkF P w K mg base 2 "_law_size" ["_law_cell_here", "_law_f"] (sp__law_size K) := by
  obtain ⟨fd, F⟩ := T.f__law_size
  refine ⟨T.g__law_size, fd, fn_ok2 F sc__law_size (len2 rfl) (fun cdv A outer s H E hr => have hu := hr.units; ⟨_, ((lss_cons (ls_set 2 sc__law_size.nd (llst (la_cons lint (la_cons lint (la_cons lint (la_cons lint (la_cons lint (la_cons lint la_nil))))))))
      (lss_cons (ls_if (lt_cmp (ko_eq K hu) (lop lo_mod (lcallO G__law_mixed (hr.mono (by decide)) rfl (la_cons (lv 0) (la_cons (lop (ko_add K) lint (lv 1)) la_nil))) lint) lint (nomark _)) (lss_one (ls_ret (lix (kx_ix K hu) (lv 2) (lop lo_mod (lcallO G__law_mixed (hr.mono (by decide)) rfl (la_cons (lv 0) (la_cons (lop (ko_add K) lint (lv 1)) la_nil))) lint) (fun _ _ => rfl)))) lss_nil)
      (lss_one (ls_ret (lop lo_mod (lcallO G__law_mixed (hr.mono (by decide)) rfl (la_cons (lv 0) (la_cons (lop (ko_add K) lint (lv 1)) la_nil))) lint)))))), fun vs L Q EL σ h hσ => ?_⟩), F.bindsN (fun _ _ _ _ _ _ us hl => match us, hl with | [_, _], _ => rfl), F.kp⟩
  obtain ⟨x0, x1, rfl, h⟩ := h
  have hσ : ([some x0, some x1, none] : St) = σ := hσ
  subst hσ
  clear hσ hu hr F
  clear G__law_mixed
  obtain ⟨n, f, rfl, rfl, h⟩ := h
  walk_at "w"
  all_goals walk_at "g1"
  · refine Wk.by_ (by walk_at "lic") (h _ ?_)
    have h1 := Int.emod_nonneg (mixM n (240 + f)) (b := 6) (by decide)
    have h2 := Int.emod_lt_of_pos (mixM n (240 + f)) (b := 6) (by decide)
    generalize mixM n (240 + f) % 6 = z at h1 h2
    have : z = 0 ∨ z = 1 ∨ z = 2 ∨ z = 3 ∨ z = 4 ∨ z = 5 := by omega
    rcases this with rfl | rfl | rfl | rfl | rfl | rfl <;> decide
  · exact Wk.by_ (by walk_at "lic") (h _ (by omega))
theorem ok__law_records (T : Txt K mg) (G__law_pieces : OkF P w K mg base 3 "_law_pieces" ["_law_cell_here", "_law_f", "_law_size_here", "_law_volume", "_law_free"] (sp__law_pieces K)) (G__law_size : OkF P w K mg base 2 "_law_size" ["_law_cell_here", "_law_f"] (sp__law_size K)) : OkF P w K mg base 4 "_law_records" ["_law_cell_here", "_law_kinds_here", "_law_slots_here", "_law_volume", "_law_free"] (sp__law_records K) := by
  obtain ⟨fd, F⟩ := T.f__law_records
  refine ⟨T.g__law_records, fd, fn_ok2 F sc__law_records (len5 rfl) (fun cdv A outer s H E hr => have hu := hr.units; ⟨_, ((lss_one (ls_for PassesOwn.never rfl (li_range1 rfl T.n_range (la_cons (lcallB (kk_len K) (by rfl) T.n_len (by decide +kernel) (la_cons (lv 1) la_nil)) la_nil)) (lg_name 5 sc__law_records.nd) (lss_cons (ls_set 6 sc__law_records.nd (lix (kx_ix K hu) (lv 3) (lop (ko_add K) lint (lv 5)) (fun _ _ => rfl)))
      (lss_cons (ls_set 7 sc__law_records.nd (lcallB (kk_len K) (by rfl) T.n_len (by decide +kernel) (la_cons (llc (vs := [8]) rfl sc__law_records.nd (ki_list K (lv 2)) (blkOk_by (own := [("_law_one", 8)]) (N := ["_law_cell_here", "_law_kinds_here", "_law_slots_here", "_law_volume", "_law_free", "_law_f", "_law_row", "_law_names", "_law_one"]) (sc := defScope s__law_records) (by decide +kernel)) (fun _ _ _ _ _ => (lg_name 8 sc__law_records.nd)) (fun _ _ _ _ _ => (lts_one (lt_cmp (ko_eq K hu) (lix (kx_ix K hu) (lv 8) lint (fun _ _ => rfl)) (lv 5) (nomark _)))) (fun _ _ _ _ _ => (lv 8))) la_nil)))
      (lss_cons (ls_asg (lix (kx_ix K hu) (lv 1) (lv 5) (fun _ _ => rfl)) (lg_sub (lv 6) lint (lset_ok hu)))
      (lss_cons (ls_if (LW.pt (lw_and (lt_cmp lo_gt (lv 5) lint (nomark _)) (lw_and1 (lt_cmp lo_gt (lix (kx_ix K hu) (lv 1) (lv 5) (fun _ _ => rfl)) lint (nomark _))))) (lss_cons (ls_asg (lv 7) (lg_sub (lv 6) lint (lset_ok hu)))
      (lss_one (ls_asg (lcallTy lk_int (by rfl) T.n_int (by decide +kernel) (la_cons (lcmp (ko_eq K hu) (lv 7) lint (nomark _)) la_nil)) (lg_sub (lv 6) lint (lset_ok hu))))) lss_nil)
      (lss_one (ls_if (LW.pt (lw_and (lt_cmp lo_gt (lv 5) lint (nomark _)) (lw_and1 (lt_cmp (ko_eq K hu) (lix (kx_ix K hu) (lv 1) (lv 5) (fun _ _ => rfl)) lint (nomark _))))) (lss_cons (ls_asg (lcallO G__law_size (hr.mono (by decide)) rfl (la_cons (lv 0) (la_cons (lv 5) la_nil))) (lg_sub (lv 6) lint (lset_ok hu)))
      (lss_one (ls_asg (lcallO G__law_pieces (hr.mono (by decide)) rfl (la_cons (lv 0) (la_cons (lv 5) (la_cons (lix (kx_ix K hu) (lv 6) lint (fun _ _ => rfl)) (la_cons (lv 3) (la_cons (lv 4) la_nil)))))) (lg_setsl (lv 6) (lo_some lint) lo_none)))) lss_nil))))))))), fun vs L Q EL σ h hσ => ?_⟩), F.bindsN (fun _ _ _ _ _ _ us hl => match us, hl with | [_, _, _, _, _], _ => rfl), F.kp⟩
  obtain ⟨x0, x1, x2, x3, x4, rfl, h⟩ := h
  have hσ : ([some x0, some x1, some x2, some x3, some x4, none, none, none, none] : St) = σ := hσ
  subst hσ
  clear hσ hu hr F
  clear G__law_pieces G__law_size
  obtain ⟨n, kp, sp, p, as, rows, fp, fr, lo, hi, F, kds, d, ts, rk, L1, rfl, rfl, rfl, rfl, rfl, rfl, hk, hF, hkp, hd, hdm, h3, hts, hl, h8, hfr, h0, hz, h⟩ := h
  have hkl := hk.len
  have h33 := h3.l3
  walk_at "w"
  refine' fr_4 (k0 := 5) (k1 := 6) (k2 := 7) (k3 := 8) (fun i L' => ∃ (as' : List Addr) (R : List (List Int)) (fr' : List Int), L' = volC p as' R :: [(fp, .lst (fr'.map V.int))] :: L1 ∧ as'.length = R.length ∧ R.length = rows.length ∧ (∀ r ∈ R, r.length = 8) ∧ (∀ x ∈ fr', lo ≤ x ∧ x < hi) ∧ fr'.length ≤ fr.length ∧ (∀ f, 0 ≤ f → f < (i : Int) → RecOk lo hi kds ts R f) ∧ (∀ j, 0 ≤ j → j < lo → j < 10 ∨ 10 + F ≤ j → rowAt R j = rowAt rows j)) ?i0 ?is ?id
  case i0 => exact Wk.go ⟨as, rows, fr, rfl, hl, rfl, h8, hfr, Nat.le_refl _, fun f h1 h2 => by omega, fun j _ _ _ => rfl⟩
  case is =>
    clear hl h8 hfr
    rintro i a0 a1 a2 a3 L' hiF ⟨as, R, fr, rfl, hl, hRl, h8, hfr, hfl, hrec, hfra⟩
    have hr8 := rowAt_len h8 (j := 10 + (i : Int)) (by omega) (by omega)
    walk_at "sl"
    walk_at "w"
    rename_i xs hxs hall
    refine' a_filtTT (fun r => decide (r.getD 2 0 = (i : Int))) ?g1 hxs hall rfl ?g3 ?g4
    case g1 => walk_at "mem"
    case g3 =>
      intro k r t acc Dl hk2 m hacl
      obtain ⟨n0, n1, n2, rfl⟩ := list3 (h33 r (List.mem_of_getElem? hk2))
      have hu0 : At ([(Dl, HO.lst acc)] :: volC p as R :: [(fp, HO.lst (fr.map V.int))] :: L1) t (.tup [.int n0, .int n1, .int n2]) := At.mem (by walk_at "mem") m
      walk_at "w"
      all_goals first
        | exact s_lcyTT (decide_eq_true (by assumption)) hacl hk2 m (by omega) (by walk_at "lic")
        | exact s_lcnTT (decide_eq_false (by assumption)) hacl hk2 (by walk_at "lic")
    intro Dl acc hacl
    have hlen : (acc.length : Int) = cntM ts (i : Int) := by unfold cntM; rw [hacl.len, List.length_map]
    have hkd : kds.getD ((i : Int)).toNat 0 = kd kds i := rfl
    have hz : (if decide ((acc.length : Int) = 0) = true then (1 : Int) else 0) = if cntM ts (i : Int) = 0 then 1 else 0 := by
      rw [hlen]
      by_cases z : cntM ts (i : Int) = 0 <;> simp [z]
    walk_at "w"
    · rename_i hi1 hi2 hi3 s hs r as' R3 fr' ps ms hps htk hcase hl' hadr
      have hR3 : R3.length = R.length := by
        rcases hcase with ⟨_, _, e⟩ | ⟨_, _, e⟩ <;> rw [e] <;> simp only [List.length_set, putAt_len]
      have h83 : ∀ r ∈ R3, r.length = 8 := by
        rcases hcase with ⟨_, _, e⟩ | ⟨_, e9, e⟩
        · rw [e]; walk_at "a8"
        · rw [e]; exact set_8 (by walk_at "a8") e9
      have hrw := rowAt_len h83 (j := 10 + (i : Int)) (by omega) (by omega)
      rw [← hadr (10 + (i : Int)) (by omega) (by omega)]
      refine s_setsl_row (a := 4) (c := 8) (ms := ps) .hd IntsV.map Rp.hd hl' (by omega) (by omega) rfl (.inr ⟨rfl, by omega⟩) (by omega) (by omega) (by omega) ?_
      obtain ⟨g1, g2, g3⟩ := rec_file (R4 := R3.set (10 + (i : Int)).toNat ((rowAt R3 (10 + (i : Int))).take 4 ++ ps ++ (rowAt R3 (10 + (i : Int))).drop 8)) (ms := ms) (by omega) (by omega) h0.2.1 (by omega) hr8 hps rfl hcase rfl (fun x hx => htk.val x hx) hkd hlen hz hs hrec
      walk_at "g1"
      refine Wk.by_ (L' := volC p as' (R3.set (10 + (i : Int)).toNat ((rowAt R3 (10 + (i : Int))).take 4 ++ ps ++ (rowAt R3 (10 + (i : Int))).drop 8)) :: [(fp, HO.lst (fr'.map V.int))] :: L1) (by walk_at "lic") ⟨rfl, as', _, fr', rfl, by rw [List.length_set]; exact hl', by omega, set_8 h83 (by simp only [List.length_append, List.length_take, List.length_drop]; omega), htk.in_ hfr, by have := htk.le; omega, ?_, fun j h1 h2 h3 => ?_⟩
      · exact fun f f0 f1 => g1 f f0 (by omega)
      · rw [g2 j h1 (by omega) h2]
        exact hfra j h1 h2 h3
    · rename_i hi1 hi2 hi3
      obtain ⟨g1, g2, g3⟩ := rec_fold (R4 := putAt (putAt (putAt R (10 + (i : Int)) (Int.toNat 0) (kds.getD ((i : Int)).toNat 0)) (10 + (i : Int)) (Int.toNat 2) (acc.length : Int)) (10 + (i : Int)) (Int.toNat 3) (if decide ((acc.length : Int) = 0) = true then 1 else 0)) (by omega) (by omega) h0.2.1 (by omega) hr8 rfl hkd hi3 hlen hz hrec
      walk_at "g1"
      refine Wk.by_ (L' := volC p as _ :: [(fp, HO.lst (fr.map V.int))] :: L1) (by walk_at "lic") ⟨rfl, as, _, fr, rfl, by rw [g3]; exact hl, by omega, by walk_at "a8", hfr, hfl, fun f f0 f1 => g1 f f0 (by omega), fun j h1 h2 h3 => ?_⟩
      rw [g2 j h1 (by omega) h2]
      exact hfra j h1 h2 h3
    · rename_i hi1 hi2
      obtain ⟨g1, g2, g3⟩ := rec_none (R4 := putAt R (10 + (i : Int)) (Int.toNat 0) (kds.getD ((i : Int)).toNat 0)) (by omega) (by omega) h0.2.1 (by omega) hr8 rfl hkd (fun z => hi2 z.2) hrec
      walk_at "g1"
      refine Wk.by_ (L' := volC p as _ :: [(fp, HO.lst (fr.map V.int))] :: L1) (by walk_at "lic") ⟨rfl, as, _, fr, rfl, by rw [g3]; exact hl, by omega, by walk_at "a8", hfr, hfl, fun f f0 f1 => g1 f f0 (by omega), fun j h1 h2 h3 => ?_⟩
      rw [g2 j h1 (by omega) h2]
      exact hfra j h1 h2 h3
    · rename_i hi1
      obtain ⟨g1, g2, g3⟩ := rec_none (R4 := putAt R (10 + (i : Int)) (Int.toNat 0) (kds.getD ((i : Int)).toNat 0)) (by omega) (by omega) h0.2.1 (by omega) hr8 rfl hkd (fun z => hi1 (by omega)) hrec
      walk_at "g1"
      refine Wk.by_ (L' := volC p as _ :: [(fp, HO.lst (fr.map V.int))] :: L1) (by walk_at "lic") ⟨rfl, as, _, fr, rfl, by rw [g3]; exact hl, by omega, by walk_at "a8", hfr, hfl, fun f f0 f1 => g1 f f0 (by omega), fun j h1 h2 h3 => ?_⟩
      rw [g2 j h1 (by omega) h2]
      exact hfra j h1 h2 h3
  clear hl h8 hfr
  rintro a0 a1 a2 a3 L' ⟨as, R, fr', rfl, hl, hRl, h8, hfr, hfl, hrec, hfra⟩
  walk_at "sl"
  walk_at "w"
  walk_at "g1"
  exact Wk.go (h as R fr' hl hRl h8 hfr hfl (fun f f0 f1 => hrec f f0 (by omega)) hfra)
theorem ok__law_stands (T : Txt K mg) : OkF P w K mg base 1 "_law_stands" ["_law_slots_here", "_law_folder", "_law_name"] (sp__law_stands K) := by
  obtain ⟨fd, F⟩ := T.f__law_stands
  refine ⟨T.g__law_stands, fd, fn_ok2 F sc__law_stands (len3 rfl) (fun cdv A outer s H E hr => have hu := hr.units; ⟨_, ((lss_one (ls_ret (lcmp (ko_ne K hu) (llc (vs := [3]) rfl sc__law_stands.nd (ki_list K (lv 0)) (blkOk_by (own := [("_law_one", 3)]) (N := ["_law_slots_here", "_law_folder", "_law_name", "_law_one"]) (sc := defScope s__law_stands) (by decide +kernel)) (fun _ _ _ _ _ => (lg_name 3 sc__law_stands.nd)) (fun _ _ _ _ _ => (lts_one (LW.pt (lw_and (lt_cmp (ko_eq K hu) (lix (kx_ix K hu) (lv 3) lint (fun _ _ => rfl)) (lv 1) (nomark _)) (lw_and1 (lt_cmp (ko_eq K hu) (lix (kx_ix K hu) (lv 3) lint (fun _ _ => rfl)) (lv 2) (nomark _))))))) (fun _ _ _ _ _ => (lv 3))) (llst la_nil) (nomark _))))), fun vs L Q EL σ h hσ => ?_⟩), F.bindsN (fun _ _ _ _ _ _ us hl => match us, hl with | [_, _, _], _ => rfl), F.kp⟩
  obtain ⟨x0, x1, x2, rfl, h⟩ := h
  have hσ : ([some x0, some x1, some x2, none] : St) = σ := hσ
  subst hσ
  clear hσ hu hr F
  obtain ⟨p, d, ts, f, x, rfl, rfl, rfl, hd, hdm, h3, hz, h⟩ := h
  walk_at "w"
  rename_i xs hxs hall
  have hxl : xs.length = ts.length := by rw [hall.len, List.length_map]
  refine' a_filtTT (fun r => decide (r.getD 0 0 = f ∧ r.getD 1 0 = x)) ?g1 hxs hall rfl ?g3 ?g4
  case g1 => walk_at "mem"
  case g3 =>
    intro i r t acc Dl hi m hacl
    obtain ⟨n0, n1, n2, rfl⟩ := list3 (h3 r (List.mem_of_getElem? hi))
    have hu0 : At ([(Dl, HO.lst acc)] :: L) t (.tup [.int n0, .int n1, .int n2]) := At.mem (by walk_at "mem") m
    walk_at "w"
    all_goals first
      | exact s_lcyTT (decide_eq_true ⟨by assumption, by assumption⟩) hacl hi m (by omega) (by walk_at "lic")
      | exact s_lcnTT (decide_eq_false fun z => by first | exact absurd z.1 (by assumption) | exact absurd z.2 (by assumption)) hacl hi (by walk_at "lic")
  case g4 =>
    intro Dl acc hacl
    walk_at "w"
    refine s_ne_fil (by walk_at "at") (AtA.mem (by walk_at "mem")) hacl (by walk_at "at") ?_
    walk_at "g1"
    have e : (!decide (ts.filter (fun r => decide (r.getD 0 0 = f ∧ r.getD 1 0 = x)) = [])) = decide ([f, x] ∈ ts.map pr2) := by
      by_cases z : ts.filter (fun r => decide (r.getD 0 0 = f ∧ r.getD 1 0 = x)) = []
      · rw [decide_eq_true z, decide_eq_false fun q => (mem_pr2 h3).mp q z]; rfl
      · rw [decide_eq_false z, decide_eq_true ((mem_pr2 h3).mpr z)]; rfl
    rw [e]
    exact Wk.by_ (by walk_at "lic") h
theorem ok__law_new_name (T : Txt K mg) (G__law_stands : OkF P w K mg base 1 "_law_stands" ["_law_slots_here", "_law_folder", "_law_name"] (sp__law_stands K)) (G__law_mixed : OkF P w K mg base 1 "_law_mixed" ["_law_cell_here", "_law_k"] (sp__law_mixed K)) : OkF P w K mg base 2 "_law_new_name" ["_law_cell_here", "_law_k", "_law_slots_here", "_law_folder"] (sp__law_new_name K) := by
  obtain ⟨fd, F⟩ := T.f__law_new_name
  refine ⟨T.g__law_new_name, fd, fn_ok2 F sc__law_new_name (len4 rfl) (fun cdv A outer s H E hr => have hu := hr.units; ⟨_, ((lss_cons (ls_set 4 sc__law_new_name.nd (lop (ko_add K) lint (lop lo_mod (lcallO G__law_mixed (hr.mono (by decide)) rfl (la_cons (lv 0) (la_cons (lop (ko_add K) lint (lv 1)) la_nil))) lint)))
      (lss_cons (ls_join (ls_if (lt_cmp (ko_eq K hu) (lop lo_mod (lcallO G__law_mixed (hr.mono (by decide)) rfl (la_cons (lv 0) (la_cons (lop (ko_add K) lint (lv 1)) la_nil))) lint) lint (nomark _)) (lss_one (ls_set 4 sc__law_new_name.nd (lop lo_sub (lop lo_sub (lop lo_pow lint lint) lint) (lv 4)))) lss_nil))
      (lss_cons (ls_while PassesOwn.never (kt_truth K (lcallO G__law_stands (hr.mono (by decide)) rfl (la_cons (lv 2) (la_cons (lv 3) (la_cons (lv 4) la_nil))))) (lss_one (ls_set 4 sc__law_new_name.nd (lop (ko_add K) (lop lo_mod (lv 4) (lop lo_sub (lop lo_pow lint lint) lint)) lint))))
      (lss_one (ls_ret (lv 4))))))), fun vs L Q EL σ h hσ => ?_⟩), F.bindsN (fun _ _ _ _ _ _ us hl => match us, hl with | [_, _, _, _], _ => rfl), F.kp⟩
  obtain ⟨x0, x1, x2, x3, rfl, h⟩ := h
  have hσ : ([some x0, some x1, some x2, some x3, none] : St) = σ := hσ
  subst hσ
  clear hσ hu hr F
  clear G__law_stands G__law_mixed
  obtain ⟨n, k, p, d, ts, f, rfl, rfl, rfl, rfl, hd, hdm, h3, hz, h⟩ := h
  walk_at "w"
  refine' sjv_1 (k0 := 4) (fun a L' => ∃ y, a = some (.int y) ∧ (1 ≤ y ∧ y ≤ MM) ∧ L' = L) ?j1 ?j2
  case j1 =>
    walk_at "w"
    all_goals walk_at "g1"
    · exact Wk.go ⟨_, rfl, _, rfl, by show _ ∧ _ ≤ (999999999999 : Int); omega, rfl⟩
    · exact Wk.go ⟨_, rfl, _, rfl, by show _ ∧ _ ≤ (999999999999 : Int); omega, rfl⟩
  rintro b5 L0 ⟨y, rfl, hy, e0⟩
  subst e0
  walk_at "sl"
  walk_at "w"
  refine f_while (fun m σ' L' => ∃ j, σ' = [some (.int n), some (.int k), some (.ref p), some (.int f), some (.int (nmK y j))] ∧ m = ts.length + 1 - j ∧ j ≤ ts.length ∧ (∀ i, i < j → [f, nmK y i] ∈ ts.map pr2) ∧ L' = L0) (Wk.go ⟨_, 0, by rw [nmK_0 hy], rfl, Nat.zero_le _, fun j hj => absurd hj (Nat.not_lt_zero j), rfl⟩) ?_
  rintro m σ' L' ⟨j, rfl, rfl, hj, hseen, rfl⟩
  have hb := nmK_b (y := y) (k := j)
  have hb2 := nmK_le (y := y) (k := j)
  walk_at "w"
  · rename_i hin
    have hseen' : ∀ i, i < j + 1 → [f, nmK y i] ∈ ts.map pr2 := fun i hi => by
      by_cases e : i = j
      · subst e; exact hin
      · exact hseen i (by omega)
    have hk1 := nm_len (k := j + 1) (by omega) hseen'
    rw [List.length_map] at hk1
    exact Wk.by_ (L' := L') (by walk_at "lic") ⟨ts.length + 1 - (j + 1), by omega, j + 1, by rw [← nmK_1, Int.add_comm 1, show (1000000000000 - 1 : Int) = MM by decide], rfl, hk1, hseen', rfl⟩
  · rename_i hnin
    walk_at "g1"
    exact Wk.go (h _ ⟨hb, hb2⟩ hnin)
theorem ok__law_slots (T : Txt K mg) (G__law_mixed : OkF P w K mg base 1 "_law_mixed" ["_law_cell_here", "_law_k"] (sp__law_mixed K)) (G__law_new_name : OkF P w K mg base 2 "_law_new_name" ["_law_cell_here", "_law_k", "_law_slots_here", "_law_folder"] (sp__law_new_name K)) (TB : LamX.TabB base mg (He.cT K ("_law_slots", none)).1 (He.cT K ("_law_slots", none)).2) : OkF P w K mg base 5 "_law_slots" ["_law_cell_here", "_law_kinds_here", "_law_most"] (sp__law_slots K) := by
  obtain ⟨fd, F⟩ := T.f__law_slots
  refine ⟨T.g__law_slots, fd, fn_okL (p := ("_law_slots", none)) F sc__law_slots (len3 rfl) (fun A outer s H E hr => have hu := hr.units; ⟨_, ((lss_cons (ls_set 3 sc__law_slots.nd (llst la_nil))
      (lss_cons (ls_set 4 sc__law_slots.nd (llst (la_cons lint la_nil)))
      (lss_cons (ls_setLc (vs := [6]) 5 rfl sc__law_slots.nd rfl rfl (sw_true rfl rfl rfl (by decide +kernel)) (li_range2 rfl T.n_range (la_cons lint (la_cons (lcallB (kk_len K) (by rfl) T.n_len (by decide +kernel) (la_cons (lv 1) la_nil)) la_nil))) (blkOk_by (own := [("_law_f", 6)]) (N := ["_law_cell_here", "_law_kinds_here", "_law_most", "_law_slots_here", "_law_folders", "_law_order", "_law_f", "_law_folder"]) (sc := defScope s__law_slots) (by decide +kernel)) (fun _ _ _ _ _ => (lg_name 6 sc__law_slots.nd)) (fun _ _ _ _ _ => (lts_one (lt_cmp lo_gt (lix (kx_ix K hu) (lv 1) (lv 6) (fun _ _ => rfl)) lint (nomark _)))) (fun _ _ _ _ _ => (lv 6)))
      (lss_cons (ls_set 5 sc__law_slots.nd (lsortLam (k := 1) (a := "_law_f") (caps := [("_law_cell_here", 0)]) K (lamQ "_law_slots") [0] TB rfl (hr.mono (by decide)) rfl T.n_sorted (lamS1_by (sc := defScope s__law_slots) (by decide +kernel)) (capsOk_by (N := ["_law_cell_here", "_law_kinds_here", "_law_most", "_law_slots_here", "_law_folders", "_law_order", "_law_f", "_law_folder"]) (by decide +kernel)) rfl (fun _ _ _ _ _ _ => by rfl) (lv 5) (fun A outer s H E f c2 hr => (lcallO G__law_mixed (hr.mono (by decide)) rfl (la_cons (lv 1) (la_cons (lop (ko_add K) lint (lv 0)) la_nil))))))
      (lss_cons (ls_for PassesOwn.never rfl (ki_list K (lv 5)) (lg_name 6 sc__law_slots.nd) (lss_cons (ls_join (ls_if (LW.pt (lw_and (lt_cmp lo_gt (lop lo_mod (lcallO G__law_mixed (hr.mono (by decide)) rfl (la_cons (lv 0) (la_cons (lop (ko_add K) lint (lv 6)) la_nil))) lint) lint (nomark _)) (lw_and1 (lt_cmp lo_lt (lcallB (kk_len K) (by rfl) T.n_len (by decide +kernel) (la_cons (lv 3) la_nil)) (lv 2) (nomark _))))) (lss_cons (ls_set 7 sc__law_slots.nd (lix (kx_ix K hu) (lv 4) (lop lo_mod (lcallO G__law_mixed (hr.mono (by decide)) rfl (la_cons (lv 0) (la_cons (lop (ko_add K) lint (lv 6)) la_nil))) (lcallB (kk_len K) (by rfl) T.n_len (by decide +kernel) (la_cons (lv 4) la_nil))) (fun _ _ => rfl)))
      (lss_one (ls_expr (kbm K PySem.F.plainAttrs_list PySem.F.slot_list_append PySem.F.type_list_append lm_append (lv 3) (la_cons (ltup (la_cons (lv 7) (la_cons (lcallO G__law_new_name (hr.mono (by decide)) rfl (la_cons (lv 0) (la_cons (lv 6) (la_cons (lv 3) (la_cons (lv 7) la_nil))))) (la_cons (lv 6) la_nil)))) la_nil))))) lss_nil))
      (lss_one (ls_if (lt_cmp (ko_eq K hu) (lix (kx_ix K hu) (lv 1) (lv 6) (fun _ _ => rfl)) lint (nomark _)) (lss_one (ls_expr (kbm K PySem.F.plainAttrs_list PySem.F.slot_list_append PySem.F.type_list_append lm_append (lv 4) (la_cons (lv 6) la_nil)))) lss_nil))))
      (lss_cons (ls_for PassesOwn.never rfl (ki_list K (lv 5)) (lg_name 6 sc__law_slots.nd) (lss_one (ls_if (LW.pt (lw_and (lt_cmp (ko_eq K hu) (lix (kx_ix K hu) (lv 1) (lv 6) (fun _ _ => rfl)) lint (nomark _)) (lw_and (lt_cmp (ko_eq K hu) (lop lo_mod (lcallO G__law_mixed (hr.mono (by decide)) rfl (la_cons (lv 0) (la_cons (lop (ko_add K) lint (lv 6)) la_nil))) lint) lint (nomark _)) (lw_and1 (lt_cmp lo_lt (lcallB (kk_len K) (by rfl) T.n_len (by decide +kernel) (la_cons (lv 3) la_nil)) (lv 2) (nomark _)))))) (lss_cons (ls_set 7 sc__law_slots.nd (lix (kx_ix K hu) (lv 4) (lop lo_mod (lcallO G__law_mixed (hr.mono (by decide)) rfl (la_cons (lv 0) (la_cons (lop (ko_add K) lint (lv 6)) la_nil))) (lcallB (kk_len K) (by rfl) T.n_len (by decide +kernel) (la_cons (lv 4) la_nil))) (fun _ _ => rfl)))
      (lss_one (ls_expr (kbm K PySem.F.plainAttrs_list PySem.F.slot_list_append PySem.F.type_list_append lm_append (lv 3) (la_cons (ltup (la_cons (lv 7) (la_cons (lcallO G__law_new_name (hr.mono (by decide)) rfl (la_cons (lv 0) (la_cons (lop (ko_add K) lint (lv 6)) (la_cons (lv 3) (la_cons (lv 7) la_nil))))) (la_cons (lv 6) la_nil)))) la_nil))))) lss_nil)))
      (lss_one (ls_ret (lv 3)))))))))), fun vs L Q EL σ h hσ => ?_⟩), F.bindsN (fun _ _ _ _ _ _ us hl => match us, hl with | [_, _, _], _ => rfl), F.kp⟩
  obtain ⟨x0, x1, x2, rfl, h⟩ := h
  have hσ : ([some x0, some x1, some x2, none, none, none, none, none] : St) = σ := hσ
  subst hσ
  clear hσ hu hr F
  clear G__law_mixed G__law_new_name
  obtain ⟨kp, n, F, E, kds, C, R, rfl, rfl, rfl, rfl, hk, hF, hE, hkp, hT, h⟩ := h
  generalize hP : (He.cT K ("_law_slots", none)).2 = P at *
  have hkl := hk.len
  walk_at "w"
  rename_i S D
  refine' a_filtRo (fun x => decide (kd kds x > 0)) rfl ?f1 ?f2 ?f3
  case f1 => omega
  case f2 =>
    intro i acc Dl hi hz
    walk_at "w"
  intro Dl
  have hkd : ∀ x, 0 ≤ x → x < F → kd kds x = kds.getD x.toNat 0 := fun x _ _ => rfl
  have os1 : ∀ x ∈ (List.map (fun k : Nat => 1 + (k : Int)) (List.range ((kds.length : Int) - 1).toNat)).filter (fun x => decide (kd kds x > 0)), (1 ≤ x ∧ x < F) ∧ 0 < kd kds x := fun x hx => by
    obtain ⟨h1, h2⟩ := List.mem_filter.mp hx
    obtain ⟨k, hk, rfl⟩ := List.mem_map.mp h1
    have := List.mem_range.mp hk
    exact ⟨by omega, of_decide_eq_true h2⟩
  have os2 : ((List.map (fun k : Nat => 1 + (k : Int)) (List.range ((kds.length : Int) - 1).toNat)).filter (fun x => decide (kd kds x > 0))).Nodup := by
    refine List.Nodup.sublist List.filter_sublist ?_
    rw [List.nodup_iff_pairwise_ne, List.pairwise_map]
    exact List.Pairwise.imp (fun {a b} h => by omega) List.pairwise_lt_range
  have os3 : ((List.map (fun k : Nat => 1 + (k : Int)) (List.range ((kds.length : Int) - 1).toNat)).filter (fun x => decide (kd kds x > 0))).length ≤ 11 := by
    refine Nat.le_trans (List.length_filter_le _ _) ?_
    rw [List.length_map, List.length_range]
    omega
  generalize (List.map (fun k : Nat => 1 + (k : Int)) (List.range ((kds.length : Int) - 1).toNat)).filter (fun x => decide (kd kds x > 0)) = os at *
  walk_at "w"
  refine s_sortLam ?_
  walk_at "w"
  refine' s_sortK (ns := os) (fun f => mixM n (40 + f)) ?h1 hT ?hx ?hk ?hd
  case h1 => walk_at "pull"
  case hx => intro C'; walk_at "isl"
  case hk =>
    intro C' f hf
    simp only [List.map_cons, List.map_nil, List.getElem?_cons_zero, List.getElem?_cons_succ, Option.join_some]
    walk_at "w"
    exact ⟨rfl, .refl⟩
  intro C' O hT'
  have hp := sortK_perm (fun f => mixM n (40 + f)) os
  generalize sortK (fun f => mixM n (40 + f)) os = od at *
  have od1 : ∀ x ∈ od, (1 ≤ x ∧ x < F) ∧ 0 < kd kds x := fun x hx => os1 x (hp.mem_iff.mp hx)
  have od2 : od.Nodup := hp.nodup_iff.mpr os2
  have od3 : od.length ≤ 11 := by rw [hp.length_eq]; exact os3
  have rk1 : ∀ i f, od[i]? = some f → i < rkM kds od f := fun i f hi => by
    have hlt := (List.getElem?_eq_some_iff.mp hi).1
    have hf := od1 f (List.mem_of_getElem? hi)
    have e : od.idxOf f = i := by
      obtain ⟨h1, h2⟩ := List.getElem?_eq_some_iff.mp hi
      rw [← h2]
      exact List.Nodup.idxOf_getElem od2 i h1
    unfold rkM
    rw [if_neg (by omega)]
    split
    · omega
    · omega
  have rk2 : ∀ i f, od[i]? = some f → kd kds f = 2 → rkM kds od f ≤ i + 1 := fun i f hi h2 => by
    have e : od.idxOf f = i := by
      obtain ⟨h1, h2⟩ := List.getElem?_eq_some_iff.mp hi
      rw [← h2]
      exact List.Nodup.idxOf_getElem od2 i h1
    have hf := od1 f (List.mem_of_getElem? hi)
    unfold rkM
    rw [if_neg (by omega), if_pos h2]
    omega
  have rk3 : ∀ f, rkM kds od f ≤ 13 := fun f => rkM_le od3
  walk_at "w"
  refine' fi_2 (k0 := 6) (k1 := 7) (fun i L' => ∃ (c : Chunk) (ts : List (List Int)) (fl : List Int), LdT c S ts ∧ SlOk F kds (rkM kds od) ts ∧ (ts.length : Int) ≤ 2 * E ∧ 0 < fl.length ∧ fl.length ≤ i + 1 ∧ (∀ x ∈ fl, ((0 ≤ x ∧ x < F) ∧ kd kds x = 2) ∧ rkM kds od x ≤ i) ∧ i ≤ 11 ∧ L' = c :: [(D, HO.lst (fl.map V.int))] :: [(O, HO.lst (od.map V.int))] :: C' :: R) IntsV.map ?i0 ?iG ?is ?id
  case i0 => exact Wk.by_ (L' := [(S, HO.lst [])] :: [(D, HO.lst [V.int 0])] :: [(O, HO.lst (od.map V.int))] :: C' :: R) (by walk_at "lic") ⟨_, [], [0], LdT.nil, SlOk.nil, by show (0 : Int) ≤ _; omega, by decide, by decide, fun x hx => by rw [List.mem_singleton.mp hx]; exact ⟨⟨by omega, hk.top⟩, Nat.zero_le _⟩, by omega, rfl⟩
  case iG => rintro i L' ⟨c, ts, fl, _, _, _, _, _, _, _, rfl⟩; exact IsL.at_ (At.tl (At.tl At.hd1))
  case is =>
    rintro i f a0 a1 L' hi ⟨c, ts, fl, hc, hok, hts, hfl0, hfl1, hfl, hi11, rfl⟩
    have hf := od1 f (List.mem_of_getElem? hi)
    have hrf := rk1 i f hi
    have h3 := hok.l3
    have hil := (List.getElem?_eq_some_iff.mp hi).1
    have hts30 : ts.length ≤ 30 := by omega
    have hpick : ∀ z : Int, fl.getD (z % (fl.length : Int)).toNat 0 ∈ fl := fun z => by
      have m3 := Int.emod_nonneg z (b := (fl.length : Int)) (by omega)
      have m4 := Int.emod_lt_of_pos z (b := (fl.length : Int)) (by omega)
      rw [List.getD_eq_getElem?_getD, List.getElem?_eq_getElem (by omega)]
      exact List.getElem_mem (by omega)
    have hm3 : ∀ z : Int, 0 ≤ z % (fl.length : Int) ∧ z % (fl.length : Int) < fl.length := fun z => ⟨Int.emod_nonneg z (by omega), Int.emod_lt_of_pos z (by omega)⟩
    have hm4 := hm3 (mixM n (80 + f))
    have hpk := hpick (mixM n (80 + f))
    walk_at "sl"
    walk_at "w"
    refine' sjv_1 (k0 := 7) (fun _ L' => ∃ (c : Chunk) (ts : List (List Int)), LdT c S ts ∧ SlOk F kds (rkM kds od) ts ∧ (ts.length : Int) ≤ 2 * E ∧ L' = c :: [(D, HO.lst (fl.map V.int))] :: [(O, HO.lst (od.map V.int))] :: C' :: R) ?j1 ?j2
    case j1 =>
      walk_at "w"
      all_goals walk_at "g1"
      · rename_i hx1 hx2 hx3 q y hy hny T c9 hc9
        exact Wk.go ⟨_, rfl, c9, _, hc9, hok.snoc (hfl _ hpk).1 hy ⟨by omega, hf.2⟩ (by have := (hfl _ hpk).2; omega) hny, by simp; omega, rfl⟩
      all_goals exact Wk.go ⟨_, rfl, c, ts, hc, hok, hts, rfl⟩
    rintro b7 L' ⟨c, ts, hc, hok, hts, rfl⟩
    walk_at "sl"
    walk_at "w"
    all_goals walk_at "g1"
    · rename_i hf2
      refine Wk.by_ (L' := c :: [(D, HO.lst ((fl ++ [f]).map V.int))] :: [(O, HO.lst (od.map V.int))] :: C' :: R) (by rw [List.map_append]; walk_at "lic") ⟨rfl, c, ts, _, hc, hok, hts, by simp, by simp; omega, fun x hx => ?_, by omega, rfl⟩
      rcases List.mem_append.mp hx with hx | hx
      · have := hfl x hx
        exact ⟨this.1, by omega⟩
      · rw [List.mem_singleton.mp hx]
        exact ⟨⟨by omega, hf2⟩, rk2 i f hi hf2⟩
    · exact Wk.go ⟨rfl, c, ts, fl, hc, hok, hts, hfl0, by omega, fun x hx => ⟨(hfl x hx).1, by have := (hfl x hx).2; omega⟩, by omega, rfl⟩
  rintro a0 a1 L' ⟨c, ts, fl, hc, hok, hts, hfl0, hfl1, hfl, hi11, rfl⟩
  walk_at "sl"
  walk_at "w"
  refine' fi_2 (k0 := 6) (k1 := 7) (fun i L' => ∃ (c : Chunk) (ts : List (List Int)), LdT c S ts ∧ SlOk F kds (rkM kds od) ts ∧ (ts.length : Int) ≤ 2 * E ∧ L' = c :: [(D, HO.lst (fl.map V.int))] :: [(O, HO.lst (od.map V.int))] :: C' :: R) IntsV.map ?m0 ?mG ?ms ?md
  case m0 => exact Wk.go ⟨c, ts, hc, hok, hts, rfl⟩
  case mG => rintro i L' ⟨c, ts, _, _, _, rfl⟩; exact IsL.at_ (At.tl (At.tl At.hd1))
  case ms =>
    clear hc hok hts
    rintro i f b0 b1 L' hi ⟨c, ts, hc, hok, hts, rfl⟩
    have hf := od1 f (List.mem_of_getElem? hi)
    have h3 := hok.l3
    have hts30 : ts.length ≤ 30 := by omega
    have hpick : ∀ z : Int, fl.getD (z % (fl.length : Int)).toNat 0 ∈ fl := fun z => by
      have m3 := Int.emod_nonneg z (b := (fl.length : Int)) (by omega)
      have m4 := Int.emod_lt_of_pos z (b := (fl.length : Int)) (by omega)
      rw [List.getD_eq_getElem?_getD, List.getElem?_eq_getElem (by omega)]
      exact List.getElem_mem (by omega)
    have hm3 : ∀ z : Int, 0 ≤ z % (fl.length : Int) ∧ z % (fl.length : Int) < fl.length := fun z => ⟨Int.emod_nonneg z (by omega), Int.emod_lt_of_pos z (by omega)⟩
    have hm4 := hm3 (mixM n (180 + f))
    have hpk := hpick (mixM n (180 + f))
    have r13 : kd kds f = 1 → 13 ≤ rkM kds od f := fun h1 => by
      unfold rkM
      rw [if_neg (by omega), if_neg (by omega)]
      exact Nat.le_refl _
    walk_at "sl"
    walk_at "w"
    all_goals walk_at "g1"
    · rename_i hk1 hx1 hx2 hx3 q y hy hny T c9 hc9
      exact Wk.go ⟨rfl, c9, _, hc9, hok.snoc (hfl _ hpk).1 hy ⟨by omega, hf.2⟩ (by have := (hfl _ hpk).2; have := r13 hk1; omega) hny, by simp; omega, rfl⟩
    all_goals exact Wk.go ⟨rfl, c, ts, hc, hok, hts, rfl⟩
  clear hc hok hts
  rintro b0 b1 L' ⟨c, ts, hc, hok, hts, rfl⟩
  walk_at "sl"
  walk_at "w"
  walk_at "g1"
  exact Wk.by_ (L' := c :: C' :: R) (by walk_at "lic") (h C' S c ts _ hT' hc hok rk3 hts)
theorem ok__law_kinds (T : Txt K mg) (G__law_mixed : OkF P w K mg base 1 "_law_mixed" ["_law_cell_here", "_law_k"] (sp__law_mixed K)) : OkF P w K mg base 2 "_law_kinds" ["_law_cell_here", "_law_files"] (sp__law_kinds K) := by
  obtain ⟨fd, F⟩ := T.f__law_kinds
  refine ⟨T.g__law_kinds, fd, fn_ok2 F sc__law_kinds (len2 rfl) (fun cdv A outer s H E hr => have hu := hr.units; ⟨_, ((lss_one (ls_ret (lop (ko_add K) (llst (la_cons lint la_nil)) (llc (vs := [2]) rfl sc__law_kinds.nd (li_range2 rfl T.n_range (la_cons lint (la_cons (lv 1) la_nil))) (blkOk_by (own := [("_law_f", 2)]) (N := ["_law_cell_here", "_law_files", "_law_f"]) (sc := defScope s__law_kinds) (by decide +kernel)) (fun _ _ _ _ _ => (lg_name 2 sc__law_kinds.nd)) (fun _ _ _ _ _ => lts_nil) (fun _ _ _ _ _ => (lix (kx_ix K hu) (llst (la_cons lint (la_cons lint (la_cons lint (la_cons lint la_nil))))) (lop lo_mod (lcallO G__law_mixed (hr.mono (by decide)) rfl (la_cons (lv 0) (la_cons (lv 2) la_nil))) lint) (fun _ _ => rfl)))))))), fun vs L Q EL σ h hσ => ?_⟩), F.bindsN (fun _ _ _ _ _ _ us hl => match us, hl with | [_, _], _ => rfl), F.kp⟩
  obtain ⟨x0, x1, rfl, h⟩ := h
  have hσ : ([some x0, some x1, none] : St) = σ := hσ
  subst hσ
  clear hσ hu hr F
  clear G__law_mixed
  obtain ⟨n, F, rfl, rfl, h0, h⟩ := h
  walk_at "w"
  rename_i p1 p2 p3
  walk_at "g1"
  rw [show [2] ++ List.map (fun i : Nat => ([1, 2, 1, 0] : List Int).getD (mixM n (1 + (i : Int)) % 4).toNat 0) (List.range (F - 1).toNat) = kindsM n (F - 1).toNat from rfl]
  exact Wk.by_ (by walk_at "lic") (h _)
theorem ok__law_sound (T : Txt K mg) (G__law_mixed : OkF P w K mg base 1 "_law_mixed" ["_law_cell_here", "_law_k"] (sp__law_mixed K)) (G__law_check : OkF P w K mg base 1 "_law_check" ["_law_numbers"] (sp__law_check K)) (G__law_records : OkF P w K mg base 4 "_law_records" ["_law_cell_here", "_law_kinds_here", "_law_slots_here", "_law_volume", "_law_free"] (sp__law_records K)) (G__law_slots : OkF P w K mg base 5 "_law_slots" ["_law_cell_here", "_law_kinds_here", "_law_most"] (sp__law_slots K)) (G__law_kinds : OkF P w K mg base 2 "_law_kinds" ["_law_cell_here", "_law_files"] (sp__law_kinds K)) (TB : LamX.TabB base mg (He.cT K ("_law_sound", none)).1 (He.cT K ("_law_sound", none)).2) : OkF P w K mg base 6 "_law_sound" ["_law_layout_here", "_law_cell_here"] (sp__law_sound K) := by
  obtain ⟨fd, F⟩ := T.f__law_sound
  refine ⟨T.g__law_sound, fd, fn_okL (p := ("_law_sound", none)) F sc__law_sound (len2 rfl) (fun A outer s H E hr => have hu := hr.units; ⟨_, ((lss_cons (ls_set 2 sc__law_sound.nd (lop (ko_add K) (lop (ko_add K) (lop (ko_add K) lint (kfld K (lv 0))) (kfld K (lv 0))) (kfld K (lv 0))))
      (lss_cons (ls_set 3 sc__law_sound.nd (lop lo_sub (lv 2) (kfld K (lv 0))))
      (lss_cons (ls_set 4 sc__law_sound.nd (llst la_nil))
      (lss_cons (ls_for PassesOwn.never rfl (li_range1 rfl T.n_range (la_cons (lv 2) la_nil)) (lg_name 5 sc__law_sound.nd) (lss_one (ls_expr (kbm K PySem.F.plainAttrs_list PySem.F.slot_list_append PySem.F.type_list_append lm_append (lv 4) (la_cons (llc (vs := [11]) rfl sc__law_sound.nd (li_range1 rfl T.n_range (la_cons lint la_nil)) (blkOk_by (own := [("_law_k", 11)]) (N := ["_law_layout_here", "_law_cell_here", "_law_many", "_law_first", "_law_volume", "_law_block", "_law_kinds_here", "_law_slots_here", "_law_free", "_law_head", "_law_bits", "_law_k", "_law_i", "_law_spots", "_law_s", "_law_one"]) (sc := defScope s__law_sound) (by decide +kernel)) (fun _ _ _ _ _ => (lg_name 11 sc__law_sound.nd)) (fun _ _ _ _ _ => lts_nil) (fun _ _ _ _ _ => (lop lo_mod (lop lo_mul (lcallO G__law_mixed (hr.mono (by decide)) rfl (la_cons (lv 1) (la_cons (lop (ko_add K) (lop (ko_add K) lint (lop lo_mul lint (lv 5))) (lv 11)) la_nil))) lint) (lop lo_pow lint lint)))) la_nil)))))
      (lss_cons (ls_set 6 sc__law_sound.nd (lcallO G__law_kinds (hr.mono (by decide)) rfl (la_cons (lv 1) (la_cons (kfld K (lv 0)) la_nil))))
      (lss_cons (ls_set 7 sc__law_sound.nd (lcallO G__law_slots (hr.mono (by decide)) rfl (la_cons (lv 1) (la_cons (lv 6) (la_cons (lop lo_mul lint (kfld K (lv 0))) la_nil)))))
      (lss_cons (ls_set 8 sc__law_sound.nd (lsortLam (k := 1) (a := "_law_b") (caps := [("_law_cell_here", 1)]) K (lamQ "_law_sound") [1] TB rfl (hr.mono (by decide)) rfl T.n_sorted (lamS1_by (sc := defScope s__law_sound) (by decide +kernel)) (capsOk_by (N := ["_law_layout_here", "_law_cell_here", "_law_many", "_law_first", "_law_volume", "_law_block", "_law_kinds_here", "_law_slots_here", "_law_free", "_law_head", "_law_bits", "_law_k", "_law_i", "_law_spots", "_law_s", "_law_one"]) (by decide +kernel)) rfl (fun _ _ _ _ _ _ => by rfl) (llc (vs := [11]) rfl sc__law_sound.nd (li_range1 rfl T.n_range (la_cons (kfld K (lv 0)) la_nil)) (blkOk_by (own := [("_law_k", 11)]) (N := ["_law_layout_here", "_law_cell_here", "_law_many", "_law_first", "_law_volume", "_law_block", "_law_kinds_here", "_law_slots_here", "_law_free", "_law_head", "_law_bits", "_law_k", "_law_i", "_law_spots", "_law_s", "_law_one"]) (sc := defScope s__law_sound) (by decide +kernel)) (fun _ _ _ _ _ => (lg_name 11 sc__law_sound.nd)) (fun _ _ _ _ _ => lts_nil) (fun _ _ _ _ _ => (lop (ko_add K) (lv 3) (lv 11)))) (fun A outer s H E f c2 hr => (lcallO G__law_mixed (hr.mono (by decide)) rfl (la_cons (lv 1) (la_cons (lop (ko_add K) lint (lv 0)) la_nil))))))
      (lss_cons (ls_expr (lcallO G__law_records (hr.mono (by decide)) rfl (la_cons (lv 1) (la_cons (lv 6) (la_cons (lv 7) (la_cons (lv 4) (la_cons (lv 8) la_nil)))))))
      (lss_cons (ls_set 9 sc__law_sound.nd (llst (la_cons lint (la_cons (lop lo_mod (lv 1) (lop lo_pow lint lint)) (la_cons (kfld K (lv 0)) (la_cons (kfld K (lv 0)) (la_cons (kfld K (lv 0)) (la_cons lint (la_cons lint la_nil)))))))))
      (lss_cons (ls_asg (lop (ko_add K) (lv 9) (llst (la_cons (lcallO G__law_check (hr.mono (by decide)) rfl (la_cons (lv 9) la_nil)) la_nil))) (lg_sub (lv 4) lint (lset_ok hu)))
      (lss_cons (ls_asg (lcallTy (kk_list K) (by rfl) T.n_list (by decide +kernel) (la_cons (lix (kx_ix K hu) (lv 4) lint (fun _ _ => rfl)) la_nil)) (lg_sub (lv 4) lint (lset_ok hu)))
      (lss_cons (ls_set 10 sc__law_sound.nd (llst (la_cons lint (la_cons lint (la_cons lint (la_cons lint (la_cons lint (la_cons lint (la_cons lint (la_cons lint la_nil))))))))))
      (lss_cons (ls_for PassesOwn.never rfl (li_range2 rfl T.n_range (la_cons (lv 3) (la_cons (lv 2) la_nil))) (lg_name 5 sc__law_sound.nd) (lss_cons (ls_asg (lcallB lk_divmod (by rfl) T.n_divmod (by decide +kernel) (la_cons (lop lo_sub (lv 5) (lv 3)) (la_cons lint la_nil))) (kg_tup K (n := 2) rfl (lgs_cons (lg_name 11 sc__law_sound.nd) (lgs_cons (lg_name 12 sc__law_sound.nd) lgs_nil))))
      (lss_one (ls_if (lt_cmp (ko_notIn K hu) (lv 5) (lv 8) (by rfl)) (lss_one (ls_asg (lop lo_or (lix (kx_ix K hu) (lv 10) (lv 11) (fun _ _ => rfl)) (lop lo_shl lint (lv 12))) (lg_sub (lv 10) (lv 11) (lset_ok hu)))) lss_nil))))
      (lss_cons (ls_asg (lv 10) (lg_sub (lv 4) lint (lset_ok hu)))
      (lss_cons (ls_asg (llst (la_cons lint (la_cons lint (la_cons lint (la_cons lint (la_cons lint (la_cons lint (la_cons lint (la_cons lint la_nil))))))))) (lg_sub (lv 4) lint (lset_ok hu)))
      (lss_cons (ls_set 13 sc__law_sound.nd (lsortLam (k := 1) (a := "_law_s") (caps := [("_law_cell_here", 1)]) K (lamQ "_law_sound") [1] TB rfl (hr.mono (by decide)) rfl T.n_sorted (lamS1_by (sc := defScope s__law_sound) (by decide +kernel)) (capsOk_by (N := ["_law_layout_here", "_law_cell_here", "_law_many", "_law_first", "_law_volume", "_law_block", "_law_kinds_here", "_law_slots_here", "_law_free", "_law_head", "_law_bits", "_law_k", "_law_i", "_law_spots", "_law_s", "_law_one"]) (by decide +kernel)) rfl (fun _ _ _ _ _ _ => by rfl) (lcallTy (lk_listR rfl) (by rfl) T.n_list (by decide +kernel) (la_cons (lcallTy lk_range1 (by rfl) T.n_range (by decide +kernel) (la_cons (lop lo_mul lint (kfld K (lv 0))) la_nil)) la_nil)) (fun A outer s H E f c2 hr => (lcallO G__law_mixed (hr.mono (by decide)) rfl (la_cons (lv 1) (la_cons (lop (ko_add K) lint (lv 0)) la_nil))))))
      (lss_cons (ls_for PassesOwn.never rfl (li_range1 rfl T.n_range (la_cons (lop lo_mul lint (kfld K (lv 0))) la_nil)) (lg_name 14 sc__law_sound.nd) (lss_one (ls_asg lint (lg_sub (lix (kx_ix K hu) (lv 4) (lop (ko_add K) (lop (ko_add K) lint (kfld K (lv 0))) (lop lo_div (lv 14) lint)) (fun _ _ => rfl)) (lop lo_mul (lop lo_mod (lv 14) lint) lint) (lset_ok hu)))))
      (lss_cons (ls_for PassesOwn.never rfl (ki_zip K rfl T.n_zip (la_cons (lv 13) (la_cons (lv 7) la_nil))) (kg_tup K (n := 2) rfl (lgs_cons (lg_name 14 sc__law_sound.nd) (lgs_cons (lg_name 15 sc__law_sound.nd) lgs_nil))) (lss_one (ls_asg (llst (la_cons lint (la_cons (lix (kx_ix K hu) (lv 15) lint (fun _ _ => rfl)) (la_cons (lix (kx_ix K hu) (lv 15) lint (fun _ _ => rfl)) (la_cons (lix (kx_ix K hu) (lv 15) lint (fun _ _ => rfl)) la_nil))))) (lg_setsl (lix (kx_ix K hu) (lv 4) (lop (ko_add K) (lop (ko_add K) lint (kfld K (lv 0))) (lop lo_div (lv 14) lint)) (fun _ _ => rfl)) (lo_some (lop lo_mul (lop lo_mod (lv 14) lint) lint)) (lo_some (lop (ko_add K) (lop lo_mul (lop lo_mod (lv 14) lint) lint) lint))))))
      (lss_one (ls_ret (ltup (la_cons (lv 4) (la_cons (lv 6) (la_cons (lv 7) la_nil))))))))))))))))))))))))), fun vs L Q EL σ h hσ => ?_⟩), F.bindsN (fun _ _ _ _ _ _ us hl => match us, hl with | [_, _], _ => rfl), F.kp⟩
  obtain ⟨x0, x1, rfl, h⟩ := h
  have hσ : ([some x0, some x1, none, none, none, none, none, none, none, none, none, none, none, none, none, none] : St) = σ := hσ
  subst hσ
  clear hσ hu hr F
  clear G__law_mixed G__law_check G__law_records G__law_slots G__law_kinds
  have t_cl_Layout := T.cl_Layout
  have t_na_Layout_files := T.na_Layout_files
  have t_na_Layout_slots := T.na_Layout_slots
  have t_na_Layout_data := T.na_Layout_data
  obtain ⟨q, dx, F, E, B, n, C, C2, R, rfl, rfl, rfl, hb, hm, hT, hT2, h⟩ := h
  have hb' := hb
  unfold inB at hb'
  walk_at "w"
  rename_i VV
  refine' fr_1 (k0 := 5) (fun i L' => ∃ (as : List Addr) (rows : List (List Int)), L' = volC VV as rows :: C :: C2 :: R ∧ as.length = rows.length ∧ rows.length = i ∧ ∀ r ∈ rows, r.length = 8) ?a0 ?as ?ad
  case a0 => exact Wk.by_ (L' := volC VV [] [] :: C :: C2 :: R) (by walk_at "lic") ⟨[], [], rfl, rfl, rfl, fun r hr => by cases hr⟩
  case as =>
    rintro i a0 L' hi ⟨as, rows, rfl, hl, hn, h8⟩
    walk_at "sl"
    walk_at "w"
    exact Wk.go ⟨rfl, _, _, rfl, by simp [hl], by simp [hn], fun r hr => by
      rcases List.mem_append.mp hr with hr | hr
      · exact h8 r hr
      · rw [List.mem_singleton.mp hr]; simp⟩
  rintro a0 L' ⟨as, rows, rfl, hl, hn, h8⟩
  have hkd := kindsM_ok (c := n) (F := F) (by omega)
  have hnk := hkd.len
  walk_at "sl"
  walk_at "w"
  rename_i kp
  refine' c_law_slots (F := F) (E := E) (kds := kindsM n (F - 1).toNat) hT2 ?t2 hkd (by omega) (by omega) ?t6 (fun C2' sp d ts rk hT2' hd hok hrk hts => ?_)
  case t2 => walk_at "pull"
  case t6 => walk_at "at"
  generalize kindsM n (F - 1).toNat = kds at *
  have h33 := hok.l3
  walk_at "w"
  refine s_sortLam ?_
  walk_at "w"
  rename_i D0
  have fs1 : ∀ x ∈ List.map (fun i : Nat => 10 + F + E + B - B + (i : Int)) (List.range B.toNat), 10 + F + E ≤ x ∧ x < 10 + F + E + B := fun x hx => by
    obtain ⟨k, hk, rfl⟩ := List.mem_map.mp hx
    have := List.mem_range.mp hk
    omega
  have fs2 : (List.map (fun i : Nat => 10 + F + E + B - B + (i : Int)) (List.range B.toNat)).length ≤ 40 := by
    rw [List.length_map, List.length_range]
    omega
  generalize List.map (fun i : Nat => 10 + F + E + B - B + (i : Int)) (List.range B.toNat) = fs0 at *
  refine Wk.go ?_
  refine' s_sortK (ns := fs0) (fun b => mixM n (500 + b)) ?h1 hT ?hx ?hk ?hd
  case h1 => walk_at "pull"
  case hx => intro C'; walk_at "isl"
  case hk =>
    intro C' f hf
    simp only [List.map_cons, List.map_nil, List.getElem?_cons_zero, List.getElem?_cons_succ, Option.join_some]
    walk_at "w"
    exact ⟨rfl, .refl⟩
  intro C' fp hT'
  have hp := sortK_perm (fun b => mixM n (500 + b)) fs0
  generalize sortK (fun b => mixM n (500 + b)) fs0 = fs at *
  have fs3 : ∀ x ∈ fs, 10 + F + E ≤ x ∧ x < 10 + F + E + B := fun x hx => fs1 x (hp.mem_iff.mp hx)
  have fs4 : fs.length ≤ 40 := by rw [hp.length_eq]; exact fs2
  have hn' : (rows.length : Int) = 10 + F + E + B := by omega
  walk_at "w"
  rename_i as1 R1 fr gl gn g8 gfr gfl grec gfra hq1 ck hq2 hq3 hq4 BT
  have gn1 : (R1.length : Int) = 10 + F + E + B := by omega
  have grec2 := recs_set (b := 1) (r := rowAt (R1.set (Int.toNat 0) ([1179, n % 1000000000000, F, E, B, 0, 0] ++ [ck])) 0) (recs_set (b := 0) (r := [1179, n % 1000000000000, F, E, B, 0, 0] ++ [ck]) grec (by omega) (by omega) (by omega) (by omega) (by omega)) (by omega) (by rw [List.length_set]; omega) (by omega) (by omega) (by omega)
  have g82 : ∀ r ∈ (R1.set (Int.toNat 0) ([1179, n % 1000000000000, F, E, B, 0, 0] ++ [ck])).set (Int.toNat 1) (rowAt (R1.set (Int.toNat 0) ([1179, n % 1000000000000, F, E, B, 0, 0] ++ [ck])) 0), r.length = 8 := by
    refine set_8 (set_8 g8 rfl) ?_
    exact rowAt_len (set_8 g8 rfl) (by omega) (by rw [List.length_set]; omega)
  have gl2 : ((as1.set (Int.toNat 0) hq3).set (Int.toNat 1) hq4).length = ((R1.set (Int.toNat 0) ([1179, n % 1000000000000, F, E, B, 0, 0] ++ [ck])).set (Int.toNat 1) (rowAt (R1.set (Int.toNat 0) ([1179, n % 1000000000000, F, E, B, 0, 0] ++ [ck])) 0)).length := by
    simp only [List.length_set]; exact gl
  have gn2 : (((R1.set (Int.toNat 0) ([1179, n % 1000000000000, F, E, B, 0, 0] ++ [ck])).set (Int.toNat 1) (rowAt (R1.set (Int.toNat 0) ([1179, n % 1000000000000, F, E, B, 0, 0] ++ [ck])) 0)).length : Int) = 10 + F + E + B := by
    simp only [List.length_set]; exact gn1
  have grec3 : ∀ f, 0 ≤ f → f < F → RecOk (10 + F + E) (10 + F + E + B) kds ts ((R1.set (Int.toNat 0) ([1179, n % 1000000000000, F, E, B, 0, 0] ++ [ck])).set (Int.toNat 1) (rowAt (R1.set (Int.toNat 0) ([1179, n % 1000000000000, F, E, B, 0, 0] ++ [ck])) 0)) f := grec2
  clear grec2 grec gn1 gl gn g8 gfra
  generalize (R1.set (Int.toNat 0) ([1179, n % 1000000000000, F, E, B, 0, 0] ++ [ck])).set (Int.toNat 1) (rowAt (R1.set (Int.toNat 0) ([1179, n % 1000000000000, F, E, B, 0, 0] ++ [ck])) 0) = R2 at *
  generalize (as1.set (Int.toNat 0) hq3).set (Int.toNat 1) hq4 = as2 at *
  refine' frn_3 (k0 := 5) (k1 := 11) (k2 := 12) (fun i L' => ∃ us : List Int, us.length = 8 ∧ L' = [(BT, HO.lst (us.map V.int))] :: volC VV as2 R2 :: [(fp, HO.lst (fr.map V.int))] :: C' :: d :: C2' :: [(kp, HO.lst (kds.map V.int))] :: R) ?b0 ?bs ?bd
  case b0 => exact Wk.by_ (L' := [(BT, HO.lst [V.int 0, V.int 0, V.int 0, V.int 0, V.int 0, V.int 0, V.int 0, V.int 0])] :: volC VV as2 R2 :: [(fp, HO.lst (fr.map V.int))] :: C' :: d :: C2' :: [(kp, HO.lst (kds.map V.int))] :: R) (by walk_at "lic") ⟨[0, 0, 0, 0, 0, 0, 0, 0], rfl, rfl⟩
  case bs =>
    rintro i a1 a2 a3 L' hi ⟨us, hus, rfl⟩
    walk_at "sl"
    walk_at "w"
    all_goals walk_at "g1"
    · exact Wk.by_ (L' := [(BT, HO.lst (us.map V.int))] :: volC VV as2 R2 :: [(fp, HO.lst (fr.map V.int))] :: C' :: d :: C2' :: [(kp, HO.lst (kds.map V.int))] :: R) (by walk_at "lic") ⟨rfl, us, hus, rfl⟩
    · exact Wk.by_ (L' := [(BT, HO.lst (List.map V.int _))] :: volC VV as2 R2 :: [(fp, HO.lst (fr.map V.int))] :: C' :: d :: C2' :: [(kp, HO.lst (kds.map V.int))] :: R) (by walk_at "lic") ⟨rfl, _, by rw [List.length_set]; exact hus, rfl⟩
  rintro a1 a2 a3 L' ⟨us, hus, rfl⟩
  walk_at "sl"
  walk_at "w"
  refine s_sortLam ?_
  walk_at "w"
  rename_i b3 s1 s2
  have grec4 : ∀ f, 0 ≤ f → f < F → RecOk (10 + F + E) (10 + F + E + B) kds ts ((R2.set (Int.toNat 2) us).set (Int.toNat 3) [0, 0, 0, 0, 0, 0, 0, 0]) f := recs_set (b := 3) (r := [0, 0, 0, 0, 0, 0, 0, 0]) (recs_set (b := 2) (r := us) grec3 (by omega) (by omega) (by omega) (by omega) (by omega)) (by omega) (by rw [List.length_set]; omega) (by omega) (by omega) (by omega)
  have g84 : ∀ r ∈ (R2.set (Int.toNat 2) us).set (Int.toNat 3) [0, 0, 0, 0, 0, 0, 0, 0], r.length = 8 := set_8 (set_8 g82 hus) rfl
  have gl4 : ((as2.set (Int.toNat 2) BT).set (Int.toNat 3) b3).length = ((R2.set (Int.toNat 2) us).set (Int.toNat 3) [0, 0, 0, 0, 0, 0, 0, 0]).length := by
    simp only [List.length_set]; exact gl2
  have gn4 : (((R2.set (Int.toNat 2) us).set (Int.toNat 3) [0, 0, 0, 0, 0, 0, 0, 0]).length : Int) = 10 + F + E + B := by
    simp only [List.length_set]; exact gn2
  generalize (R2.set (Int.toNat 2) us).set (Int.toNat 3) [0, 0, 0, 0, 0, 0, 0, 0] = R4 at *
  generalize (as2.set (Int.toNat 2) BT).set (Int.toNat 3) b3 = as4 at *
  have rg1 : ∀ x ∈ rngL 0 (2 * E - 0).toNat, 0 ≤ x ∧ x < 2 * E := fun x hx => by
    have := mem_rngL.mp hx
    omega
  have rg2 : (rngL 0 (2 * E - 0).toNat).Nodup := by
    unfold rngL
    rw [List.nodup_iff_pairwise_ne, List.pairwise_map]
    exact List.Pairwise.imp (fun {a b} h => by omega) List.pairwise_lt_range
  have rg3 : ((rngL 0 (2 * E - 0).toNat).length : Int) = 2 * E := by rw [rngL_len]; omega
  generalize rngL 0 (2 * E - 0).toNat = rg at *
  refine' s_sortK (ns := rg) (fun b => mixM n (600 + b)) ?y1 hT' ?yx ?yk ?yd
  case y1 => walk_at "pull"
  case yx => intro C'; walk_at "isl"
  case yk =>
    intro C' f hf
    simp only [List.map_cons, List.map_nil, List.getElem?_cons_zero, List.getElem?_cons_succ, Option.join_some]
    walk_at "w"
    exact ⟨rfl, .refl⟩
  clear hT'
  intro C' SP hT'
  have hq := sortK_perm (fun b => mixM n (600 + b)) rg
  generalize sortK (fun b => mixM n (600 + b)) rg = sps at *
  have sp1 : ∀ x ∈ sps, 0 ≤ x ∧ x < 2 * E := fun x hx => rg1 x (hq.mem_iff.mp hx)
  have sp2 : sps.Nodup := hq.nodup_iff.mpr rg2
  have sp3 : (sps.length : Int) = 2 * E := by rw [hq.length_eq]; exact rg3
  walk_at "w"
  refine' fr_1 (k0 := 14) (fun i L' => ∃ (as : List Addr) (R5 : List (List Int)), L' = [(SP, HO.lst (sps.map V.int))] :: volC VV as R5 :: C' :: d :: C2' :: [(kp, HO.lst (kds.map V.int))] :: R ∧ as.length = R5.length ∧ (R5.length : Int) = 10 + F + E + B ∧ (∀ r ∈ R5, r.length = 8) ∧ (∀ f, 0 ≤ f → f < F → RecOk (10 + F + E) (10 + F + E + B) kds ts R5 f) ∧ ∀ s : Int, 0 ≤ s → s < (i : Int) → slG F R5 s 0 = 0) ?c0 ?cs ?cd
  case c0 => exact Wk.by_ (by walk_at "lic") ⟨as4, R4, rfl, gl4, gn4, g84, grec4, fun s s0 s1 => by omega⟩
  case cs =>
    rintro i c0 L' hi ⟨as5, R5, rfl, hl5, hn5, h85, hr5, hs5⟩
    have hr := rowAt_len h85 (j := 10 + F + (i : Int) / 2) (by omega) (by omega)
    have eput : putAt R5 (10 + F + (i : Int) / 2) ((i : Int) % 2 * 4).toNat 0 = putAt R5 (10 + F + (i : Int) / 2) ((i : Int) % 2 * 4 + ((0 : Nat) : Int)).toNat 0 := by simp
    walk_at "sl"
    walk_at "w"
    refine Wk.go ⟨rfl, as5, _, rfl, by rw [putAt_len]; exact hl5, by rw [putAt_len]; exact hn5, by walk_at "a8", recs_keep hr5 (by omega) (fun j hj hc => put_ne (by omega) (by omega) hj (by omega)), fun s s0 s1 => ?_⟩
    rw [eput, slG_put h85 (by omega) s0 (by omega) (by omega) (by decide) (by decide)]
    by_cases e : s = (i : Int)
    · rw [if_pos ⟨e, rfl⟩]
    · rw [if_neg (fun z => e z.1)]
      exact hs5 s s0 (by omega)
  rintro c0 L' ⟨as5, R5, rfl, hl5, hn5, h85, hr5, hs5⟩
  obtain ⟨CD, xs, rfl, hta⟩ := id hd
  have hxl : xs.length = ts.length := by rw [hta.len, List.length_map]
  walk_at "sl"
  walk_at "w"
  refine s_zipv (by walk_at "isl") (IsL.at_ (At.mem (c := (sp, HO.lst xs) :: CD) (by walk_at "mem") List.mem_cons_self)) ?_
  refine' fz_2 (k0 := 14) (k1 := 15) (fun i L' => ∃ (as : List Addr) (R6 : List (List Int)), L' = [(SP, HO.lst (sps.map V.int))] :: volC VV as R6 :: C' :: ((sp, HO.lst xs) :: CD) :: C2' :: [(kp, HO.lst (kds.map V.int))] :: R ∧ as.length = R6.length ∧ (R6.length : Int) = 10 + F + E + B ∧ (∀ r ∈ R6, r.length = 8) ∧ (∀ f, 0 ≤ f → f < F → RecOk (10 + F + E) (10 + F + E + B) kds ts R6 f) ∧
      (∀ (k : Nat) (r : List Int), k < i → ts[k]? = some r → ∃ s, sps[k]? = some s ∧ slG F R6 s 0 = 1 ∧ slG F R6 s 1 = r.getD 0 0 ∧ slG F R6 s 2 = r.getD 1 0 ∧ slG F R6 s 3 = r.getD 2 0) ∧ ∀ s : Int, 0 ≤ s → s < 2 * E → s ∉ sps.take i → slG F R6 s 0 = 0) ?d0 ?dG ?ds ?dd
  case d0 => exact Wk.go ⟨as5, R5, rfl, hl5, hn5, h85, hr5, fun k r hk => by omega, fun s s0 s1 _ => hs5 s s0 (by omega)⟩
  case dG => rintro i L' ⟨as6, R6, rfl, _⟩; exact ⟨by walk_at "isl", IsL.at_ (At.mem (c := (sp, HO.lst xs) :: CD) (by walk_at "mem") List.mem_cons_self)⟩
  case ds =>
    clear hl5 hn5 h85 hr5 hs5
    rintro i u v tp d0 d1 L' hu hv ⟨as6, R6, rfl, hl6, hn6, h86, hr6, hy6, hs6⟩
    obtain ⟨r, tt, hr, rfl, m⟩ := hta.tup hv
    obtain ⟨x0, x1, x2, rfl⟩ := list3 (h33 r (List.mem_of_getElem? hr))
    rw [List.getElem?_map] at hu
    obtain ⟨s, hs, rfl⟩ := Option.map_eq_some_iff.mp hu
    have hsr := sp1 s (List.mem_of_getElem? hs)
    have hrw := rowAt_len h86 (j := 10 + F + s / 2) (by omega) (by omega)
    have hm4 : ∀ {L : Lg}, ((sp, HO.lst xs) :: CD) ∈ L → At L tt (.tup [.int x0, .int x1, .int x2]) := fun hmm => At.mem hmm (List.mem_cons_of_mem _ m)
    have hm5 : At ([(tp, HO.tup [V.int s, V.ref tt])] :: [(SP, HO.lst (sps.map V.int))] :: volC VV as6 R6 :: C' :: ((sp, HO.lst xs) :: CD) :: C2' :: [(kp, HO.lst (kds.map V.int))] :: R) tt (.tup [.int x0, .int x1, .int x2]) := hm4 (by walk_at "mem")
    walk_at "sl"
    walk_at "w"
    rename_i y
    refine s_setsl_row (a := (s % 2 * 4).toNat) (c := (s % 2 * 4 + 4).toNat) (ms := [1, x0, x1, x2]) .hd (IntsV.map (ns := [1, x0, x1, x2])) (.tl (.tl Rp.hd)) hl6 (by omega) (by omega) (by congr 1; omega) (.inl (by congr 1; omega)) (by omega) (by omega) (by simp only [List.length_cons, List.length_nil]; omega) ?_
    walk_at "g1"
    have hcut : ∀ s' : Int, 0 ≤ s' → ∀ j', j' < 4 → slG F (R6.set (10 + F + s / 2).toNat ((rowAt R6 (10 + F + s / 2)).take (s % 2 * 4).toNat ++ [1, x0, x1, x2] ++ (rowAt R6 (10 + F + s / 2)).drop (s % 2 * 4 + 4).toNat)) s' j' = if s' = s then ([1, x0, x1, x2] : List Int).getD j' 0 else slG F R6 s' j' := fun s' hs' j' hj' => slG_cutset h86 hsr.1 hs' (by omega) (by omega) rfl hj'
    refine Wk.by_ (L' := [(SP, HO.lst (sps.map V.int))] :: volC VV as6 (R6.set (10 + F + s / 2).toNat ((rowAt R6 (10 + F + s / 2)).take (s % 2 * 4).toNat ++ [1, x0, x1, x2] ++ (rowAt R6 (10 + F + s / 2)).drop (s % 2 * 4 + 4).toNat)) :: C' :: ((sp, HO.lst xs) :: CD) :: C2' :: [(kp, HO.lst (kds.map V.int))] :: R) (by walk_at "lic") ⟨rfl, as6, _, rfl, by rw [List.length_set]; exact hl6, by rw [List.length_set]; exact hn6, set_8 h86 (by simp only [List.length_append, List.length_take, List.length_drop, List.length_cons, List.length_nil]; omega), recs_set hr6 (by omega) (by omega) (by omega) (by omega) (by omega), fun k r hk hkr => ?_, fun s' h0' h1' hns => ?_⟩
    · by_cases e : k = i
      · subst e
        rw [hr] at hkr
        rw [← Option.some.inj hkr]
        exact ⟨s, hs, by rw [hcut s hsr.1 0 (by decide), if_pos rfl]; rfl, by rw [hcut s hsr.1 1 (by decide), if_pos rfl]; rfl, by rw [hcut s hsr.1 2 (by decide), if_pos rfl]; rfl, by rw [hcut s hsr.1 3 (by decide), if_pos rfl]; rfl⟩
      · obtain ⟨s', e1, e2, e3, e4, e5⟩ := hy6 k r (by omega) hkr
        have hs' := sp1 s' (List.mem_of_getElem? e1)
        have hne : ¬ s' = s := fun z => by
          subst z
          exact e ((List.getElem?_inj (List.getElem?_eq_some_iff.mp e1).1 sp2).mp (e1.trans hs.symm))
        exact ⟨s', e1, by rw [hcut s' hs'.1 0 (by decide), if_neg hne]; exact e2, by rw [hcut s' hs'.1 1 (by decide), if_neg hne]; exact e3, by rw [hcut s' hs'.1 2 (by decide), if_neg hne]; exact e4, by rw [hcut s' hs'.1 3 (by decide), if_neg hne]; exact e5⟩
    · rw [List.take_succ, hs] at hns
      have h1 : ¬ s' = s := fun z => hns (by rw [z]; simp)
      rw [hcut s' h0' 0 (by decide), if_neg h1]
      exact hs6 s' h0' h1' (fun z => hns (List.mem_append_left _ z))
  clear hl5 hn5 h85 hr5 hs5
  rintro d0 d1 L' ⟨as6, R6, rfl, hl6, hn6, h86, hr6, hy6, hs6⟩
  have hmin : min (sps.map V.int).length xs.length = ts.length := by rw [List.length_map, hxl]; omega
  rw [hmin] at hy6 hs6
  have htl := tl_of (B := B) hok sp1 sp2 (by omega) (fun k r hk => hy6 k r (List.getElem?_eq_some_iff.mp hk).1 hk) hs6
  walk_at "sl"
  walk_at "w"
  rename_i T
  walk_at "g1"
  exact Wk.by_ (L' := [(T, HO.tup [V.ref VV, V.ref kp, V.ref sp])] :: volC VV as6 R6 :: [(kp, HO.lst (kds.map V.int))] :: ((sp, HO.lst xs) :: CD) :: C' :: C2' :: R) (by walk_at "lic") (h C' C2' T VV kp sp as6 R6 kds _ ts rk hT' hT2' hl6 hd ⟨hkd, hok, hts, hrk, hn6, h86, hr6, htl⟩)
theorem ok_Layout___init__ (T : Txt K mg) {f : Addr} (FF : ∃ fd, FunD K "__init__" "Layout.__init__" (defArgs s_Layout___init__) (defBody s_Layout___init__) (defScope s_Layout___init__) ([] : List V) [] f fd) : OkM P w K mg base 1 f ["self", "files", "slots", "data"] (sp_Layout___init__ K) := by
  obtain ⟨fd, F⟩ := FF
  refine ⟨fd, fn_ok2 F sc_Layout___init__ (len4 rfl) (fun cdv A outer s H E hr => have hu := hr.units; ⟨_, ((lss_cons (ls_if (LW.pt (lw_or (lt_cmp lo_lt (lv 1) lint (nomark _)) (lw_or (lt_cmp lo_gt (lv 1) lint (nomark _)) (lw_or (lt_cmp lo_lt (lv 2) lint (nomark _)) (lw_or (lt_cmp lo_gt (lv 2) lint (nomark _)) (lw_or (lt_cmp lo_lt (lv 3) lint (nomark _)) (lw_or1 (lt_cmp lo_gt (lv 3) lint (nomark _))))))))) (lss_one ls_never) lss_nil)
      (lss_cons (ks_fld K (lv 0) (lv 1))
      (lss_cons (ks_fld K (lv 0) (lv 2))
      (lss_one (ks_fld K (lv 0) (lv 3))))))), fun vs L Q EL σ h hσ => ?_⟩), F.bindsN (fun _ _ _ _ _ _ us hl => match us, hl with | [_, _, _, _], _ => rfl), F.kp⟩
  obtain ⟨x0, x1, x2, x3, rfl, h⟩ := h
  have hσ : ([some x0, some x1, some x2, some x3] : St) = σ := hσ
  subst hσ
  clear hσ hu hr F
  have t_cl_Layout := T.cl_Layout
  have t_na_Layout_files := T.na_Layout_files
  have t_na_Layout_slots := T.na_Layout_slots
  have t_na_Layout_data := T.na_Layout_data
  obtain ⟨p, dx, F, E, B, L1, rfl, rfl, rfl, rfl, ⟨h1, h2, h3, h4, h5, h6⟩, rfl, h⟩ := h
  walk_at "w"
  exact Wk.go (Wk.go h)
theorem ok__law_layout (T : Txt K mg) (G__law_mixed : OkF P w K mg base 1 "_law_mixed" ["_law_cell_here", "_law_k"] (sp__law_mixed K)) (G__law_cell : OkF P w K mg base 1 "_law_cell" ["_law_script", "_law_k"] (sp__law_cell K)) (G_Layout___init__ : OkM P w K mg base 1 (He.ma K (He.ga K "Layout") "__init__") ["self", "files", "slots", "data"] (sp_Layout___init__ K)) : OkF P w K mg base 3 "_law_layout" ["_law_script"] (sp__law_layout K) := by
  obtain ⟨fd, F⟩ := T.f__law_layout
  refine ⟨T.g__law_layout, fd, fn_ok2 F sc__law_layout (len1 rfl) (fun cdv A outer s H E hr => have hu := hr.units; ⟨_, ((lss_cons (ls_set 1 sc__law_layout.nd (lop (ko_add K) lint (lop lo_mod (lcallO G__law_mixed (hr.mono (by decide)) rfl (la_cons (lcallO G__law_cell (hr.mono (by decide)) rfl (la_cons (lv 0) (la_cons lint la_nil))) (la_cons lint la_nil))) lint)))
      (lss_cons (ls_set 2 sc__law_layout.nd (lop (ko_add K) lint (lop lo_mod (lcallO G__law_mixed (hr.mono (by decide)) rfl (la_cons (lcallO G__law_cell (hr.mono (by decide)) rfl (la_cons (lv 0) (la_cons lint la_nil))) (la_cons lint la_nil))) lint)))
      (lss_cons (ls_set 3 sc__law_layout.nd (lop (ko_add K) lint (lop lo_mod (lcallO G__law_mixed (hr.mono (by decide)) rfl (la_cons (lcallO G__law_cell (hr.mono (by decide)) rfl (la_cons (lv 0) (la_cons lint la_nil))) (la_cons lint la_nil))) lint)))
      (lss_one (ls_ret (lmakeO T.mk_Layout T.gc_Layout G_Layout___init__ (hr.mono (by decide)) rfl (la_cons (lv 1) (la_cons (lv 2) (la_cons (lv 3) la_nil)))))))))), fun vs L Q EL σ h hσ => ?_⟩), F.bindsN (fun _ _ _ _ _ _ us hl => match us, hl with | [_], _ => rfl), F.kp⟩
  obtain ⟨x0, rfl, h⟩ := h
  have hσ : ([some x0, none, none, none] : St) = σ := hσ
  subst hσ
  clear hσ hu hr F
  clear G__law_mixed G__law_cell G_Layout___init__
  have t_cl_Layout := T.cl_Layout
  have t_na_Layout_files := T.na_Layout_files
  have t_na_Layout_slots := T.na_Layout_slots
  have t_na_Layout_data := T.na_Layout_data
  obtain ⟨c, p, ns, rfl, hS, hc, h⟩ := h
  walk_at "w"
  exact Wk.go (h _ _ _ _ _ (by unfold inB; omega) (by omega))
theorem ok_law {fd : FuncData} (F : FunD K "law" "law" (defArgs s_law) (defBody s_law) (defScope s_law) [] [] (He.ga K "law") fd) (T : Txt K mg) (G__law_refused : OkF P w K mg base 9 "_law_refused" ["_law_layout_here", "_law_volume", "_law_path_here"] (sp__law_refused K)) (G__law_list : OkF P w K mg base 9 "_law_list" ["_law_layout_here", "_law_volume", "_law_path_here", "_law_due"] (sp__law_list K)) (G__law_path : OkF P w K mg base 1 "_law_path" ["_law_slots_here", "_law_f", "_law_cell_here"] (sp__law_path K)) (G__law_mixed : OkF P w K mg base 1 "_law_mixed" ["_law_cell_here", "_law_k"] (sp__law_mixed K)) (G__law_cell : OkF P w K mg base 1 "_law_cell" ["_law_script", "_law_k"] (sp__law_cell K)) (G__law_sound : OkF P w K mg base 6 "_law_sound" ["_law_layout_here", "_law_cell_here"] (sp__law_sound K)) (G__law_layout : OkF P w K mg base 3 "_law_layout" ["_law_script"] (sp__law_layout K)) : FnOk P w K mg base CX0 10 (He.ga K "law") fd ["_law_script"] (UpP (sp_law K)) := by
  refine fn_ok2 F sc_law (len1 rfl) (fun cdv A outer s H E hr => have hu := hr.units; ⟨_, ((lss_cons (ls_set 1 sc_law.nd (lcallO G__law_layout (hr.mono (by decide)) rfl (la_cons (lv 0) la_nil)))
      (lss_cons (ls_asg (lcallO G__law_sound (hr.mono (by decide)) rfl (la_cons (lv 1) (la_cons (lcallO G__law_cell (hr.mono (by decide)) rfl (la_cons (lv 0) (la_cons lint la_nil))) la_nil))) (kg_tup K (n := 3) rfl (lgs_cons (lg_name 2 sc_law.nd) (lgs_cons (lg_name 3 sc_law.nd) (lgs_cons (lg_name 4 sc_law.nd) lgs_nil)))))
      (lss_cons (ls_setLc (vs := [11]) 5 rfl sc_law.nd rfl rfl (sw_true rfl rfl rfl (by decide +kernel)) (ki_list K (lv 2)) (blkOk_by (own := [("_law_row", 11)]) (N := ["_law_script", "_law_layout_here", "_law_volume", "_law_kinds_here", "_law_slots_here", "_law_handed", "_law_f", "_law_path_here", "_law_names", "_law_kept", "_law_due", "_law_row", "_law_one"]) (sc := defScope s_law) (by decide +kernel)) (fun _ _ _ _ _ => (lg_name 11 sc_law.nd)) (fun _ _ _ _ _ => lts_nil) (fun _ _ _ _ _ => (lcallTy (kk_list K) (by rfl) T.n_list (by decide +kernel) (la_cons (lv 11) la_nil))))
      (lss_cons (ls_for PassesOwn.never rfl (li_range1 rfl T.n_range (la_cons (kfld K (lv 1)) la_nil)) (lg_name 6 sc_law.nd) (lss_cons (ls_set 7 sc_law.nd (lcallO G__law_path (hr.mono (by decide)) rfl (la_cons (lv 4) (la_cons (lv 6) (la_cons (lcallO G__law_mixed (hr.mono (by decide)) rfl (la_cons (lcallO G__law_cell (hr.mono (by decide)) rfl (la_cons (lv 0) (la_cons lint la_nil))) (la_cons (lv 6) la_nil))) la_nil)))))
      (lss_cons (ls_set 8 sc_law.nd (lcallB (kk_sorted K) (by rfl) T.n_sorted (by decide +kernel) (la_cons (llc (vs := [12]) rfl sc_law.nd (ki_list K (lv 4)) (blkOk_by (own := [("_law_one", 12)]) (N := ["_law_script", "_law_layout_here", "_law_volume", "_law_kinds_here", "_law_slots_here", "_law_handed", "_law_f", "_law_path_here", "_law_names", "_law_kept", "_law_due", "_law_row", "_law_one"]) (sc := defScope s_law) (by decide +kernel)) (fun _ _ _ _ _ => (lg_name 12 sc_law.nd)) (fun _ _ _ _ _ => (lts_one (lt_cmp (ko_eq K hu) (lix (kx_ix K hu) (lv 12) lint (fun _ _ => rfl)) (lv 6) (nomark _)))) (fun _ _ _ _ _ => (lix (kx_ix K hu) (lv 12) lint (fun _ _ => rfl)))) la_nil)))
      (lss_cons (ls_if (LW.pt (lw_and (lt_cmp (ko_eq K hu) (lix (kx_ix K hu) (lv 3) (lv 6) (fun _ _ => rfl)) lint (nomark _)) (lw_and1 (lt_not (kt_truth K (lcallO G__law_list (hr.mono (by decide)) rfl (la_cons (lv 1) (la_cons (lv 5) (la_cons (lv 7) (la_cons (lv 8) la_nil)))))))))) (lss_one (ls_ret lbl)) lss_nil)
      (lss_one (ls_if (lt_cmp (ko_eq K hu) (lix (kx_ix K hu) (lv 3) (lv 6) (fun _ _ => rfl)) lint (nomark _)) (lss_cons (ls_if (lt_cmp (ko_ne K hu) (lcallO G__law_refused (hr.mono (by decide)) rfl (la_cons (lv 1) (la_cons (lv 5) (la_cons (lv 7) la_nil)))) lstr (nomark _)) (lss_one (ls_ret lbl)) lss_nil)
      (lss_one (ls_if (lt_cmp (ko_ne K hu) (lcallO G__law_refused (hr.mono (by decide)) rfl (la_cons (lv 1) (la_cons (lv 5) (la_cons (lop (ko_addA K) (lv 7) (ltup (la_cons lint la_nil))) la_nil)))) lstr (nomark _)) (lss_one (ls_ret lbl)) lss_nil))) lss_nil))))))
      (lss_cons (ls_set 9 sc_law.nd (llc (vs := [12]) rfl sc_law.nd (ki_list K (lv 4)) (blkOk_by (own := [("_law_one", 12)]) (N := ["_law_script", "_law_layout_here", "_law_volume", "_law_kinds_here", "_law_slots_here", "_law_handed", "_law_f", "_law_path_here", "_law_names", "_law_kept", "_law_due", "_law_row", "_law_one"]) (sc := defScope s_law) (by decide +kernel)) (fun _ _ _ _ _ => (lg_name 12 sc_law.nd)) (fun _ _ _ _ _ => lts_nil) (fun _ _ _ _ _ => (lix (kx_ix K hu) (lv 12) lint (fun _ _ => rfl)))))
      (lss_cons (ls_setLc (vs := [6]) 10 rfl sc_law.nd rfl rfl (sw_true rfl rfl rfl (by decide +kernel)) (li_range2 rfl T.n_range (la_cons lint (la_cons (kfld K (lv 1)) la_nil))) (blkOk_by (own := [("_law_f", 6)]) (N := ["_law_script", "_law_layout_here", "_law_volume", "_law_kinds_here", "_law_slots_here", "_law_handed", "_law_f", "_law_path_here", "_law_names", "_law_kept", "_law_due", "_law_row", "_law_one"]) (sc := defScope s_law) (by decide +kernel)) (fun _ _ _ _ _ => (lg_name 6 sc_law.nd)) (fun _ _ _ _ _ => (lts_one (LW.pt (lw_and (lt_cmp lo_gt (lix (kx_ix K hu) (lv 3) (lv 6) (fun _ _ => rfl)) lint (nomark _)) (lw_and1 (lt_cmp (ko_notIn K hu) (lv 6) (lv 9) (by rfl))))))) (fun _ _ _ _ _ => (lv 6)))
      (lss_cons (ls_if (lt_not (kt_truth K (lcallO G__law_list (hr.mono (by decide)) rfl (la_cons (lv 1) (la_cons (lv 5) (la_cons (ltup (la_cons lint la_nil)) (la_cons (lv 10) la_nil))))))) (lss_one (ls_ret lbl)) lss_nil)
      (lss_cons (ls_for PassesOwn.never rfl (li_range1 rfl T.n_range (la_cons (kfld K (lv 1)) la_nil)) (lg_name 6 sc_law.nd) (lss_one (ls_if (LW.pt (lw_and (lt_cmp (ko_notIn K hu) (lv 6) (lv 10) (by rfl)) (lw_and1 (lt_cmp (ko_ne K hu) (lcallO G__law_refused (hr.mono (by decide)) rfl (la_cons (lv 1) (la_cons (lv 5) (la_cons (ltup (la_cons lint (la_cons (lv 6) la_nil))) la_nil)))) lstr (nomark _))))) (lss_one (ls_ret lbl)) lss_nil)))
      (lss_one (ls_ret (lcmp (ko_eq K hu) (lv 5) (lv 2) (nomark _))))))))))))), fun vs L Q EL σ h hσ => ?_⟩)
  obtain ⟨x0, rfl, h⟩ := h
  have hσ : ([some x0, none, none, none, none, none, none, none, none, none, none, none, none] : St) = σ := hσ
  subst hσ
  clear hσ hu hr
  clear G__law_refused G__law_list G__law_path G__law_mixed G__law_cell G__law_sound G__law_layout
  have t_cl_Layout := T.cl_Layout
  have t_na_Layout_files := T.na_Layout_files
  have t_na_Layout_slots := T.na_Layout_slots
  have t_na_Layout_data := T.na_Layout_data
  obtain ⟨c, p, ns, rfl, hS, rfl, hns, hq⟩ := h
  rw [show tabsL [(He.cT K ("_law_slots", none)).2, (He.cT K ("_law_sound", none)).2] = [[(tabB K, HO.tbl #[])], [(tabA K, HO.tbl #[])]] from rfl]
  walk_at "w"
  rename_i q dx F E B hb hb'
  refine Wk.by_ (L' := [(tabA K, HO.tbl #[])] :: [(tabB K, HO.tbl #[])] :: layC K q dx F E B :: c :: []) (by walk_at "lic") ⟨_, _, rfl, q, dx, F, E, B, _, _, _, _, rfl, rfl, rfl, hb, by walk_at "mem", TabP.nil, TabP.nil, fun C' C2' T VV kp sp as rows kds d ts rk hT' hT2' hl hd hD => ?_⟩
  have hn := hD.len
  have h8 := hD.e8
  have h33 := hD.sl.l3
  have hkl := hD.ko.len
  have hsl := hD.sl
  have hrk := hD.rk
  have hz : ts.length ≤ 30 := by have := hD.tn; omega
  walk_at "w"
  rename_i H bs hbl
  generalize hLL : ([volC H bs rows, [(T, HO.tup [L2.V.ref VV, L2.V.ref kp, L2.V.ref sp])], volC VV as rows, [(kp, HO.lst (List.map L2.V.int kds))], d, C', C2', layC K q dx F E B, c] : Lg) = LL
  have m1 : layC K q dx F E B ∈ LL := by rw [← hLL]; simp
  have m2 : volC H bs rows ∈ LL := by rw [← hLL]; simp
  have m3 : [(kp, HO.lst (List.map L2.V.int kds))] ∈ LL := by rw [← hLL]; simp
  have m4 : d ∈ LL := by rw [← hLL]; simp
  have m5 : volC VV as rows ∈ LL := by rw [← hLL]; simp
  have m6 : c ∈ LL := by rw [← hLL]; simp
  clear hLL
  refine' fr_3 (k0 := 6) (k1 := 7) (k2 := 8) (fun i L' => L' = LL) ?a0 ?as ?ad
  case a0 => exact Wk.go rfl
  case as =>
    rintro i a0 a1 a2 L' hi rfl
    walk_at "sl"
    walk_at "w"
    rename_i hmx PT pn hpn hpl xs hxs hall
    refine' a_mapFT (fun r => decide (r.getD 0 0 = (i : Int))) (fun r => r.getD 1 0) ?g1 hxs hall rfl (by omega) ?g2 ?g3
    case g1 => walk_at "mem"
    case g2 =>
      intro k r t acc Dl hr m hacl
      obtain ⟨n0, n1, n2, rfl⟩ := list3 (h33 r (List.mem_of_getElem? hr))
      have hu0 : ∀ {L : Lg}, d ∈ L → At L t (.tup [.int n0, .int n1, .int n2]) := fun hm => At.mem hm m
      walk_at "w"
    intro Dl
    walk_at "w"
    · rename_i ms NM hp1 hp2 hp3 hk
      have hk' : kd kds (i : Int) = 2 := hk
      have hp := hpn (by rw [hk']; decide)
      have hlc : ListC F kds ts pn ms := .inr ⟨fun z => (by rw [z, path_one] at hp; cases hp), i, hp, hk', hp1, hp2⟩
      walk_at "w"
      exact Wk.by_ (by walk_at "lic") ⟨rfl, rfl⟩
    · rename_i ms NM hp1 hp2 hp3 hk hk1
      have hk' : kd kds (i : Int) = 1 := hk1
      have hp := hpn (by rw [hk']; decide)
      have hpn0 : ¬ pn = [0] := fun z => (by rw [z, path_one] at hp; cases hp)
      have hi0 : ¬ (i : Int) = 0 := fun z => by rw [z, hD.ko.top] at hk'; cases hk'
      have hne : ¬ pn = [] := fun z => by
        rw [z] at hp
        exact hi0 (Option.some.inj hp).symm
      have hR1 : RefC F kds ts pn "folder" := .inr ⟨rfl, i, hp, hk⟩
      walk_at "w"
      refine s_addA_t (xs := pn.map V.int) (ys := [V.int 3]) (IsT.at_ ?_) (IsT.at_ ?_) (by simpa using hne) (by simp) (by simp only [List.length_map, List.length_cons, List.length_nil]; omega) (fun B1 => ?_)
      · walk_at "at"
      · walk_at "at"
      have e3 : List.map V.int pn ++ [V.int 3] = List.map V.int (pn ++ [3]) := by simp
      rw [e3]
      have hR2 : RefC F kds ts (pn ++ [3]) "path" := .inl ⟨rfl, fun z => hne (by cases pn with
        | nil => rfl
        | cons a b => exact absurd (congrArg List.length z) (by simp)), by
          rw [path_snoc hsl hD.ko.top hp]
          unfold stepM
          rw [if_neg (by rw [hk']; decide)]⟩
      have hbl : (pn ++ [3]).length ≤ 1000 := by simp only [List.length_append, List.length_cons, List.length_nil]; omega
      clear hR1
      walk_at "w"
      exact Wk.by_ (by walk_at "lic") (Wk.go ⟨rfl, rfl⟩)
    · exact Wk.by_ (by walk_at "lic") ⟨rfl, rfl⟩
  rintro a0 a1 a2 L' rfl
  walk_at "sl"
  walk_at "w"
  rename_i xs hxs hall
  refine' a_intsT (fun r => r.getD 2 0) ?b1 hxs hall rfl (by omega) ?bs ?bd
  case b1 => walk_at "mem"
  case bs =>
    intro r t acc Dl hr m hacl
    obtain ⟨n0, n1, n2, rfl⟩ := list3 (h33 r hr)
    have hu0 : ∀ {L : Lg}, d ∈ L → At L t (.tup [.int n0, .int n1, .int n2]) := fun hm => At.mem hm m
    walk_at "w"
  intro Dl
  walk_at "w"
  refine' a_filtN (lo := 1) (fun x => decide (0 < kd kds x ∧ ¬ x ∈ ts.map fun r => r.getD 2 0)) rfl ?c1 ?c2 ?c3
  case c1 => omega
  case c2 =>
    intro i acc Dl2 hi hz2
    walk_at "w"
    · rename_i g1 g2
      exact s_lcnB (decide_eq_false fun z => z.2 g2) (by walk_at "lic")
    · rename_i g1 g2
      exact s_lcyB (decide_eq_true ⟨g1, g2⟩) hz2 (by walk_at "lic") rfl
    · rename_i g1
      exact s_lcnB (decide_eq_false fun z => g1 z.1) (by walk_at "lic")
  intro Dl2
  have hfe : List.filter (fun x => decide (0 < kd kds x ∧ ¬ x ∈ ts.map fun r => r.getD 2 0)) (rngL 1 (F - 1).toNat) = foundM F kds ts := by
    refine List.filter_congr fun x hx => ?_
    have hx2 := mem_rngL.mp hx
    have hc : x ∈ (ts.map fun r => r.getD 2 0) ↔ ¬ cntM ts x = 0 := by
      rw [List.mem_map]
      unfold cntM
      constructor
      · rintro ⟨r, hr, e⟩ z
        have hm : r ∈ ts.filter fun r => decide (r.getD 2 0 = x) := List.mem_filter.mpr ⟨hr, decide_eq_true e⟩
        have h3 := List.length_pos_iff.mpr (List.ne_nil_of_mem hm)
        omega
      · intro z
        obtain ⟨r, hr⟩ := List.exists_mem_of_length_pos (l := ts.filter fun r => decide (r.getD 2 0 = x)) (by omega)
        obtain ⟨h1, h2⟩ := List.mem_filter.mp hr
        exact ⟨r, h1, of_decide_eq_true h2⟩
    refine decide_eq_decide.mpr ?_
    constructor
    · rintro ⟨z1, z2⟩
      refine ⟨by omega, z1, ?_⟩
      by_cases z : cntM ts x = 0
      · exact z
      · exact absurd (hc.mpr z) z2
    · rintro ⟨z1, z2, z3⟩
      exact ⟨z2, fun z => hc.mp z z3⟩
  rw [hfe]
  have hlc : ListC F kds ts [0] (foundM F kds ts) := .inl ⟨rfl, rfl⟩
  have hb1 : ([0] : List Int).length ≤ 1000 := by decide
  walk_at "w"
  rename_i Z0
  rw [show ([(Z0, HO.tup [V.int 0])] : Chunk) = [(Z0, HO.tup (List.map V.int [0]))] from rfl]
  walk_at "w"
  refine' fr_1 (k0 := 6) (fun i L'' => L'' = [(Dl2, HO.lst (List.map V.int (foundM F kds ts)))] :: L') ?e1 ?e2 ?e3
  case e1 => exact Wk.by_ (by walk_at "lic") rfl
  case e2 =>
    rintro i b0 L'' hi rfl
    walk_at "sl"
    walk_at "w"
    · exact Wk.go ⟨rfl, rfl⟩
    rename_i g1 Z1
    have hR : RefC F kds ts [0, (i : Int)] "path" := .inl ⟨rfl, by simp, by
      rw [path_fnd, if_neg]
      intro z
      exact g1 (List.mem_filter.mpr ⟨mem_rngL.mpr (by have := (of_decide_eq_true z).1; omega), z⟩)⟩
    have hb2 : ([0, (i : Int)] : List Int).length ≤ 1000 := by simp
    rw [show ([(Z1, HO.tup [V.int 0, V.int (i : Int)])] : Chunk) = [(Z1, HO.tup (List.map V.int [0, (i : Int)]))] from rfl]
    walk_at "w"
    first
      | exact Wk.by_ (by walk_at "lic") (Wk.go ⟨rfl, rfl⟩)
      | exact Wk.by_ (by walk_at "lic") ⟨rfl, rfl⟩
  rintro b0 L'' rfl
  walk_at "sl"
  walk_at "w"
  refine wk_dec rfl ?_
  exact Wk.go (hq _)
end
open Hd
theorem txt {K : PySem.W.Frag} {h : Heap} {mg : Str → Option Value} (X : K.In h) (G : h.Ns mainGlobals mg) (c : He.SaysD fa fn K) (x : ex K = true) : Txt K mg where
  i_RECORDS := He.int_ok X G (c.fact 0 (f := .int "RECORDS" (10)) rfl)
  cl_Layout := He.cls_ok (c.fact 1 (f := .cls "Layout") rfl)
  na_Layout_files := He.noat_ok (c.fact 2 (f := .noat "Layout" "files") rfl)
  f_slot_at := c.def_ 0 (d := d_slot_at) rfl
  g_slot_at := He.glo_ok X G (c.fact 3 (f := .glo "slot_at") rfl)
  f_Layout_names_at := c.def_ 1 (d := d_Layout_names_at) rfl
  n_divmod := He.free_ok X G (c.fact 4 (f := .free "divmod") rfl)
  i_WIDTH := He.int_ok X G (c.fact 5 (f := .int "WIDTH" (4)) rfl)
  me_Layout_names_at := He.meth_ok (c.fact 6 (f := .meth "Layout" "names_at") rfl)
  f_slot := c.def_ 2 (d := d_slot) rfl
  g_slot := He.glo_ok X G (c.fact 7 (f := .glo "slot") rfl)
  n_tuple := He.free_ok X G (c.fact 8 (f := .free "tuple") rfl)
  f_used_slots := c.def_ 3 (d := d_used_slots) rfl
  g_used_slots := He.glo_ok X G (c.fact 9 (f := .glo "used_slots") rfl)
  n_range := He.free_ok X G (c.fact 10 (f := .free "range") rfl)
  na_Layout_slots := He.noat_ok (c.fact 11 (f := .noat "Layout" "slots") rfl)
  f_names_in := c.def_ 4 (d := d_names_in) rfl
  g_names_in := He.glo_ok X G (c.fact 12 (f := .glo "names_in") rfl)
  n_sorted := He.free_ok X G (c.fact 13 (f := .free "sorted") rfl)
  f_is_folder := c.def_ 5 (d := d_is_folder) rfl
  g_is_folder := He.glo_ok X G (c.fact 14 (f := .glo "is_folder") rfl)
  f_Layout_record_at := c.def_ 6 (d := d_Layout_record_at) rfl
  me_Layout_record_at := He.meth_ok (c.fact 15 (f := .meth "Layout" "record_at") rfl)
  f_slot_of := c.def_ 7 (d := d_slot_of) rfl
  g_slot_of := He.glo_ok X G (c.fact 16 (f := .glo "slot_of") rfl)
  f_step_down := c.def_ 8 (d := d_step_down) rfl
  g_step_down := He.glo_ok X G (c.fact 17 (f := .glo "step_down") rfl)
  gc_NoPath := He.glo_ok X G (c.fact 18 (f := .glo "NoPath") rfl)
  xB_NoPath := by
    have z := x
    unfold ex at z
    try simp only [Bool.and_eq_true, decide_eq_true_eq] at z
    exact z.1
  f_found_records := c.def_ 9 (d := d_found_records) rfl
  g_found_records := He.glo_ok X G (c.fact 19 (f := .glo "found_records") rfl)
  f_find_path := c.def_ 10 (d := d_find_path) rfl
  g_find_path := He.glo_ok X G (c.fact 20 (f := .glo "find_path") rfl)
  n_len := He.free_ok X G (c.fact 21 (f := .free "len") rfl)
  n_list := He.free_ok X G (c.fact 22 (f := .free "list") rfl)
  f_listed := c.def_ 11 (d := d_listed) rfl
  g_listed := He.glo_ok X G (c.fact 23 (f := .glo "listed") rfl)
  gc_NotFolder := He.glo_ok X G (c.fact 24 (f := .glo "NotFolder") rfl)
  xB_NotFolder := by
    have z := x
    unfold ex at z
    try simp only [Bool.and_eq_true, decide_eq_true_eq] at z
    exact z.2.1
  f__law_refusal := c.def_ 12 (d := d__law_refusal) rfl
  g__law_refusal := He.glo_ok X G (c.fact 25 (f := .glo "_law_refusal") rfl)
  n_isinstance := He.free_ok X G (c.fact 26 (f := .free "isinstance") rfl)
  n_ValueError := He.free_ok X G (c.fact 27 (f := .free "ValueError") rfl)
  gc_Full := He.glo_ok X G (c.fact 28 (f := .glo "Full") rfl)
  gc_TooFar := He.glo_ok X G (c.fact 29 (f := .glo "TooFar") rfl)
  gc_NotFile := He.glo_ok X G (c.fact 30 (f := .glo "NotFile") rfl)
  gc_BadNumber := He.glo_ok X G (c.fact 31 (f := .glo "BadNumber") rfl)
  f__law_refused := c.def_ 13 (d := d__law_refused) rfl
  g__law_refused := He.glo_ok X G (c.fact 32 (f := .glo "_law_refused") rfl)
  gc_VolumeError := He.glo_ok X G (c.fact 33 (f := .glo "VolumeError") rfl)
  f__law_list := c.def_ 14 (d := d__law_list) rfl
  g__law_list := He.glo_ok X G (c.fact 34 (f := .glo "_law_list") rfl)
  n_bool := He.free_ok X G (c.fact 35 (f := .free "bool") rfl)
  f__law_path := c.def_ 15 (d := d__law_path) rfl
  g__law_path := He.glo_ok X G (c.fact 36 (f := .glo "_law_path") rfl)
  f__law_mixed := c.def_ 16 (d := d__law_mixed) rfl
  g__law_mixed := He.glo_ok X G (c.fact 37 (f := .glo "_law_mixed") rfl)
  f__law_cell := c.def_ 17 (d := d__law_cell) rfl
  g__law_cell := He.glo_ok X G (c.fact 38 (f := .glo "_law_cell") rfl)
  f__law_check := c.def_ 18 (d := d__law_check) rfl
  g__law_check := He.glo_ok X G (c.fact 39 (f := .glo "_law_check") rfl)
  n_sum := He.free_ok X G (c.fact 40 (f := .free "sum") rfl)
  f__law_take := c.def_ 19 (d := d__law_take) rfl
  g__law_take := He.glo_ok X G (c.fact 41 (f := .glo "_law_take") rfl)
  f__law_pieces := c.def_ 20 (d := d__law_pieces) rfl
  g__law_pieces := He.glo_ok X G (c.fact 42 (f := .glo "_law_pieces") rfl)
  f__law_size := c.def_ 21 (d := d__law_size) rfl
  g__law_size := He.glo_ok X G (c.fact 43 (f := .glo "_law_size") rfl)
  f__law_records := c.def_ 22 (d := d__law_records) rfl
  g__law_records := He.glo_ok X G (c.fact 44 (f := .glo "_law_records") rfl)
  n_int := He.free_ok X G (c.fact 45 (f := .free "int") rfl)
  f__law_stands := c.def_ 23 (d := d__law_stands) rfl
  g__law_stands := He.glo_ok X G (c.fact 46 (f := .glo "_law_stands") rfl)
  f__law_new_name := c.def_ 24 (d := d__law_new_name) rfl
  g__law_new_name := He.glo_ok X G (c.fact 47 (f := .glo "_law_new_name") rfl)
  f__law_slots := c.def_ 25 (d := d__law_slots) rfl
  g__law_slots := He.glo_ok X G (c.fact 48 (f := .glo "_law_slots") rfl)
  f__law_kinds := c.def_ 26 (d := d__law_kinds) rfl
  g__law_kinds := He.glo_ok X G (c.fact 49 (f := .glo "_law_kinds") rfl)
  f__law_sound := c.def_ 27 (d := d__law_sound) rfl
  g__law_sound := He.glo_ok X G (c.fact 50 (f := .glo "_law_sound") rfl)
  n_zip := He.free_ok X G (c.fact 51 (f := .free "zip") rfl)
  na_Layout_data := He.noat_ok (c.fact 52 (f := .noat "Layout" "data") rfl)
  f__law_layout := c.def_ 28 (d := d__law_layout) rfl
  g__law_layout := He.glo_ok X G (c.fact 53 (f := .glo "_law_layout") rfl)
  f_Layout___init__ := c.def_ 29 (d := d_Layout___init__) rfl
  gc_Layout := He.glo_ok X G (c.fact 54 (f := .glo "Layout") rfl)
  mk_Layout := He.mkr_ok (c.fact 55 (f := .mkr "Layout") rfl)
  f_law := c.def_ 30 (d := d_law) rfl
  g_law := He.glo_ok X G (c.fact 56 (f := .glo "law") rfl)
  xc_NoPath := by
    have z := x
    unfold ex at z
    try simp only [Bool.and_eq_true, decide_eq_true_eq] at z
    exact z.2.2.1
  em_NoPath_VolumeError := by
    have z := x
    unfold ex at z
    try simp only [Bool.and_eq_true, decide_eq_true_eq] at z
    exact z.2.2.2.1
  kx_NoPath_ValueError := by
    have z := x
    unfold ex at z
    try simp only [Bool.and_eq_true, decide_eq_true_eq] at z
    exact z.2.2.2.2.1
  kx_NoPath_Full := by
    have z := x
    unfold ex at z
    try simp only [Bool.and_eq_true, decide_eq_true_eq] at z
    exact z.2.2.2.2.2.1
  kx_NoPath_TooFar := by
    have z := x
    unfold ex at z
    try simp only [Bool.and_eq_true, decide_eq_true_eq] at z
    exact z.2.2.2.2.2.2.1
  kx_NoPath_NotFolder := by
    have z := x
    unfold ex at z
    try simp only [Bool.and_eq_true, decide_eq_true_eq] at z
    exact z.2.2.2.2.2.2.2.1
  kx_NoPath_NotFile := by
    have z := x
    unfold ex at z
    try simp only [Bool.and_eq_true, decide_eq_true_eq] at z
    exact z.2.2.2.2.2.2.2.2.1
  kx_NoPath_NoPath := by
    have z := x
    unfold ex at z
    try simp only [Bool.and_eq_true, decide_eq_true_eq] at z
    exact z.2.2.2.2.2.2.2.2.2.1
  kx_NoPath_BadNumber := by
    have z := x
    unfold ex at z
    try simp only [Bool.and_eq_true, decide_eq_true_eq] at z
    exact z.2.2.2.2.2.2.2.2.2.2.1
  xc_NotFolder := by
    have z := x
    unfold ex at z
    try simp only [Bool.and_eq_true, decide_eq_true_eq] at z
    exact z.2.2.2.2.2.2.2.2.2.2.2.1
  em_NotFolder_VolumeError := by
    have z := x
    unfold ex at z
    try simp only [Bool.and_eq_true, decide_eq_true_eq] at z
    exact z.2.2.2.2.2.2.2.2.2.2.2.2.1
  kx_NotFolder_ValueError := by
    have z := x
    unfold ex at z
    try simp only [Bool.and_eq_true, decide_eq_true_eq] at z
    exact z.2.2.2.2.2.2.2.2.2.2.2.2.2.1
  kx_NotFolder_Full := by
    have z := x
    unfold ex at z
    try simp only [Bool.and_eq_true, decide_eq_true_eq] at z
    exact z.2.2.2.2.2.2.2.2.2.2.2.2.2.2.1
  kx_NotFolder_TooFar := by
    have z := x
    unfold ex at z
    try simp only [Bool.and_eq_true, decide_eq_true_eq] at z
    exact z.2.2.2.2.2.2.2.2.2.2.2.2.2.2.2.1
  kx_NotFolder_NotFolder := by
    have z := x
    unfold ex at z
    try simp only [Bool.and_eq_true, decide_eq_true_eq] at z
    exact z.2.2.2.2.2.2.2.2.2.2.2.2.2.2.2.2.1
  kx_NotFolder_NotFile := by
    have z := x
    unfold ex at z
    try simp only [Bool.and_eq_true, decide_eq_true_eq] at z
    exact z.2.2.2.2.2.2.2.2.2.2.2.2.2.2.2.2.2.1
  kx_NotFolder_NoPath := by
    have z := x
    unfold ex at z
    try simp only [Bool.and_eq_true, decide_eq_true_eq] at z
    exact z.2.2.2.2.2.2.2.2.2.2.2.2.2.2.2.2.2.2.1
  kx_NotFolder_BadNumber := by
    have z := x
    unfold ex at z
    try simp only [Bool.and_eq_true, decide_eq_true_eq] at z
    exact z.2.2.2.2.2.2.2.2.2.2.2.2.2.2.2.2.2.2.2.1
theorem nodup_of {K : PySem.W.Frag} (x : ex K = true) : (tf.map fun p => (He.cT K p).2).Nodup := by
  unfold ex at x
  try simp only [Bool.and_eq_true] at x
  exact of_decide_eq_true x.2.2.2.2.2.2.2.2.2.2.2.2.2.2.2.2.2.2.2.2
theorem facts {P : Program} {w : World} {K : PySem.W.Frag} {h : Heap} {mg : Str → Option Value} {f : Addr} (X : K.In h) (G : h.Ns mainGlobals mg) (hfa : mg ("law" : Str) = some (.ref f)) (c : He.SaysD fa fn K) (x : ex K = true) :
    ∃ fd : FuncData, (∀ (s : Shared) (v : Value), BindsTo s fd ⟨[v], []⟩ [("_law_script", v)]) ∧ ∀ base : Heap, K.In base → base.Ns mainGlobals mg → (∀ p ∈ tf.map (He.cT K), LamX.TabB base mg p.1 p.2) → FnOk P w K mg base CX0 10 f fd ["_law_script"] (UpP (sp_law K)) := by
  have T := txt X G c x
  have e := hfa.symm.trans T.g_law
  cases e
  obtain ⟨fd, F⟩ := T.f_law
  have b := FunD.bindsA (ps := ["_law_script"]) F fun _ _ _ _ _ _ us hl => match us, hl with | [_], _ => rfl
  refine ⟨fd, fun s v => b s [v] rfl, fun base hb hn hTB => ?_⟩
  have G_Layout_names_at : OkM P w K mg base 1 (He.ma K (He.ga K "Layout") "names_at") ["self", "number"] (sp_Layout_names_at K) := ok_Layout_names_at T T.f_Layout_names_at
  have G_slot_at : OkF P w K mg base 2 "slot_at" ["layout", "s"] (sp_slot_at K) := ok_slot_at T G_Layout_names_at
  have G_slot : OkF P w K mg base 3 "slot" ["layout", "volume", "s"] (sp_slot K) := ok_slot T G_slot_at
  have G_used_slots : OkF P w K mg base 4 "used_slots" ["layout", "volume"] (sp_used_slots K) := ok_used_slots T G_slot
  have G_names_in : OkF P w K mg base 5 "names_in" ["layout", "volume", "folder"] (sp_names_in K) := ok_names_in T G_used_slots
  have G_Layout_record_at : OkM P w K mg base 1 (He.ma K (He.ga K "Layout") "record_at") ["self", "number"] (sp_Layout_record_at K) := ok_Layout_record_at T T.f_Layout_record_at
  have G_is_folder : OkF P w K mg base 2 "is_folder" ["layout", "volume", "number"] (sp_is_folder K) := ok_is_folder T G_Layout_record_at
  have G_slot_of : OkF P w K mg base 5 "slot_of" ["layout", "volume", "folder", "name"] (sp_slot_of K) := ok_slot_of T G_used_slots
  have G_step_down : OkFX P w K mg base 6 "step_down" ["layout", "volume", "number", "name"] ([] : List V) (sp_step_down K) := ok_step_down T G_slot G_slot_of G_is_folder
  have G_found_records : OkF P w K mg base 2 "found_records" ["layout", "volume"] (sp_found_records K) := ok_found_records T G_Layout_record_at
  have G_find_path : OkFX P w K mg base 7 "find_path" ["layout", "volume", "path"] ([] : List V) (sp_find_path K) := ok_find_path T G_step_down G_found_records
  have G_listed : OkFX P w K mg base 8 "listed" ["layout", "volume", "path"] ([] : List V) (sp_listed K) := ok_listed T G_names_in G_is_folder G_find_path G_found_records
  have G__law_refusal : OkE P w K mg base 1 "_law_refusal" (sp__law_refusal K) := ok__law_refusal T
  have G__law_refused : OkF P w K mg base 9 "_law_refused" ["_law_layout_here", "_law_volume", "_law_path_here"] (sp__law_refused K) := ok__law_refused T G_listed G__law_refusal
  have G__law_list : OkF P w K mg base 9 "_law_list" ["_law_layout_here", "_law_volume", "_law_path_here", "_law_due"] (sp__law_list K) := ok__law_list T G_listed
  have G__law_path : OkF P w K mg base 1 "_law_path" ["_law_slots_here", "_law_f", "_law_cell_here"] (sp__law_path K) := ok__law_path T
  have G__law_mixed : OkF P w K mg base 1 "_law_mixed" ["_law_cell_here", "_law_k"] (sp__law_mixed K) := ok__law_mixed T
  have G__law_cell : OkF P w K mg base 1 "_law_cell" ["_law_script", "_law_k"] (sp__law_cell K) := ok__law_cell T
  have G__law_check : OkF P w K mg base 1 "_law_check" ["_law_numbers"] (sp__law_check K) := ok__law_check T
  have G__law_take : OkF P w K mg base 2 "_law_take" ["_law_cell_here", "_law_k", "_law_wanted", "_law_free"] (sp__law_take K) := ok__law_take T G__law_mixed
  have G__law_pieces : OkF P w K mg base 3 "_law_pieces" ["_law_cell_here", "_law_f", "_law_size_here", "_law_volume", "_law_free"] (sp__law_pieces K) := ok__law_pieces T G__law_take
  have G__law_size : OkF P w K mg base 2 "_law_size" ["_law_cell_here", "_law_f"] (sp__law_size K) := ok__law_size T G__law_mixed
  have G__law_records : OkF P w K mg base 4 "_law_records" ["_law_cell_here", "_law_kinds_here", "_law_slots_here", "_law_volume", "_law_free"] (sp__law_records K) := ok__law_records T G__law_pieces G__law_size
  have G__law_stands : OkF P w K mg base 1 "_law_stands" ["_law_slots_here", "_law_folder", "_law_name"] (sp__law_stands K) := ok__law_stands T
  have G__law_new_name : OkF P w K mg base 2 "_law_new_name" ["_law_cell_here", "_law_k", "_law_slots_here", "_law_folder"] (sp__law_new_name K) := ok__law_new_name T G__law_stands G__law_mixed
  have G__law_slots : OkF P w K mg base 5 "_law_slots" ["_law_cell_here", "_law_kinds_here", "_law_most"] (sp__law_slots K) := ok__law_slots T G__law_mixed G__law_new_name (hTB _ (List.mem_map.mpr ⟨("_law_slots", none), by decide, rfl⟩))
  have G__law_kinds : OkF P w K mg base 2 "_law_kinds" ["_law_cell_here", "_law_files"] (sp__law_kinds K) := ok__law_kinds T G__law_mixed
  have G__law_sound : OkF P w K mg base 6 "_law_sound" ["_law_layout_here", "_law_cell_here"] (sp__law_sound K) := ok__law_sound T G__law_mixed G__law_check G__law_records G__law_slots G__law_kinds (hTB _ (List.mem_map.mpr ⟨("_law_sound", none), by decide, rfl⟩))
  have G_Layout___init__ : OkM P w K mg base 1 (He.ma K (He.ga K "Layout") "__init__") ["self", "files", "slots", "data"] (sp_Layout___init__ K) := ok_Layout___init__ T T.f_Layout___init__
  have G__law_layout : OkF P w K mg base 3 "_law_layout" ["_law_script"] (sp__law_layout K) := ok__law_layout T G__law_mixed G__law_cell G_Layout___init__
  exact ok_law F T G__law_refused G__law_list G__law_path G__law_mixed G__law_cell G__law_sound G__law_layout
end VM
open PySem PySem.W PySem.Calls PyProof.Rows
set_option maxHeartbeats 0 in
theorem PySem.Challenge.cw_volumemend_k63_folders_listed_holds : PySem.Challenge.rw_volumemend_k63_folders_listed.Holds := by
  w_on; o_law
  refine HandSHeadRun.head_any (r := OpenLaw.row PySem.Challenge.rw_volumemend_k63_folders_listed) (q := view (OpenLaw.row PySem.Challenge.rw_volumemend_k63_folders_listed).prog [44]) (H := VM.Hd.hk) (ob := VM.Hd.ob) (M := 20000) (loose := VM.Hd.loose) (d := HandSHeadRun.topDef (OpenLaw.row PySem.Challenge.rw_volumemend_k63_folders_listed).prog 44) (kwd := []) VM.Hd.ob_eq
    (by kernel_rfl) (fun s => by kernel_rfl) VM.Hd.run (by kernel_rfl) (by kernel_rfl) (by kernel_rfl) (by rfl) (by first | assumption | decide +kernel) (by decide +kernel) ⟨rfl, rfl, rfl, rfl, rfl, by decide +kernel⟩ ?hw ?hc
  case hw => w_witness2
  case hc =>
    refine LamX.walk_ofTsE (l := PySem.Challenge.rw_volumemend_k63_folders_listed) (n := 63) (k := 10) (x := "_law_script") (CX := fun _ => L2.CX0) rfl (by decide) (by kernel_rfl) ⟨rfl, by decide, by decide⟩ ?F (fun _ _ _ _ _ z => z)
    intro w mg fa h Y G hmg0
    obtain ⟨K, KX, c⟩ := Y
    have hmg : mg ("law" : PySem.Str) = some (.ref fa) := by
      have e : (HandSHeadRun.topDef (OpenLaw.row PySem.Challenge.rw_volumemend_k63_folders_listed).prog 44).name = ("law" : PySem.Str) := by kernel_rfl
      rw [← e]
      exact hmg0
    obtain ⟨fd, hb, hF⟩ := VM.facts (P := (PySem.Challenge.rw_volumemend_k63_folders_listed).prog) (w := w) KX G hmg (congrArg Prod.fst c.t) c.more
    exact ⟨K, KX, fd, VM.Hd.tf.map (He.cT K), VM.UpP (VM.sp_law K), VM.all_map c.empty, VM.all_map c.out, VM.all_map fun p hp => codeHd_of_K KX (c.hd p hp), hb, fun H a ns hl _ hT hS => VM.law_saysT (ps := VM.Hd.tf.map fun p => (He.cT K p).2) hl (VM.nodup_of c.more) (fun P hP => VM.tab_map hT hP) hS, hF⟩
#print axioms PySem.Challenge.cw_volumemend_k63_folders_listed_holds